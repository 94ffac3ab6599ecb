import PyProof.Rows.All
import Wide.All
import OpenK.AllK
import Wide.FinOn
import HandS.ForMost
import HandS.Evl
import HandS.Lambda
import HandS.TupAny
import HandS.Deep
import HandS.Style
import KE.GoesNew
import KE.SortData
import KE.DataMinMax
import HandS.SetFor
import HandS.Strs
import HandS.IsInst
import HandS.DictComp
import PyProof.ListStr
import HandS.WordsDict
import KE.GoesMore
import HandS.Small
import HandS.Conv
import PyProof.TupleOfSeq
import HandS.Codes
import HandS.TupMul
import HandS.Replace
import PyProof.StrLawsOcc
import PyProof.StrLawsIn
import HandS.TryOnly
import HandS.RaiseMore
import HandS.Wide
import PyProof.Rows.StrCountLaw
import HandS.WideBits
import HandS.ExcInit
import HandS.ExcCtx
import HandS.ExcField
import HandS.TryMany
import KE.KExcInit
import HandS.ExcOwn
import HandS.NestedK
import HandS.ExcIs
import KE.KExcIs
import HandS.EndTab
import PyProof.P3Eq
import HandS.DictTup
import HandS.TupLen
import PyProof.Rows.TupDisplay
import KE.LcSums
import PyProof.InstEq
import HandS.HotCalls
import HandS.DictEq
import HandS.ReplaceList
import PySem.Challenge.RW_webreckon_k19_whole_lists_of_leanings
set_option Elab.async false
set_option linter.all false
set_option maxRecDepth 100000
set_option maxHeartbeats 4000000
namespace G
open PySem L2
abbrev Ex := Evl.Ex
structure LamD where
  qual : Str
  params : Arguments
  body : Expr
  scope : Scope
def lam0 : LamD := ⟨"", { posonlyargs := [], args := [], vararg := none, kwonlyargs := [], kw_defaults := [], kwarg := none, defaults := [] }, .Constant .none 0 ⟨0, 0, 0, 0⟩, { kind := .function, names := [], isGenerator := false, isCoroutine := false }⟩
def LamO (a c' : Addr) (L : LamD) : HO := .ext fun h => ∃ (pm ctv : Value), h.get? a = some (PySem.W.kla_obj "<lambda>" L.qual L.params L.body L.scope [] pm c' ctv)
inductive D where
  | non | bl (b : Bool) | int (i : Int) | str (s : Str)
  | tup (ds : List D) | lst (ds : List D) | dic (kvs : List (Key × D)) | web (pl : Str) (ts : List Str) | fn (n : Str)
  | exc (n f : Str) (d : D) | dit (kds : List (List Key × D))
structure Gp where
  Cw : Addr
  ck : Nat → List V → Prop
  /-- tables of code objects, and the names of the lambdas made there -/
  T : List (Addr × Str)
  /-- the own exception classes by their names -/
  ex : Str → Addr := fun _ => 0
  /-- the lambdas without captured names -/
  lam : Str → LamD := fun _ => lam0
  /-- what the object of a dict with tuple keys holds: keys, where they stand, values -/
  dv : Obj → List (List Key × Addr × V) → Prop := fun _ _ => False
  /-- defs of the module that are data, by their names -/
  gf : Str → Option Addr := fun _ => none
def ditO (a : Addr) (o : Obj) : HO := .ext fun h => (a == sysModules) = false ∧ h.get? a = some o
def isT : HO → Bool
  | .tbl _ => true
  | _ => false
def Kp (o : HO) (x : Option HO) : Prop := if isT o = true then ∃ qs, x = some (.tbl qs) else x = some o
theorem Kp.of {o : HO} {x : Option HO} (h : x = some o) : Kp o x := by
  unfold Kp
  split
  · rename_i z
    cases o <;> first | exact ⟨_, h⟩ | cases z
  · exact h
theorem Kp.get {o : HO} {x : Option HO} (h : Kp o x) (n : isT o = false) : x = some o := by
  unfold Kp at h
  rw [n, if_neg (by decide)] at h
  exact h
theorem Kp.ne {o : HO} {x : Option HO} (h : Kp o x) : x ≠ none := fun z => by
  unfold Kp at h
  split at h
  · obtain ⟨qs, e⟩ := h; rw [z] at e; cases e
  · rw [z] at h; cases h
theorem Kp.trans {o : HO} {x y : Option HO} (h : Kp o x) (k : ∀ u, x = some u → Kp u y) : Kp o y := by
  cases n : isT o with
  | false =>
    exact k o (h.get n)
  | true =>
    unfold Kp at h ⊢
    rw [n, if_pos rfl] at h ⊢
    obtain ⟨qs, e⟩ := h
    have := k _ e
    unfold Kp at this
    rw [show isT (HO.tbl qs) = true from rfl, if_pos rfl] at this
    exact this
theorem no_code {o : HO} (n : ∀ φ, o ≠ .ext φ := by intro _ z; cases z) : ∀ c q, o ≠ LamX.CodeO c q := fun _ _ z => n _ z
mutual
inductive Rep (K : PySem.W.Frag) (g : Gp) (F : Hp) : D → V → Prop
  | non : Rep K g F .non .non
  | bl (b : Bool) : Rep K g F (.bl b) (.bl b)
  | int (i : Int) : Rep K g F (.int i) (.int i)
  | str (s : Str) : Rep K g F (.str s) (.str s)
  | tup {a : Addr} {xs : List V} {ds : List D} : SqT K F a xs → RepL K g F ds xs → Rep K g F (.tup ds) (.ref a)
  | lst {a : Addr} {xs : List V} {ds : List D} : F a = some (.lst xs) → RepL K g F ds xs → Rep K g F (.lst ds) (.ref a)
  | dic {a : Addr} {kvs : List (Key × V)} {kds : List (Key × D)} : F a = some (.dK kvs) → kvs.map (·.1) = kds.map (·.1) → RepL K g F (kds.map (·.2)) (kvs.map (·.2)) → Rep K g F (.dic kds) (.ref a)
  | web {a dx t : Addr} {pl : Str} {ts : List Str} : F a = some (.ins g.Cw dx [("places", .str pl), ("ties", .ref t)]) → SqT K F t (ts.map V.str) → Rep K g F (.web pl ts) (.ref a)
  | fn {a c' : Addr} {n : Str} : g.gf n = none → F a = some (LamO a c' (g.lam n)) → F c' = some (LamX.CodeO c' (g.lam n).qual) → Rep K g F (.fn n) (.ref a)
  | gfn {a : Addr} {n : Str} : g.gf n = some a → Rep K g F (.fn n) (.ref a)
  | exc {a dd : Addr} {oe : Obj} {fv : Array Value} {n f : Str} {d : D} {v : V} : F a = some (.frz oe (.ext fun _ => True)) → Zc (.ref (g.ex n)) (some dd) oe → oe.data = .fields fv → F dd = some (.xd [(f, v)]) → Rep K g F d v → Rep K g F (.exc n f d) (.ref a)
  | dit {a : Addr} {o : Obj} {xs : List (List Key × Addr × V)} {kds : List (List Key × D)} : F a = some (ditO a o) → g.dv o xs → xs.map (·.1) = kds.map (·.1) → (∀ x ∈ xs, SqT K F x.2.1 (x.1.map kV)) → RepL K g F (kds.map (·.2)) (xs.map (·.2.2)) → Rep K g F (.dit kds) (.ref a)
inductive RepL (K : PySem.W.Frag) (g : Gp) (F : Hp) : List D → List V → Prop
  | nil : RepL K g F [] []
  | cons {d : D} {v : V} {ds : List D} {vs : List V} : Rep K g F d v → RepL K g F ds vs → RepL K g F (d :: ds) (v :: vs)
end
section
variable {K : PySem.W.Frag} {g : Gp} {F F' H H' : Hp}
mutual
theorem Rep.mono (e : Ex F F') : ∀ {d : D} {v : V}, Rep K g F d v → Rep K g F' d v
  | _, _, .non => .non
  | _, _, .bl b => .bl b
  | _, _, .int i => .int i
  | _, _, .str s => .str s
  | _, _, .tup h r => .tup (Evl.ex_t e h) (RepL.mono e r)
  | _, _, .lst h r => .lst (e _ _ h) (RepL.mono e r)
  | _, _, .dic h k r => .dic (e _ _ h) k (RepL.mono e r)
  | _, _, .web h r => .web (e _ _ h) (Evl.ex_t e r)
  | _, _, .fn h0 h h2 => .fn h0 (e _ _ h) (e _ _ h2)
  | _, _, .gfn h => .gfn h
  | _, _, .exc h1 h2 h3 h4 r => .exc (e _ _ h1) h2 h3 (e _ _ h4) (Rep.mono e r)
  | _, _, .dit h1 h2 h3 h4 r => .dit (e _ _ h1) h2 h3 (fun x hx => Evl.ex_t e (h4 x hx)) (RepL.mono e r)
theorem RepL.mono (e : Ex F F') : ∀ {ds : List D} {vs : List V}, RepL K g F ds vs → RepL K g F' ds vs
  | _, _, .nil => .nil
  | _, _, .cons h t => .cons (Rep.mono e h) (RepL.mono e t)
end
theorem RepL.length : ∀ {ds : List D} {vs : List V}, RepL K g F ds vs → vs.length = ds.length
  | _, _, .nil => rfl
  | _, _, .cons _ t => by rw [List.length_cons, List.length_cons, RepL.length t]
theorem RepL.append : ∀ {ds es : List D} {vs ws : List V}, RepL K g F ds vs → RepL K g F es ws → RepL K g F (ds ++ es) (vs ++ ws)
  | _, _, _, _, .nil, s => s
  | _, _, _, _, .cons h t, s => .cons h (RepL.append t s)
theorem RepL.get : ∀ {ds : List D} {vs : List V} {i : Nat} {d : D}, RepL K g F ds vs → ds[i]? = some d → ∃ v, vs[i]? = some v ∧ Rep K g F d v
  | _, _, _, _, .nil, e => by simp at e
  | _, _, 0, _, .cons h _, e => by simp at e; subst e; exact ⟨_, rfl, h⟩
  | _, _, i + 1, _, .cons _ t, e => by
    obtain ⟨v, h1, h2⟩ := RepL.get (i := i) t (by simpa using e)
    exact ⟨v, by simpa using h1, h2⟩
theorem RepL.take : ∀ {ds : List D} {vs : List V} (n : Nat), RepL K g F ds vs → RepL K g F (ds.take n) (vs.take n)
  | _, _, 0, _ => .nil
  | _, _, _ + 1, .nil => .nil
  | _, _, n + 1, .cons r t => .cons r (RepL.take n t)
theorem RepL.drop : ∀ {ds : List D} {vs : List V} (n : Nat), RepL K g F ds vs → RepL K g F (ds.drop n) (vs.drop n)
  | _, _, 0, r => r
  | _, _, _ + 1, .nil => .nil
  | _, _, n + 1, .cons _ t => RepL.drop n t
theorem RepL.eraseIdx : ∀ {ds : List D} {vs : List V} (n : Nat), RepL K g F ds vs → RepL K g F (ds.eraseIdx n) (vs.eraseIdx n)
  | _, _, _, .nil => .nil
  | _, _, 0, .cons _ t => t
  | _, _, n + 1, .cons h t => .cons h (RepL.eraseIdx n t)
theorem RepL.set {d : D} {v : V} (r : Rep K g F d v) : ∀ {ds : List D} {vs : List V} (n : Nat), RepL K g F ds vs → RepL K g F (ds.set n d) (vs.set n v)
  | _, _, _, .nil => .nil
  | _, _, 0, .cons _ t => .cons r t
  | _, _, n + 1, .cons h t => .cons h (RepL.set r n t)
theorem repL_strs : ∀ {ts : List Str} {vs : List V}, RepL K g F (ts.map D.str) vs → vs = ts.map V.str
  | [], _, .nil => rfl
  | _ :: _, _, .cons h t => by cases h; rw [repL_strs t]; rfl
theorem repL_bls : ∀ {ts : List Bool} {vs : List V}, RepL K g F (ts.map D.bl) vs → vs = ts.map V.bl
  | [], _, .nil => rfl
  | _ :: _, _, .cons h t => by cases h; rw [repL_bls t]; rfl
theorem repL_of_strs : ∀ (ts : List Str), RepL K g F (ts.map D.str) (ts.map V.str)
  | [] => .nil
  | x :: r => .cons (.str x) (repL_of_strs r)
theorem RepL.reverse {ds : List D} {vs : List V} (h : RepL K g F ds vs) : RepL K g F ds.reverse vs.reverse := by
  induction ds generalizing vs with
  | nil => cases h; exact .nil
  | cons d r ih =>
    cases h with
    | cons h1 t1 => rw [List.reverse_cons, List.reverse_cons]; exact (ih t1).append (.cons h1 .nil)
end
def RepT (K : PySem.W.Frag) (g : Gp) (c : Option Addr) (F H : Hp) : D → V → Prop
  | .lst ds, v => ∃ p xs, v = .ref p ∧ H p = some (.lst xs) ∧ RepL K g F ds xs ∧ c ≠ some p
  | .dic kds, v => ∃ p kvs, v = .ref p ∧ H p = some (.dK kvs) ∧ kvs.map (·.1) = kds.map (·.1) ∧ RepL K g F (kds.map (·.2)) (kvs.map (·.2)) ∧ c ≠ some p
  | .dit kds, v => ∃ p o xs, v = .ref p ∧ H p = some (ditO p o) ∧ g.dv o xs ∧ xs.map (·.1) = kds.map (·.1) ∧ (∀ x ∈ xs, SqT K F x.2.1 (x.1.map kV)) ∧ RepL K g F (kds.map (·.2)) (xs.map (·.2.2)) ∧ c ≠ some p
  | d, v => Rep K g F d v
inductive Sl where
  | no | val (d : D) | ow (d : D) | cask | scr (ns : List Int) | tb (qs : List Addr) (rows : List (List D))
abbrev Sl.own (ds : List D) : Sl := .ow (.lst ds)
def Sl.vl : Sl → Option D
  | .val d => some d
  | _ => none
def Sl.rd : Sl → Option D
  | .val d => some d
  | .ow d => some d
  | _ => none
def ObR (K : PySem.W.Frag) (g : Gp) (F : Hp) (p : Addr) : D → HO → Prop
  | .lst ds, u => ∃ xs, u = .lst xs ∧ RepL K g F ds xs
  | .dic kds, u => ∃ kvs, u = .dK kvs ∧ kvs.map (·.1) = kds.map (·.1) ∧ RepL K g F (kds.map (·.2)) (kvs.map (·.2))
  | .dit kds, u => ∃ o xs, u = ditO p o ∧ g.dv o xs ∧ xs.map (·.1) = kds.map (·.1) ∧ (∀ x ∈ xs, SqT K F x.2.1 (x.1.map kV)) ∧ RepL K g F (kds.map (·.2)) (xs.map (·.2.2))
  | _, _ => False
inductive RowsR (K : PySem.W.Frag) (g : Gp) (c : Option Addr) (F H : Hp) : List (List D) → List Addr → Prop
  | nil : RowsR K g c F H [] []
  | cons {row : List D} {q : Addr} {xs : List V} {rows : List (List D)} {qs : List Addr} : F q = none → c ≠ some q → H q = some (.lst xs) → RepL K g F row xs → RowsR K g c F H rows qs → RowsR K g c F H (row :: rows) (q :: qs)
def SlR (K : PySem.W.Frag) (g : Gp) (c : Option Addr) (F H : Hp) : Sl → Option (Option V) → Prop
  | .no, _ => True
  | .val d, o => ∃ v, o = some (some v) ∧ Rep K g F d v
  | .ow d, o => ∃ p u, o = some (some (.ref p)) ∧ F p = none ∧ H p = some u ∧ ObR K g F p d u ∧ c ≠ some p
  | .cask, o => ∃ a, c = some a ∧ o = some (some (.ref a))
  | .scr ns, o => ∃ a, o = some (some (.ref a)) ∧ SqL K F a (ns.map V.int)
  | .tb qs rows, o => ∃ p, o = some (some (.ref p)) ∧ F p = none ∧ c ≠ some p ∧ H p = some (.lst (qs.map V.ref)) ∧ p ∉ qs ∧ qs.Nodup ∧ RowsR K g c F H rows qs
def Sl.adr : Sl → Option (Option V) → List Addr
  | .ow _, some (some (.ref p)) => [p]
  | .tb qs _, some (some (.ref p)) => p :: qs
  | _, _ => []
theorem ObR.mono {K : PySem.W.Frag} {g : Gp} {F F' : Hp} (e : Ex F F') {p : Addr} {d : D} {u : HO} (h : ObR K g F p d u) : ObR K g F' p d u := by
  cases d with
  | lst ds => obtain ⟨xs, h1, h2⟩ := h; exact ⟨xs, h1, RepL.mono e h2⟩
  | dic kds => obtain ⟨kvs, h1, h2, h3⟩ := h; exact ⟨kvs, h1, h2, RepL.mono e h3⟩
  | dit kds => obtain ⟨o, xs, h1, h2, h3, h4, h5⟩ := h; exact ⟨o, xs, h1, h2, h3, fun x hx => Evl.ex_t e (h4 x hx), RepL.mono e h5⟩
  | _ => exact h
theorem ObR.nt {K : PySem.W.Frag} {g : Gp} {F : Hp} {p : Addr} {d : D} {u : HO} (h : ObR K g F p d u) : isT u = false := by
  cases d with
  | lst ds => obtain ⟨xs, rfl, _⟩ := h; rfl
  | dic kds => obtain ⟨kvs, rfl, _⟩ := h; rfl
  | dit kds => obtain ⟨o, xs, rfl, _⟩ := h; rfl
  | _ => exact h.elim
theorem SlR.own' {K : PySem.W.Frag} {g : Gp} {c : Option Addr} {F H : Hp} {ds : List D} {o : Option (Option V)} (h : SlR K g c F H (.own ds) o) : ∃ p xs, o = some (some (.ref p)) ∧ F p = none ∧ H p = some (.lst xs) ∧ RepL K g F ds xs ∧ c ≠ some p := by
  obtain ⟨p, u, h1, h2, h3, ⟨xs, rfl, h5⟩, h6⟩ := h
  exact ⟨p, xs, h1, h2, h3, h5, h6⟩
theorem SlR.owd' {K : PySem.W.Frag} {g : Gp} {c : Option Addr} {F H : Hp} {kds : List (Key × D)} {o : Option (Option V)} (h : SlR K g c F H (.ow (.dic kds)) o) : ∃ p kvs, o = some (some (.ref p)) ∧ F p = none ∧ H p = some (.dK kvs) ∧ kvs.map (·.1) = kds.map (·.1) ∧ RepL K g F (kds.map (·.2)) (kvs.map (·.2)) ∧ c ≠ some p := by
  obtain ⟨p, u, h1, h2, h3, ⟨kvs, rfl, h4, h5⟩, h6⟩ := h
  exact ⟨p, kvs, h1, h2, h3, h4, h5, h6⟩
theorem RowsR.at {K : PySem.W.Frag} {g : Gp} {c : Option Addr} {F H : Hp} : ∀ {rows : List (List D)} {qs : List Addr} {a : Addr}, RowsR K g c F H rows qs → a ∈ qs → F a = none ∧ c ≠ some a ∧ ∃ u, H a = some u
  | _, _, a, .nil, h => by simp at h
  | _, _, a, .cons h1 h2 h3 _ t, h => by
    rcases List.mem_cons.mp h with rfl | h
    · exact ⟨h1, h2, _, h3⟩
    · exact t.at h
theorem RowsR.keep {K : PySem.W.Frag} {g : Gp} {c : Option Addr} {F H F' H' : Hp} (ex : Ex F F') : ∀ {rows : List (List D)} {qs : List Addr}, RowsR K g c F H rows qs → (∀ a ∈ qs, F' a = none ∧ H' a = H a) → RowsR K g c F' H' rows qs
  | _, _, .nil, _ => .nil
  | _, _, .cons h1 h2 h3 h4 t, k => .cons (k _ (by simp)).1 h2 (by rw [(k _ (by simp)).2]; exact h3) (RepL.mono ex h4) (t.keep ex fun a ha => k a (by simp [ha]))
theorem SlR.at {K : PySem.W.Frag} {g : Gp} {c : Option Addr} {F H : Hp} {s : Sl} {o : Option (Option V)} {a : Addr} (h : SlR K g c F H s o) (ha : a ∈ s.adr o) : F a = none ∧ c ≠ some a ∧ ∃ u, H a = some u := by
  cases s with
  | ow d =>
    obtain ⟨p, u, rfl, h1, h2, _, h4⟩ := h
    rw [show (Sl.ow d).adr (some (some (.ref p))) = [p] from rfl, List.mem_singleton] at ha
    subst ha
    exact ⟨h1, h4, u, h2⟩
  | tb qs rows =>
    obtain ⟨p, rfl, h1, h2, h3, _, _, h6⟩ := h
    rw [show (Sl.tb qs rows).adr (some (some (.ref p))) = p :: qs from rfl] at ha
    rcases List.mem_cons.mp ha with rfl | ha
    · exact ⟨h1, h2, _, h3⟩
    · exact h6.at ha
  | _ => simp [Sl.adr] at ha
theorem SlR.keep {K : PySem.W.Frag} {g : Gp} {c : Option Addr} {F H F' H' : Hp} (ex : Ex F F') {s : Sl} {o : Option (Option V)} (h : SlR K g c F H s o) (k : ∀ a ∈ s.adr o, F' a = none ∧ H' a = H a) : SlR K g c F' H' s o := by
  cases s with
  | no => trivial
  | val d => obtain ⟨v, e, r⟩ := h; exact ⟨v, e, r.mono ex⟩
  | ow d =>
    obtain ⟨p, u, rfl, h1, h2, h3, h4⟩ := h
    have := k p (by simp [Sl.adr])
    exact ⟨p, u, rfl, this.1, by rw [this.2]; exact h2, ObR.mono ex h3, h4⟩
  | cask => exact h
  | scr ns => obtain ⟨a, e, r⟩ := h; exact ⟨a, e, Evl.ex_l ex r⟩
  | tb qs rows =>
    obtain ⟨p, rfl, h1, h2, h3, h4, h5, h6⟩ := h
    have := k p (by simp [Sl.adr])
    exact ⟨p, rfl, this.1, h2, by rw [this.2]; exact h3, h4, h5, h6.keep ex fun a ha => k a (by simp [Sl.adr, ha])⟩
structure TabF (T : List (Addr × Str)) (F H : Hp) : Prop where
  tabs : ∀ p ∈ T, ∃ ps : Array Value, H p.1 = some (.tbl ps) ∧ TriplesOk ps.toList ∧ ∀ (pos : Pos) (cv : Value), codeAmong pos ps.toList = some cv → ∃ c, cv = .ref c ∧ F c = some (LamX.CodeO c p.2)
  nf : ∀ p ∈ T, F p.1 = none
theorem TabF.keep {T : List (Addr × Str)} {F H H' : Hp} (t : TabF T F H) (k : ∀ b o, H b = some o → (isT o = true ∨ ∃ c q, o = LamX.CodeO c q) → H' b = some o) : TabF T F H' := ⟨fun p hp => by
  obtain ⟨ps, h1, h2⟩ := t.tabs p hp
  exact ⟨ps, k _ _ h1 (.inl rfl), h2⟩, t.nf⟩
theorem TabF.mono {T : List (Addr × Str)} {F F' H : Hp} (t : TabF T F H) (e : Ex F F') (n : ∀ p ∈ T, F' p.1 = none) : TabF T F' H := ⟨fun p hp => by
  obtain ⟨ps, h1, h2, h3⟩ := t.tabs p hp
  exact ⟨ps, h1, h2, fun pos cv z => (h3 pos cv z).imp fun c z => ⟨z.1, e _ _ z.2⟩⟩, n⟩
theorem TabF.at {T : List (Addr × Str)} {F H : Hp} (t : TabF T F H) {p : Addr × Str} (hp : p ∈ T) : ∃ ps : Array Value, H p.1 = some (.tbl ps) := (t.tabs p hp).imp fun _ z => z.1
theorem TabF.upd {T : List (Addr × Str)} {F H : Hp} {D : Addr} {o u : HO} (t : TabF T F H) (h : H D = some o) (n : isT o = false) (n' : ∀ c q, o ≠ LamX.CodeO c q) : TabF T F (L2.upd H D u) := t.keep fun b v hb z => by
  have : b ≠ D := fun e => by
    subst e
    rw [h] at hb
    cases hb
    rcases z with z | ⟨c, q, z⟩
    · rw [n] at z; cases z
    · exact n' c q z
  rw [upd_ne this]; exact hb
theorem TabF.fix {T : List (Addr × Str)} {F H : Hp} {D : Addr} {o u : HO} (t : TabF T F H) (h : H D = some o) (hF : F D = none) (n : isT o = false := by rfl) : TabF T (L2.upd F D u) H := t.mono (Evl.Ex.new hF) fun p hp => by
  obtain ⟨ps, h1⟩ := t.at hp
  rw [upd_ne fun z => by rw [z, h] at h1; cases h1; cases n]
  exact t.nf p hp
structure Ck (g : Gp) (c : Option Addr) (m : Nat) (F H : Hp) : Prop where
  cask : ∀ a, c = some a → F a = none ∧ ∃ xs, H a = some (.lst xs) ∧ g.ck m xs
  tb : TabF g.T F H
instance {g : Gp} {c : Option Addr} {m : Nat} {F H : Hp} : CoeFun (Ck g c m F H) fun _ => ∀ a, c = some a → F a = none ∧ ∃ xs, H a = some (.lst xs) ∧ g.ck m xs := ⟨Ck.cask⟩
structure Rel (K : PySem.W.Frag) (g : Gp) (c : Option Addr) (F : Hp) (env : List Sl) (m : Nat) (σ : St) (H : Hp) : Prop where
  sub : Ex F H
  len : env.length = σ.length
  slot : ∀ (i : Nat) (s : Sl), env[i]? = some s → SlR K g c F H s σ[i]?
  sep : ∀ (i j : Nat) (si sj : Sl) (a : Addr), env[i]? = some si → env[j]? = some sj → a ∈ si.adr σ[i]? → a ∈ sj.adr σ[j]? → i = j
  ck : Ck g c m F H
structure New (F H F' H' : Hp) : Prop where
  ff : Ex F F'
  fh : Ex F' H'
  hh : Ex H H'
  new : ∀ a o, F' a = some o → F a = some o ∨ H a = none
structure Fresh (c : Option Addr) (F H F' H' : Hp) : Prop where
  ff : Ex F F'
  fh : Ex F' H'
  hk : ∀ a o, H a = some o → c ≠ some a → Kp o (H' a)
  new : ∀ a o, F' a = some o → F a = some o ∨ H a = none
  nc : ∀ a, c = some a → F' a = none
theorem Fresh.hh {c : Option Addr} {F H F' H' : Hp} (f : Fresh c F H F' H') (a : Addr) (o : HO) (h : H a = some o) (n : c ≠ some a) (t : isT o = false := by first | rfl | assumption) : H' a = some o := (f.hk a o h n).get t
theorem Fresh.sm {c : Option Addr} {F H F' H' : Hp} (f : Fresh c F H F' H') {a : Addr} {o : HO} (h : H a = some o) (n : c ≠ some a) (z : H' a = none) : False := (f.hk a o h n).ne z
section
variable {K : PySem.W.Frag} {g : Gp} {c : Option Addr} {F F' F1 F2 H H' H1 H2 : Hp} {env : List Sl} {m m' : Nat} {σ : St}
theorem New.refl (e : Ex F H) : New F H F H := ⟨fun _ _ h => h, e, fun _ _ h => h, fun _ _ h => .inl h⟩
theorem ex_none {F H : Hp} {p : Addr} (e : Ex F H) (h : H p = none) : F p = none := by
  cases q : F p with
  | none => rfl
  | some o => rw [e p o q] at h; cases h
theorem New.fix {p : Addr} {o : HO} (e : Ex F H) (hp : H p = none) : New F H (upd F p o) (upd H p o) where
  ff := Evl.Ex.new (ex_none e hp)
  fh := fun a u h => by
    by_cases q : a = p
    · subst q; rw [upd_same] at h ⊢; exact h
    · rw [upd_ne q] at h ⊢; exact e a u h
  hh := Evl.Ex.new hp
  new := fun a u h => by
    by_cases q : a = p
    · subst q; exact .inr hp
    · rw [upd_ne q] at h; exact .inl h
theorem New.lay {p : Addr} {o : HO} (e : Ex F H) (hp : H p = none) : New F H F (upd H p o) where
  ff := fun _ _ h => h
  fh := fun a u h => Evl.Ex.new hp a u (e a u h)
  hh := Evl.Ex.new hp
  new := fun a u h => .inl h
theorem New.trans (a : New F H F1 H1) (b : New F1 H1 F2 H2) : New F H F2 H2 where
  ff := a.ff.trans b.ff
  fh := b.fh
  hh := a.hh.trans b.hh
  new := fun x o h => by
    rcases b.new x o h with q | q
    · exact a.new x o q
    · exact .inr (ex_none a.hh q)
theorem Fresh.refl (e : Ex F H) (k : Ck g c m F H) : Fresh c F H F H := ⟨fun _ _ h => h, e, fun _ _ h _ => .of h, fun _ _ h => .inl h, fun a h => (k a h).1⟩
theorem Fresh.trans (a : Fresh c F H F1 H1) (b : Fresh c F1 H1 F2 H2) : Fresh c F H F2 H2 where
  ff := a.ff.trans b.ff
  fh := b.fh
  hk := fun x o h n => (a.hk x o h n).trans fun u hu => b.hk x u hu n
  nc := b.nc
  new := fun x o h => by
    rcases b.new x o h with q | q
    · exact a.new x o q
    · cases z : H x with
      | none => exact .inr rfl
      | some u =>
        by_cases n : c = some x
        · rw [b.nc x n] at h; cases h
        · exact (a.sm z n q).elim
theorem Ck.new (k : Ck g c m F H) (n : New F H F' H') : Ck g c m F' H' := ⟨fun a e => (by
  obtain ⟨h1, xs, h2, h3⟩ := k a e
  refine ⟨?_, xs, n.hh _ _ h2, h3⟩
  cases q : F' a with
  | none => rfl
  | some o =>
    rcases n.new a o q with z | z
    · rw [h1] at z; cases z
    · rw [h2] at z; cases z), (k.tb.keep fun b o h _ => n.hh b o h).mono n.ff fun p hp => by
  cases q : F' p.1 with
  | none => rfl
  | some o =>
    obtain ⟨ps, h1⟩ := k.tb.at hp
    rcases n.new _ o q with z | z
    · rw [k.tb.nf p hp] at z; cases z
    · rw [h1] at z; cases z⟩
theorem New.fresh (n : New F H F' H') (k : Ck g c m F H) : Fresh c F H F' H' :=
  ⟨n.ff, n.fh, fun a o h _ => .of (n.hh a o h), n.new, fun a e => (k.new n a e).1⟩
theorem RepT.of {d : D} {v : V} (e : Ex F H) (nc : ∀ a, c = some a → F a = none) (h : Rep K g F d v) : RepT K g c F H d v := by
  cases h with
  | lst h r => exact ⟨_, _, rfl, e _ _ h, r, fun z => by rw [nc _ z] at h; cases h⟩
  | non => exact .non
  | bl b => exact .bl b
  | int i => exact .int i
  | str s => exact .str s
  | tup h r => exact .tup h r
  | dic h k r => exact ⟨_, _, rfl, e _ _ h, k, r, fun z => by rw [nc _ z] at h; cases h⟩
  | web h r => exact .web h r
  | fn h0 h h2 => exact .fn h0 h h2
  | gfn h => exact .gfn h
  | exc h1 h2 h3 h4 r => exact .exc h1 h2 h3 h4 r
  | dit h1 h2 h3 h4 r => exact ⟨_, _, _, rfl, e _ _ h1, h2, h3, h4, r, fun z => by rw [nc _ z] at h1; cases h1⟩
theorem RepT.mono {d : D} {v : V} (n : Fresh c F H F' H') (h : RepT K g c F H d v) : RepT K g c F' H' d v := by
  cases d with
  | lst ds =>
    obtain ⟨p, xs, e, h1, h2, h3⟩ := h
    exact ⟨p, xs, e, n.hh _ _ h1 h3, RepL.mono n.ff h2, h3⟩
  | dic kds =>
    obtain ⟨p, xs, e, h1, hk, h2, h3⟩ := h
    exact ⟨p, xs, e, n.hh _ _ h1 h3, hk, RepL.mono n.ff h2, h3⟩
  | dit kds =>
    obtain ⟨p, o, xs, e, h1, h2, h3, h4, h5, h6⟩ := h
    exact ⟨p, o, xs, e, n.hh _ _ h1 h6, h2, h3, fun x hx => Evl.ex_t n.ff (h4 x hx), RepL.mono n.ff h5, h6⟩
  | _ => exact Rep.mono n.ff h
theorem dit_code {a : Addr} {o : Obj} : ∀ c q, ditO a o ≠ LamX.CodeO c q := fun c q z => by
  have e : (fun h : Heap => (a == sysModules) = false ∧ h.get? a = some o) = fun h : Heap => ∃ (oc : Obj) (vs : Array Value) (t : Tok), h.get? c = some oc ∧ oc.data = .fields vs ∧ vs[1]? = some (.str q t) := HO.ext.inj z
  have one : ∀ t : Tok, ({ cls := .none, data := .fields #[.none, .str q t] } : Obj) = o := fun t => by
    let ob : Obj := { cls := .none, data := .fields #[.none, .str q t] }
    let h : Heap := ⟨Array.replicate (c + 1) ob, {}⟩
    have all : ∀ a o, h.get? a = some o → o = ob := fun a o ho => by
      have h1 : (Array.replicate (c + 1) ob)[a]? = some o := (Heap.get?_some_iff.mp ho).1
      rw [Array.getElem?_replicate] at h1
      split at h1
      · exact (Option.some.inj h1).symm
      · cases h1
    have hc : h.get? c = some ob := Heap.get?_some_iff.mpr ⟨by
      show (Array.replicate (c + 1) ob)[c]? = some ob
      rw [Array.getElem?_replicate, if_pos (Nat.lt_succ_self c)], rfl⟩
    have r : (fun h : Heap => (a == sysModules) = false ∧ h.get? a = some o) h := by
      rw [e]
      exact ⟨ob, _, _, hc, rfl, rfl⟩
    exact (all _ _ r.2).symm
  have := (one 0).trans (one 1).symm
  injection this with _ _ h3
  injection h3 with h3
  have h4 := congrArg (fun x : Array Value => x[1]?) h3
  have h5 : some (Value.str q 0) = some (Value.str q 1) := h4
  injection h5 with h5
  injection h5 with _ h5
  cases h5
theorem SlR.at' {s : Sl} {o : Option (Option V)} {a : Addr} (h : SlR K g c F H s o) (ha : a ∈ s.adr o) : F a = none ∧ c ≠ some a ∧ ∃ u, H a = some u ∧ isT u = false ∧ ∀ c q, u ≠ LamX.CodeO c q := by
  cases s with
  | ow d =>
    obtain ⟨p, u, rfl, h1, h2, h3, h4⟩ := h
    rw [show (Sl.ow d).adr (some (some (.ref p))) = [p] from rfl, List.mem_singleton] at ha
    subst ha
    refine ⟨h1, h4, u, h2, ?_⟩
    cases d with
    | lst ds => obtain ⟨xs, rfl, _⟩ := h3; exact ⟨rfl, no_code⟩
    | dic kds => obtain ⟨kvs, rfl, _⟩ := h3; exact ⟨rfl, no_code⟩
    | dit kds => obtain ⟨o, xs, rfl, _⟩ := h3; exact ⟨rfl, dit_code⟩
    | _ => exact h3.elim
  | tb qs rows =>
    obtain ⟨p, rfl, h1, h2, h3, _, _, h6⟩ := h
    rw [show (Sl.tb qs rows).adr (some (some (.ref p))) = p :: qs from rfl] at ha
    rcases List.mem_cons.mp ha with rfl | ha
    · exact ⟨h1, h2, _, h3, rfl, no_code⟩
    · have : ∀ {rows : List (List D)} {qs : List Addr} {a : Addr}, RowsR K g c F H rows qs → a ∈ qs → F a = none ∧ c ≠ some a ∧ ∃ u, H a = some u ∧ isT u = false ∧ ∀ c q, u ≠ LamX.CodeO c q := by
        intro rows qs a r
        induction r with
        | nil => intro h; simp at h
        | cons h1 h2 h3 _ _ ih =>
          intro h
          rcases List.mem_cons.mp h with rfl | h
          · exact ⟨h1, h2, _, h3, rfl, no_code⟩
          · exact ih h
      exact this h6 ha
  | _ => simp [Sl.adr] at ha
theorem SlR.mono {s : Sl} {o : Option (Option V)} (n : Fresh c F H F' H') (h : SlR K g c F H s o) : SlR K g c F' H' s o := h.keep n.ff fun a ha => by
  obtain ⟨h1, h2, u, h3, ht, _⟩ := h.at' ha
  refine ⟨?_, by rw [h3, n.hh a u h3 h2 ht]⟩
  cases q : F' a with
  | none => rfl
  | some u2 =>
    rcases n.new a u2 q with z | z
    · rw [h1] at z; cases z
    · rw [h3] at z; cases z
theorem Rel.fresh (r : Rel K g c F env m σ H) (n : Fresh c F H F' H') (k : Ck g c m' F' H') : Rel K g c F' env m' σ H' :=
  ⟨n.fh, r.len, fun i s h => (r.slot i s h).mono n, r.sep, k⟩
theorem Rel.new (r : Rel K g c F env m σ H) (n : New F H F' H') : Rel K g c F' env m σ H' := r.fresh (n.fresh r.ck) (r.ck.new n)
theorem Rel.nc (r : Rel K g c F env m σ H) : ∀ a, c = some a → F a = none := fun a h => (r.ck a h).1
end
abbrev Env' := List Sl
abbrev DE := Env' → Nat → (D → Nat → Prop) → Prop
abbrev DT := Env' → Nat → (Bool → Nat → Prop) → Prop
abbrev DA := Env' → Nat → (List Sl → Nat → Prop) → Prop
abbrev DL := Env' → Nat → (List D → Nat → Prop) → Prop
def ArgsR (K : PySem.W.Frag) (g : Gp) (c : Option Addr) (F : Hp) : List Sl → List V → Prop := Paired fun s v => match s with
  | .val d => Rep K g F d v
  | .cask => ∃ a, c = some a ∧ v = .ref a
  | .scr ns => ∃ a, v = .ref a ∧ SqL K F a (ns.map V.int)
  | _ => False
section
variable (K : PySem.W.Frag) (g : Gp)
def tD (d : DE) : TE := fun σ H Q' => ∃ c F env m Q, Rel K g c F env m σ H ∧ d env m Q ∧
  ∀ v H' F' m' x, Rel K g c F' env m' σ H' → Fresh c F H F' H' → Rep K g F' x v → Q x m' → Q' v H'
def tB (d : DE) : TE := fun σ H Q' => ∃ c F env m Q, Rel K g c F env m σ H ∧ d env m Q ∧
  ∀ v H' F' m' x, Rel K g c F' env m' σ H' → Fresh c F H F' H' → RepT K g c F' H' x v → Q x m' → Q' v H'
def tN (d : DL) : TE := fun σ H Q' => ∃ c F env m Q, Rel K g c F env m σ H ∧ d env m Q ∧
  ∀ p H' F' m' ds xs, Rel K g c F' env m' σ H' → Fresh c F H F' H' → H p = none → F' p = none → c ≠ some p → H' p = some (.lst xs) → RepL K g F' ds xs → Q ds m' → Q' (.ref p) H'
def tT (d : DT) : TT := fun σ H Q' => ∃ c F env m Q, Rel K g c F env m σ H ∧ d env m Q ∧
  ∀ b H' F' m', Rel K g c F' env m' σ H' → Fresh c F H F' H' → Q b m' → Q' b H'
def tAr (d : DA) : TA := fun σ H Q' => ∃ c F env m Q, Rel K g c F env m σ H ∧ d env m Q ∧
  ∀ vs H' F' m' as, Rel K g c F' env m' σ H' → Fresh c F H F' H' → ArgsR K g c F' as vs → Q as m' → Q' vs H'
def RepTs (c : Option Addr) (F H : Hp) : List D → List V → Prop := Paired (RepT K g c F H)
def tAb (d : DL) : TA := fun σ H Q' => ∃ c F env m Q, Rel K g c F env m σ H ∧ d env m Q ∧
  ∀ vs H' F' m' ds, Rel K g c F' env m' σ H' → Fresh c F H F' H' → RepTs K g c F' H' ds vs → Q ds m' → Q' vs H'
end
def GE (g : Gp) (X : Cx) (e : Expr) (d : DE) : Prop := PE X e (tD X.K g d)
def GB (g : Gp) (X : Cx) (e : Expr) (d : DE) : Prop := PE X e (tB X.K g d)
def GN (g : Gp) (X : Cx) (e : Expr) (d : DL) : Prop := PE X e (tN X.K g d)
def GT (g : Gp) (X : Cx) (e : Expr) (d : DT) : Prop := PT X e (tT X.K g d)
def GA (g : Gp) (X : Cx) (es : List Expr) (d : DA) : Prop := PA X es (tAr X.K g d)
def GAb (g : Gp) (X : Cx) (es : List Expr) (d : DL) : Prop := PA X es (tAb X.K g d)
theorem PE.weak {X : Cx} {e : Expr} {t t' : TE} (h : PE X e t) (w : ∀ σ H Q, t' σ H Q → t σ H Q) : PE X e t' := ⟨fun pins s σ H Q I q => h.run pins s σ H Q I (w σ H Q q)⟩
theorem PT.weak {X : Cx} {e : Expr} {t t' : TT} (h : PT X e t) (w : ∀ σ H Q, t' σ H Q → t σ H Q) : PT X e t' := ⟨fun pins s σ H Q I q => h.run pins s σ H Q I (w σ H Q q)⟩
theorem PW.weak {X : Cx} {e : Expr} {t t' : TT} (h : PW X e t) (w : ∀ σ H Q, t' σ H Q → t σ H Q) : PW X e t' := ⟨fun wh pins s σ H Q I q => h.run wh pins s σ H Q I (w σ H Q q)⟩
theorem PA.weak {X : Cx} {es : List Expr} {t t' : TA} (h : PA X es t) (w : ∀ σ H Q, t' σ H Q → t σ H Q) : PA X es t' := ⟨fun pos pins s σ H Q I q => h.run pos pins s σ H Q I (w σ H Q q)⟩
theorem PS.weak {X : Cx} {e : Stmt} {t t' : TS} (h : PS X e t) (w : ∀ D σ H, t' D σ H → t D σ H) : PS X e t' := ⟨fun pins s σ H D I q => h.run pins s σ H D I (w D σ H q)⟩
theorem PSs.weak {X : Cx} {e : List Stmt} {t t' : TS} (h : PSs X e t) (w : ∀ D σ H, t' D σ H → t D σ H) : PSs X e t' := ⟨fun pins s σ H D I q => h.run pins s σ H D I (w D σ H q)⟩
section
variable {g : Gp} {X : Cx} {a b e : Expr} {es : List Expr} {da db d : DE} {pos : Pos}
theorem gb_e (h : GE g X e d) : GB g X e d := PE.weak h fun σ H Q ⟨c, F, env, m, Q1, r, hd, k⟩ => ⟨c, F, env, m, Q1, r, hd, fun v H' F' m' x r' f rep q => k v H' F' m' x r' f (RepT.of r'.sub r'.nc rep) q⟩
def dNew (d : DL) : DE := fun env m Q => d env m fun ds m' => Q (.lst ds) m'
theorem fix_fresh {K : PySem.W.Frag} {c : Option Addr} {F H F' H' : Hp} {p : Addr} {xs : List V} (f : Fresh c F H F' H') (h0 : H p = none) (hp : F' p = none) (hc : c ≠ some p) (h1 : H' p = some (.lst xs)) : Fresh c F H (upd F' p (.lst xs)) H' where
  ff := f.ff.trans (Evl.Ex.new hp)
  fh := fun a o z => by
    by_cases y : a = p
    · subst y; rw [upd_same] at z; rw [← z]; exact h1
    · rw [upd_ne y] at z; exact f.fh a o z
  hk := f.hk
  new := fun a o z => by
    by_cases y : a = p
    · subst y; exact .inr h0
    · rw [upd_ne y] at z; exact f.new a o z
  nc := fun a e => by
    have y : a ≠ p := fun q => hc (q ▸ e)
    rw [upd_ne y]; exact f.nc a e
theorem ge_n {d : DL} (h : GN g X e d) : GE g X e (dNew d) := PE.weak h fun σ H Q ⟨c, F, env, m, Q1, r, hd, k⟩ => ⟨c, F, env, m, _, r, hd, fun p H' F' m' ds xs r' f h0 hp hc h1 h2 q => by
  have n := fix_fresh (K := X.K) f h0 hp hc h1
  refine k _ H' _ m' _ (r.fresh n ⟨fun a e => ?_, r'.ck.tb.fix h1 hp⟩) n (.lst upd_same (RepL.mono (Evl.Ex.new hp) h2)) q
  exact ⟨n.nc a e, (r'.ck a e).2⟩⟩
end
end G
namespace G
open PySem L2
section
variable {K : PySem.W.Frag} {g : Gp} {c : Option Addr} {F H : Hp} {v : V}
theorem RepT.non' (h : RepT K g c F H .non v) : v = .non := by have h' : Rep K g F .non v := h; cases h'; rfl
theorem RepT.bl' {b : Bool} (h : RepT K g c F H (.bl b) v) : v = .bl b := by have h' : Rep K g F (.bl b) v := h; cases h'; rfl
theorem RepT.int' {i : Int} (h : RepT K g c F H (.int i) v) : v = .int i := by have h' : Rep K g F (.int i) v := h; cases h'; rfl
theorem RepT.str' {s : Str} (h : RepT K g c F H (.str s) v) : v = .str s := by have h' : Rep K g F (.str s) v := h; cases h'; rfl
theorem RepT.tup' {ds : List D} (h : RepT K g c F H (.tup ds) v) : ∃ a xs, v = .ref a ∧ SqT K F a xs ∧ RepL K g F ds xs := by
  have h' : Rep K g F (.tup ds) v := h
  cases h' with
  | tup q r => exact ⟨_, _, rfl, q, r⟩
theorem RepT.dic' {kds : List (Key × D)} (h : RepT K g c F H (.dic kds) v) : ∃ a kvs, v = .ref a ∧ H a = some (.dK kvs) ∧ kvs.map (·.1) = kds.map (·.1) ∧ RepL K g F (kds.map (·.2)) (kvs.map (·.2)) ∧ c ≠ some a := h
theorem RepT.web' {pl : Str} {ts : List Str} (h : RepT K g c F H (.web pl ts) v) : ∃ a dx t, v = .ref a ∧ F a = some (.ins g.Cw dx [("places", .str pl), ("ties", .ref t)]) ∧ SqT K F t (ts.map V.str) := by
  have h' : Rep K g F (.web pl ts) v := h
  cases h' with
  | web q r => exact ⟨_, _, _, rfl, q, r⟩
abbrev LL : Nat := 100000
theorem ll {n : Nat} (h : n ≤ LL) : n ≤ sizeLine := Evl.sz_of h
theorem ll' {n : Nat} (h : n < LL) : n < sizeLine := Evl.sz_lt h
end
def dVar (i : Nat) : DE := fun env m Q => ∃ d, (env[i]?).bind Sl.vl = some d ∧ Q d m
def dVarB (i : Nat) : DE := fun env m Q => ∃ d, (env[i]?).bind Sl.rd = some d ∧ Q d m
def dC (d : D) : DE := fun _ m Q => Q d m
section
variable {g : Gp} {X : Cx} {a b e : Expr} {es : List Expr} {da db d : DE} {pos : Pos}
theorem vl_some {env : Env'} {i : Nat} {d : D} (h : (env[i]?).bind Sl.vl = some d) : env[i]? = some (.val d) := by
  cases q : env[i]? with
  | none => rw [q] at h; cases h
  | some s =>
    rw [q] at h
    cases s with
    | val x => cases h; rfl
    | _ => cases h
theorem gv (i : Nat) {x : Str} (hN : X.N[i]? = some x := by rfl) (hv : Vis X.env.scope x := by first | exact Or.inl rfl | exact Or.inr (Or.inl rfl) | exact Or.inr (Or.inr rfl)) (hd : (x == ("__debug__" : Str)) = false := by decide)
    (hcd : (x == ("__classdict__" : Str)) = false := by decide) : GE g X (.Name x pos) (dVar i) := PE.weak (pe_var hN hv hd hcd) fun σ H Q ⟨c, F, env, m, Q1, r, ⟨d, hd, q⟩, k⟩ => by
  obtain ⟨v, e, rp⟩ := r.slot i _ (vl_some hd)
  exact ⟨v, e, k v H F m d r (Fresh.refl r.sub r.ck) rp q⟩
theorem gvb (i : Nat) {x : Str} (hN : X.N[i]? = some x := by rfl) (hv : Vis X.env.scope x := by first | exact Or.inl rfl | exact Or.inr (Or.inl rfl) | exact Or.inr (Or.inr rfl)) (hd : (x == ("__debug__" : Str)) = false := by decide)
    (hcd : (x == ("__classdict__" : Str)) = false := by decide) : GB g X (.Name x pos) (dVarB i) := PE.weak (pe_var hN hv hd hcd) fun σ H Q ⟨c, F, env, m, Q1, r, ⟨d, hd, q⟩, k⟩ => by
  cases z : env[i]? with
  | none => rw [z] at hd; cases hd
  | some s =>
    rw [z] at hd
    have w := r.slot i s z
    cases s with
    | val x =>
      cases hd
      obtain ⟨v, e, rp⟩ := w
      exact ⟨v, e, k v H F m _ r (Fresh.refl r.sub r.ck) (RepT.of r.sub r.nc rp) q⟩
    | ow d =>
      cases hd
      obtain ⟨p, u, e, h1, h2, h3, h4⟩ := w
      cases d with
      | lst ds =>
        obtain ⟨xs, rfl, h3⟩ := h3
        exact ⟨.ref p, e, k _ H F m (.lst ds) r (Fresh.refl r.sub r.ck) ⟨p, xs, rfl, h2, h3, h4⟩ q⟩
      | dic kds =>
        obtain ⟨kvs, rfl, hk, h3⟩ := h3
        exact ⟨.ref p, e, k _ H F m (.dic kds) r (Fresh.refl r.sub r.ck) ⟨p, kvs, rfl, h2, hk, h3, h4⟩ q⟩
      | dit kds =>
        obtain ⟨o, xs, rfl, h3⟩ := h3
        exact ⟨.ref p, e, k _ H F m (.dit kds) r (Fresh.refl r.sub r.ck) ⟨p, o, xs, rfl, h2, h3.1, h3.2.1, h3.2.2.1, h3.2.2.2, h4⟩ q⟩
      | _ => exact h3.elim
    | _ => cases hd
theorem ge_const {v : V} {t : TE} (h : PE X e (tC v)) (rp : ∀ F, Rep X.K g F d' v) : GE g X e (dC d') := PE.weak h fun σ H Q ⟨c, F, env, m, Q1, r, q, k⟩ => k v H F m _ r (Fresh.refl r.sub r.ck) (rp F) q
theorem ge_int {i j} : GE g X (.Constant (.int i) j pos) (dC (.int i)) := ge_const (t := fun _ _ _ => True) pe_int fun _ => .int i
theorem ge_str {x j} : GE g X (.Constant (.str x) j pos) (dC (.str x)) := ge_const (t := fun _ _ _ => True) pe_str fun _ => .str x
theorem ge_bl {x j} : GE g X (.Constant (.bool x) j pos) (dC (.bl x)) := ge_const (t := fun _ _ _ => True) pe_bl fun _ => .bl x
theorem ge_non {j} : GE g X (.Constant .none j pos) (dC .non) := ge_const (t := fun _ _ _ => True) pe_non fun _ => .non
theorem ge_globI {x : Str} {i : Int} {t : Tok} (hg : Gl X x) (hm : X.mg x = some (.int i t)) (hd : (x == ("__debug__" : Str)) = false := by decide) : GE g X (.Name x pos) (dC (.int i)) := ge_const (t := fun _ _ _ => True) (pe_glob (v := .int i) hg hm ⟨_, rfl⟩ hd) fun _ => .int i
theorem ge_globS {x : Str} {i : Str} {t : Tok} (hg : Gl X x) (hm : X.mg x = some (.str i t)) (hd : (x == ("__debug__" : Str)) = false := by decide) : GE g X (.Name x pos) (dC (.str i)) := ge_const (t := fun _ _ _ => True) (pe_glob (v := .str i) hg hm ⟨_, rfl⟩ hd) fun _ => .str i
def OpD (K : PySem.W.Frag) (g : Gp) (r : R2) (f : D → D → Option D) : Prop := ∀ (c : Option Addr) (F H : Hp) (x y z : D) (v w : V) (Q' : VK), Ex F H → (∀ a, c = some a → F a = none) →
  RepT K g c F H x v → RepT K g c F H y w → f x y = some z → (∀ v' H' F', New F H F' H' → Rep K g F' z v' → Q' v' H') → r v w H Q'
def dOp (f : D → D → Option D) (da db : DE) : DE := fun env m Q => da env m fun x m1 => db env m1 fun y m2 => ∃ z, f x y = some z ∧ Q z m2
theorem op_weak {r : R2} {f : D → D → Option D} (od : OpD X.K g r f) : ∀ σ H Q, tD X.K g (dOp f da db) σ H Q → tOp r (tB X.K g da) (tB X.K g db) σ H Q := fun σ H Q ⟨c, F, env, m, Q1, rl, hd, k⟩ =>
  ⟨c, F, env, m, _, rl, hd, fun v H1 F1 m1 x r1 f1 rp1 q1 => ⟨c, F1, env, m1, _, r1, q1, fun w H2 F2 m2 y r2 f2 rp2 ⟨z, hz, q2⟩ =>
    od c F2 H2 x y z v w Q r2.sub r2.nc (rp1.mono f2) rp2 hz fun v' H' F' n rp => k v' H' F' m2 z (r2.new n) ((f1.trans f2).trans (n.fresh r2.ck)) rp q2⟩⟩
theorem ge_op {op : Operator} {r : R2} {f : D → D → Option D} (ho : OpR X (binaryOp op) r) (od : OpD X.K g r f) (ha : GB g X a da) (hb : GB g X b db) : GE g X (.BinOp a op b pos) (dOp f da db) := PE.weak (pe_op ho ha hb) (op_weak od)
theorem ge_cmp {op : CmpOp} {r : R2} {f : D → D → Option D} (ho : OpR X (compareOp op) r) (od : OpD X.K g r f) (ha : GB g X a da) (hb : GB g X b db) (hm : behindInMarks op b = false) : GE g X (.Compare a [op] [b] pos) (dOp f da db) := PE.weak (pe_cmpR ho ha hb hm) (op_weak od)
def dTest (d : DE) : DT := fun env m Q => d env m fun x m1 => ∃ b, x = .bl b ∧ Q b m1
theorem test_weak {t : TE} (w : ∀ σ H Q, tD X.K g d σ H Q → t σ H Q) : ∀ σ H Q, tT X.K g (dTest d) σ H Q → tTest t σ H Q := fun σ H Q ⟨c, F, env, m, Q1, rl, hd, k⟩ => by
  refine w σ H _ ⟨c, F, env, m, _, rl, hd, fun v H' F' m' x r' f' rp q => ?_⟩
  obtain ⟨b, rfl, q⟩ := q
  cases rp
  exact ⟨b, rfl, k b H' F' m' r' f' q⟩
theorem gt_cmp {op : CmpOp} {r : R2} {f : D → D → Option D} (ho : OpR X (compareOp op) r) (od : OpD X.K g r f) (ha : GB g X a da) (hb : GB g X b db) (hm : behindInMarks op b = false) : GT g X (.Compare a [op] [b] pos) (dTest (dOp f da db)) :=
  PT.weak (pt_cmpR ho ha hb hm) (test_weak (op_weak od))
theorem gt_val (h : GE g X e d) (he : ∀ whole, isTrue e X.env whole = (do let v ← whole; standAt e.pos; holding [v] (truthy v)) := by intro _; rfl) : GT g X e (dTest d) :=
  PT.weak (pt_val h he) (test_weak (t := tD X.K g d) fun _ _ _ h => h)
def dChain (f f' : D → D → Option D) (da db dc : DE) : DE := fun env m Q => da env m fun x m1 => db env m1 fun y m2 => ∃ b, f x y = some (.bl b) ∧ if b = true then dc env m2 fun z m3 => ∃ u, f' y z = some u ∧ Q u m3 else Q (.bl false) m2
variable {cc : Expr} {dc : DE}
theorem chain_weak {r r' : R2} {f f' : D → D → Option D} (od : OpD X.K g r f) (od' : OpD X.K g r' f') (scal : ∀ x y b, f x y = some b → True) : ∀ σ H Q, tD X.K g (dChain f f' da db dc) σ H Q → tChain r r' (tB X.K g da) (tB X.K g db) (tB X.K g dc) σ H Q := fun σ H Q ⟨c, F, env, m, Q1, rl, hd, k⟩ =>
  ⟨c, F, env, m, _, rl, hd, fun v H1 F1 m1 x r1 f1 rp1 q1 => ⟨c, F1, env, m1, _, r1, q1, fun w H2 F2 m2 y r2 f2 rp2 ⟨b, hz, q2⟩ =>
    od c F2 H2 x y _ v w _ r2.sub r2.nc (rp1.mono f2) rp2 hz fun v' H' F' n rp => by
      cases rp
      refine ⟨b, rfl, ?_⟩
      have r3 := r2.new n
      have f3 := (f1.trans f2).trans (n.fresh r2.ck)
      cases b with
      | false => exact k _ H' F' m2 _ r3 f3 (.bl false) q2
      | true =>
        exact ⟨c, F', env, m2, _, r3, q2, fun u H4 F4 m4 z r4 f4 rp4 ⟨o, ho, q4⟩ =>
          od' c F4 H4 y z o w u Q r4.sub r4.nc ((rp2.mono (n.fresh r2.ck)).mono f4) rp4 ho fun v5 H5 F5 n5 rp5 => k v5 H5 F5 m4 o (r4.new n5) ((f3.trans f4).trans (n5.fresh r4.ck)) rp5 q4⟩⟩⟩
theorem ge_chain {op op' : CmpOp} {r r' : R2} {f f' : D → D → Option D} (ho : OpR X (compareOp op) r) (ho' : OpR X (compareOp op') r') (od : OpD X.K g r f) (od' : OpD X.K g r' f') (ha : GB g X a da) (hb : GB g X b db) (hc : GB g X cc dc)
    (hl : lastMarks [op, op'] [b, cc] = false := by with_unfolding_all rfl) : GE g X (.Compare a [op, op'] [b, cc] pos) (dChain f f' da db dc) :=
  PE.weak (pe_chain ho ho' ha hb hc hl) (chain_weak od od' fun _ _ _ _ => trivial)
variable {t u : DT} {rest : List Expr}
def GW (g : Gp) (X : Cx) (e : Expr) (d : DT) : Prop := PW X e (tT X.K g d)
def dAnd (t u : DT) : DT := fun env m Q => t env m fun b m1 => if b = true then u env m1 Q else Q false m1
def dOr (t u : DT) : DT := fun env m Q => t env m fun b m1 => if b = true then Q true m1 else u env m1 Q
def dNot (t : DT) : DT := fun env m Q => t env m fun b m1 => Q (!b) m1
theorem gw_pt (h : GW g X e t) : GT g X e t := PW.pt h
theorem gw_and1 (h : GT g X a t) : GW g X (.BoolOp .And [a] pos) t := pw_and1 h
theorem gw_or1 (h : GT g X a t) : GW g X (.BoolOp .Or [a] pos) t := pw_or1 h
theorem gw_and (ha : GT g X a t) (hb : GW g X (.BoolOp .And (b :: rest) pos) u) : GW g X (.BoolOp .And (a :: b :: rest) pos) (dAnd t u) := PW.weak (pw_and ha hb) fun σ H Q ⟨c, F, env, m, Q1, rl, hd, k⟩ =>
  ⟨c, F, env, m, _, rl, hd, fun x H1 F1 m1 r1 f1 q1 => by
    cases x with
    | true => exact ⟨c, F1, env, m1, _, r1, q1, fun y H2 F2 m2 r2 f2 q2 => k y H2 F2 m2 r2 (f1.trans f2) q2⟩
    | false => exact k false H1 F1 m1 r1 f1 q1⟩
theorem gw_or (ha : GT g X a t) (hb : GW g X (.BoolOp .Or (b :: rest) pos) u) : GW g X (.BoolOp .Or (a :: b :: rest) pos) (dOr t u) := PW.weak (pw_or ha hb) fun σ H Q ⟨c, F, env, m, Q1, rl, hd, k⟩ =>
  ⟨c, F, env, m, _, rl, hd, fun x H1 F1 m1 r1 f1 q1 => by
    cases x with
    | false => exact ⟨c, F1, env, m1, _, r1, q1, fun y H2 F2 m2 r2 f2 q2 => k y H2 F2 m2 r2 (f1.trans f2) q2⟩
    | true => exact k true H1 F1 m1 r1 f1 q1⟩
theorem gt_not (ha : GT g X a t) : GT g X (.UnaryOp .Not a pos) (dNot t) := PT.weak (pt_not ha) fun σ H Q ⟨c, F, env, m, Q1, rl, hd, k⟩ => ⟨c, F, env, m, _, rl, hd, fun x H1 F1 m1 r1 f1 q1 => k _ H1 F1 m1 r1 f1 q1⟩
def dIfE (t : DT) (da db : DE) : DE := fun env m Q => t env m fun b m1 => if b = true then da env m1 Q else db env m1 Q
theorem ge_if {t : DT} (hc : GT g X cc t) (ha : GE g X a da) (hb : GE g X b db) : GE g X (.IfExp cc a b pos) (dIfE t da db) := PE.weak (pe_ifExp hc ha hb) fun σ H Q ⟨c, F, env, m, Q1, rl, hd, k⟩ =>
  ⟨c, F, env, m, _, rl, hd, fun x H1 F1 m1 r1 f1 q1 => by
    cases x with
    | true => exact ⟨c, F1, env, m1, _, r1, q1, fun y H2 F2 m2 z r2 f2 rp q2 => k y H2 F2 m2 z r2 (f1.trans f2) rp q2⟩
    | false => exact ⟨c, F1, env, m1, _, r1, q1, fun y H2 F2 m2 z r2 f2 rp q2 => k y H2 F2 m2 z r2 (f1.trans f2) rp q2⟩⟩
def dAndV (da db : DE) : DE := fun env m Q => da env m fun x m1 => ∃ b, x = .bl b ∧ if b = true then db env m1 Q else Q (.bl false) m1
theorem ge_one {op} (h : GE g X a da) : GE g X (.BoolOp op [a] pos) da := pe_one h
theorem ge_and (ha : GE g X a da) (hb : GE g X (.BoolOp .And (b :: rest) pos) db) : GE g X (.BoolOp .And (a :: b :: rest) pos) (dAndV da db) := PE.weak (pe_and ha hb) fun σ H Q ⟨c, F, env, m, Q1, rl, hd, k⟩ =>
  ⟨c, F, env, m, _, rl, hd, fun v H1 F1 m1 x r1 f1 rp ⟨y, hy, q1⟩ => by
    subst hy
    cases rp
    refine ⟨y, rfl, ?_⟩
    cases y with
    | true => exact ⟨c, F1, env, m1, _, r1, q1, fun y H2 F2 m2 z r2 f2 rp q2 => k y H2 F2 m2 z r2 (f1.trans f2) rp q2⟩
    | false => exact k _ H1 F1 m1 _ r1 f1 (.bl false) q1⟩
def dNilA : DA := fun _ m Q => Q [] m
def dConsA (d : DE) (r : DA) : DA := fun env m Q => d env m fun x m1 => r env m1 fun as m2 => Q (.val x :: as) m2
def dConsC (i : Nat) (r : DA) : DA := fun env m Q => ∃ s, env[i]? = some s ∧ (s = .cask ∨ ∃ ns, s = .scr ns) ∧ r env m fun as m2 => Q (s :: as) m2
variable {dr : DA}
theorem ArgsR.mono {K : PySem.W.Frag} {c : Option Addr} {F F' : Hp} (e : Ex F F') : ∀ {as : List Sl} {vs : List V}, ArgsR K g c F as vs → ArgsR K g c F' as vs
  | _, _, .nil => .nil
  | s :: _, _, .cons h t => .cons (by
      cases s with
      | val d => exact Rep.mono e h
      | cask => exact h
      | scr ns => obtain ⟨a, e1, e2⟩ := h; exact ⟨a, e1, Evl.ex_l e e2⟩
      | no => exact h
      | ow ds => exact h
      | tb qs rows => exact h) (ArgsR.mono e t)
theorem ga_nil : GA g X [] dNilA := PA.weak pa_nil fun σ H Q ⟨c, F, env, m, Q1, rl, hd, k⟩ => k [] H F m [] rl (Fresh.refl rl.sub rl.ck) .nil hd
theorem ga_cons (ha : GE g X e d) (hr : GA g X es dr) (hs : starEach (e :: es) X.env = (false, eval e X.env) :: starEach es X.env := by rfl) : GA g X (e :: es) (dConsA d dr) := PA.weak (pa_cons ha hr hs) fun σ H Q ⟨c, F, env, m, Q1, rl, hd, k⟩ =>
  ⟨c, F, env, m, _, rl, hd, fun v H1 F1 m1 x r1 f1 rp q1 => ⟨c, F1, env, m1, _, r1, q1, fun vs H2 F2 m2 as r2 f2 rps q2 => k _ H2 F2 m2 _ r2 (f1.trans f2) (.cons (rp.mono f2.ff) rps) q2⟩⟩
theorem ga_cask (i : Nat) {x : Str} (hr : GA g X es dr) (hN : X.N[i]? = some x := by rfl) (hv : Vis X.env.scope x := by first | exact Or.inl rfl | exact Or.inr (Or.inl rfl) | exact Or.inr (Or.inr rfl)) (hd : (x == ("__debug__" : Str)) = false := by decide)
    (hcd : (x == ("__classdict__" : Str)) = false := by decide) (hs : starEach (.Name x pos :: es) X.env = (false, eval (.Name x pos) X.env) :: starEach es X.env := by rfl) : GA g X (.Name x pos :: es) (dConsC i dr) :=
  PA.weak (pa_cons (pe_var hN hv hd hcd) hr hs) fun σ H Q ⟨c, F, env, m, Q1, rl, ⟨s, e1, e2, q⟩, k⟩ => by
    have w := rl.slot i s e1
    rcases e2 with rfl | ⟨ns, rfl⟩
    · obtain ⟨a, ca, ea⟩ := w
      exact ⟨.ref a, ea, c, F, env, m, _, rl, q, fun vs H2 F2 m2 as r2 f2 rps q2 => k _ H2 F2 m2 (.cask :: as) r2 f2 (.cons ⟨a, ca, rfl⟩ rps) q2⟩
    · obtain ⟨a, ea, ca⟩ := w
      exact ⟨.ref a, ea, c, F, env, m, _, rl, q, fun vs H2 F2 m2 as r2 f2 rps q2 => k _ H2 F2 m2 (.scr ns :: as) r2 f2 (.cons ⟨a, rfl, Evl.ex_l f2.ff ca⟩ rps) q2⟩
def dNilL : DL := fun _ m Q => Q [] m
def dConsL (d : DE) (r : DL) : DL := fun env m Q => d env m fun x m1 => r env m1 fun ds m2 => Q (x :: ds) m2
variable {dl : DL}
theorem RepTs.mono {K : PySem.W.Frag} {c : Option Addr} {F F' H H' : Hp} (n : Fresh c F H F' H') : ∀ {ds : List D} {vs : List V}, RepTs K g c F H ds vs → RepTs K g c F' H' ds vs
  | _, _, .nil => .nil
  | _, _, .cons h t => .cons (h.mono n) (RepTs.mono n t)
theorem gab_nil : GAb g X [] dNilL := PA.weak pa_nil fun σ H Q ⟨c, F, env, m, Q1, rl, hd, k⟩ => k [] H F m [] rl (Fresh.refl rl.sub rl.ck) .nil hd
theorem gab_cons (ha : GB g X e d) (hr : GAb g X es dl) (hs : starEach (e :: es) X.env = (false, eval e X.env) :: starEach es X.env := by rfl) : GAb g X (e :: es) (dConsL d dl) := PA.weak (pa_cons ha hr hs) fun σ H Q ⟨c, F, env, m, Q1, rl, hd, k⟩ =>
  ⟨c, F, env, m, _, rl, hd, fun v H1 F1 m1 x r1 f1 rp q1 => ⟨c, F1, env, m1, _, r1, q1, fun vs H2 F2 m2 as r2 f2 rps q2 => k _ H2 F2 m2 _ r2 (f1.trans f2) (.cons (rp.mono f2) rps) q2⟩⟩
def tAl (K : PySem.W.Frag) (g : Gp) (d : DL) : TA := fun σ H Q' => ∃ c F env m Q, Rel K g c F env m σ H ∧ d env m Q ∧
  ∀ vs H' F' m' ds, Rel K g c F' env m' σ H' → Fresh c F H F' H' → RepL K g F' ds vs → Q ds m' → Q' vs H'
def GAl (g : Gp) (X : Cx) (es : List Expr) (d : DL) : Prop := PA X es (tAl X.K g d)
theorem gal_nil : GAl g X [] dNilL := PA.weak pa_nil fun σ H Q ⟨c, F, env, m, Q1, rl, hd, k⟩ => k [] H F m [] rl (Fresh.refl rl.sub rl.ck) .nil hd
theorem gal_cons (ha : GE g X e d) (hr : GAl g X es dl) (hs : starEach (e :: es) X.env = (false, eval e X.env) :: starEach es X.env := by rfl) : GAl g X (e :: es) (dConsL d dl) := PA.weak (pa_cons ha hr hs) fun σ H Q ⟨c, F, env, m, Q1, rl, hd, k⟩ =>
  ⟨c, F, env, m, _, rl, hd, fun v H1 F1 m1 x r1 f1 rp q1 => ⟨c, F1, env, m1, _, r1, q1, fun vs H2 F2 m2 as r2 f2 rps q2 => k _ H2 F2 m2 _ r2 (f1.trans f2) (.cons (rp.mono f2.ff) rps) q2⟩⟩
def dTup (d : DL) : DE := fun env m Q => d env m fun ds m1 => ds.length ≤ LL ∧ Q (.tup ds) m1
def dLst (d : DL) : DL := fun env m Q => d env m fun ds m1 => ds.length ≤ LL ∧ Q ds m1
theorem ge_tup {x1} (h : GAl g X es dl) : GE g X (.Tuple es x1 pos) (dTup dl) := PE.weak (pe_tup h) fun σ H Q ⟨c, F, env, m, Q1, rl, hd, k⟩ =>
  ⟨c, F, env, m, _, rl, hd, fun vs H1 F1 m1 ds r1 f1 rp ⟨hz, q1⟩ => ⟨ll (by rw [rp.length]; exact hz), fun p hp => by
    have n := New.fix (F := F1) (o := .tup vs) r1.sub hp
    exact k _ _ _ m1 _ (r1.new n) (f1.trans (n.fresh r1.ck)) (.tup (SqT.of upd_same) (rp.mono n.ff)) q1⟩⟩
theorem gn_lst (h : GAl g X es dl) : GN g X (.List es pos) (dLst dl) := PE.weak (pe_lst h) fun σ H Q ⟨c, F, env, m, Q1, rl, hd, k⟩ =>
  ⟨c, F, env, m, _, rl, hd, fun vs H1 F1 m1 ds r1 f1 rp ⟨hz, q1⟩ => ⟨ll (by rw [rp.length]; exact hz), fun p hp => by
    have n := New.lay (F := F1) (o := .lst vs) r1.sub hp
    refine k p _ _ m1 ds vs (r1.new n) (f1.trans (n.fresh r1.ck)) ?_ (ex_none r1.sub hp) (fun z => ?_) upd_same rp q1
    · cases q : H p with
      | none => rfl
      | some o =>
        by_cases z : c = some p
        · obtain ⟨_, _, e, _⟩ := r1.ck p z; rw [e] at hp; cases hp
        · exact (f1.sm q z hp).elim
    · obtain ⟨_, _, e, _⟩ := r1.ck p z; rw [e] at hp; cases hp⟩⟩
end
end G
namespace G
open PySem L2
def addD : D → D → Option D
  | .int i, .int j => some (.int (i + j))
  | .str a, .str b => if a.length + b.length ≤ LL then some (.str (a ++ b)) else none
  | .tup a, .tup b => if a.length + b.length ≤ LL then some (.tup (a ++ b)) else none
  | .lst a, .lst b => if a.length + b.length ≤ LL then some (.lst (a ++ b)) else none
  | _, _ => none
def subD : D → D → Option D
  | .int i, .int j => some (.int (i - j))
  | _, _ => none
def mulD : D → D → Option D
  | .int i, .int j => if (-(2 ^ 64) < i ∧ i < 2 ^ 64) ∨ (-(2 ^ 64) < j ∧ j < 2 ^ 64) then some (.int (i * j)) else none
  | .lst ds, .int k => if 0 ≤ k ∧ k ≤ 1000 ∧ ds.length * k.toNat ≤ LL then some (.lst (List.replicate k.toNat ds).flatten) else none
  | _, _ => none
def powD : D → D → Option D
  | .int i, .int j => if 0 ≤ j ∧ j ≤ 1000000 ∧ i.natAbs < 2 ^ 64 then some (.int (i ^ j.toNat)) else none
  | _, _ => none
def sLt (a b : Str) : Bool := decide (a.cps.toList < b.cps.toList)
def ltD : D → D → Option D
  | .int i, .int j => some (.bl (decide (i < j)))
  | .str a, .str b => some (.bl (sLt a b))
  | _, _ => none
def leD : D → D → Option D
  | .int i, .int j => some (.bl (decide (i ≤ j)))
  | .str a, .str b => some (.bl (!sLt b a))
  | _, _ => none
def gtD : D → D → Option D
  | .int i, .int j => some (.bl (decide (j < i)))
  | .str a, .str b => some (.bl (sLt b a))
  | _, _ => none
section
variable {K : PySem.W.Frag} {g : Gp}
theorem od_I0 {f : Int → Int → V} {fd : Int → Int → D} {r : D → D → Option D} (h : ∀ x y z, r x y = some z → ∃ i j, x = .int i ∧ y = .int j ∧ z = fd i j) (hf : ∀ F i j, Rep K g F (fd i j) (f i j)) : OpD K g (rI0 f) r := fun c F H x y z v w Q' e nc rx ry hz k => by
  obtain ⟨i, j, rfl, rfl, rfl⟩ := h x y z hz
  exact ⟨i, j, rx.int', ry.int', k _ H F (New.refl e) (hf F i j)⟩
theorem od_I {C : Int → Int → Prop} {f : Int → Int → V} {fd : Int → Int → D} {r : D → D → Option D} (h : ∀ x y z, r x y = some z → ∃ i j, x = .int i ∧ y = .int j ∧ C i j ∧ z = fd i j) (hf : ∀ F i j, Rep K g F (fd i j) (f i j)) : OpD K g (rI C f) r := fun c F H x y z v w Q' e nc rx ry hz k => by
  obtain ⟨i, j, rfl, rfl, hc, rfl⟩ := h x y z hz
  exact ⟨i, j, rx.int', ry.int', hc, k _ H F (New.refl e) (hf F i j)⟩
theorem od_or {r r' : R2} {f f1 f2 : D → D → Option D} (h : OpD K g r f1) (h' : OpD K g r' f2) (hf : ∀ x y z, f x y = some z → f1 x y = some z ∨ f2 x y = some z) : OpD K g (fun x y H Q => r x y H Q ∨ r' x y H Q) f := fun c F H x y z v w Q' e nc rx ry hz k => by
  rcases hf x y z hz with q | q
  · exact .inl (h c F H x y z v w Q' e nc rx ry q k)
  · exact .inr (h' c F H x y z v w Q' e nc rx ry q k)
def addI : D → D → Option D | .int i, .int j => some (.int (i + j)) | _, _ => none
def addS : D → D → Option D | .str a, .str b => if a.length + b.length ≤ LL then some (.str (a ++ b)) else none | _, _ => none
def addT : D → D → Option D | .tup a, .tup b => if a.length + b.length ≤ LL then some (.tup (a ++ b)) else none | _, _ => none
def addL : D → D → Option D | .lst a, .lst b => if a.length + b.length ≤ LL then some (.lst (a ++ b)) else none | _, _ => none
def rAddS : R2 := fun x y H Q => ∃ i j, x = .str i ∧ y = .str j ∧ i.length + j.length ≤ sizeLine ∧ Q (.str (i ++ j)) H
theorem od_addS : OpD K g rAddS addS := fun c F H x y z v w Q' e nc rx ry hz k => by
  unfold addS at hz
  split at hz
  · split at hz
    · rename_i h
      cases hz
      exact ⟨_, _, rx.str', ry.str', ll h, k _ H F (New.refl e) (.str _)⟩
    · cases hz
  · cases hz
theorem od_addT : OpD K g (rCatA K) addT := fun c F H x y z v w Q' e nc rx ry hz k => by
  unfold addT at hz
  split at hz
  · rename_i a b
    split at hz
    · rename_i h
      cases hz
      obtain ⟨p, xs, e1, h1, r1⟩ := rx.tup'
      obtain ⟨q, ys, e2, h2, r2⟩ := ry.tup'
      refine ⟨p, q, xs, ys, e1, e2, Evl.ex_t e h1, Evl.ex_t e h2, ll (by rw [r1.length, r2.length]; exact h), fun ex => ?_, fun ex ey => ?_, fun ex ey t ht => ?_⟩
      · subst ex; cases r1; exact k _ H F (New.refl e) (.tup h2 r2)
      · subst ey; cases r2; rw [List.append_nil] at k; exact k _ H F (New.refl e) (.tup h1 r1)
      · have n := New.fix (o := .tup (xs ++ ys)) e ht
        exact k _ _ _ n (.tup (SqT.of upd_same) ((r1.append r2).mono n.ff))
    · cases hz
  · cases hz
theorem od_addL : OpD K g rCat addL := fun c F H x y z v w Q' e nc rx ry hz k => by
  unfold addL at hz
  split at hz
  · rename_i a b
    split at hz
    · rename_i h
      cases hz
      obtain ⟨p, xs, e1, h1, r1, _⟩ := rx
      obtain ⟨q, ys, e2, h2, r2, _⟩ := ry
      refine ⟨p, q, xs, ys, e1, e2, h1, h2, ll (by rw [r1.length, r2.length]; exact h), fun t ht => ?_⟩
      have n := New.fix (o := .lst (xs ++ ys)) e ht
      exact k _ _ _ n (.lst upd_same ((r1.append r2).mono n.ff))
    · cases hz
  · cases hz
def rAddG (K : PySem.W.Frag) : R2 := fun x y H Q => rI0 (fun i j => .int (i + j)) x y H Q ∨ (rAddS x y H Q ∨ (rCatA K x y H Q ∨ rCat x y H Q))
theorem or_add {X : Cx} : OpR X (binaryOp .Add) (rAddG X.K) := op_add.or (OpR.or (r := rAddS) op_add_str (op_catA.or op_cat))
theorem od_add : OpD K g (rAddG K) addD := od_or (f1 := addI) (f2 := fun x y => match addS x y with | some z => some z | none => match addT x y with | some z => some z | none => addL x y)
    (od_I0 (fun x y z h => by unfold addI at h; split at h; · cases h; exact ⟨_, _, rfl, rfl, rfl⟩
                              · cases h) fun F i j => .int _)
    (od_or (f1 := addS) (f2 := fun x y => match addT x y with | some z => some z | none => addL x y) od_addS (od_or (f1 := addT) (f2 := addL) od_addT od_addL (fun x y z h => by
      split at h
      · rename_i q; left; rw [q]; exact h
      · exact .inr h)) (fun x y z h => by
      split at h
      · rename_i q; left; rw [q]; exact h
      · exact .inr h)) (fun x y z h => by
      cases x <;> cases y <;> simp only [addD, addI, addS, addT, addL] at h ⊢ <;> first | exact .inl h | (right; rw [h]) | (right; exact h) | (cases h))
def mulI : D → D → Option D | .int i, .int j => if (-(2 ^ 64) < i ∧ i < 2 ^ 64) ∨ (-(2 ^ 64) < j ∧ j < 2 ^ 64) then some (.int (i * j)) else none | _, _ => none
def mulL : D → D → Option D | .lst ds, .int k => if 0 ≤ k ∧ k ≤ 1000 ∧ ds.length * k.toNat ≤ LL then some (.lst (List.replicate k.toNat ds).flatten) else none | _, _ => none
theorem RepL.rep {F : Hp} {ds : List D} {xs : List V} (h : RepL K g F ds xs) : ∀ k : Nat, RepL K g F (List.replicate k ds).flatten (List.replicate k xs).flatten
  | 0 => .nil
  | k + 1 => by rw [List.replicate_succ, List.replicate_succ, List.flatten_cons, List.flatten_cons]; exact h.append (RepL.rep h k)
theorem od_mulL : OpD K g rRep mulL := fun c F H x y z v w Q' e nc rx ry hz k => by
  unfold mulL at hz
  split at hz
  · rename_i ds j
    split at hz
    · rename_i h
      cases hz
      obtain ⟨p, xs, e1, h1, r1, _⟩ := rx
      refine ⟨p, j, xs, e1, ry.int', h1, by omega, by omega, ll (by rw [r1.length]; exact h.2.2), fun t ht => ?_⟩
      have n := New.fix (o := .lst (List.replicate j.toNat xs).flatten) e ht
      exact k _ _ _ n (.lst upd_same ((r1.rep _).mono n.ff))
    · cases hz
  · cases hz
theorem or_mul {X : Cx} : OpR X (binaryOp .Mult) (fun x y H Q => rI CMul (fun i j => .int (i * j)) x y H Q ∨ rRep x y H Q) := op_mul.or op_rep
theorem od_mul : OpD K g (fun x y H Q => rI CMul (fun i j => .int (i * j)) x y H Q ∨ rRep x y H Q) mulD := od_or (f1 := mulI) (f2 := mulL) (od_I (fun x y z h => by
  unfold mulI at h; split at h
  · split at h
    · cases h; exact ⟨_, _, rfl, rfl, ‹_›, rfl⟩
    · cases h
  · cases h) fun F i j => .int _) od_mulL (fun x y z h => by
      cases x <;> cases y <;> simp only [mulD, mulI, mulL] at h ⊢ <;> first | exact .inl h | exact .inr h | (cases h))
def rSS (f : Str → Str → V) : R2 := fun x y H Q => ∃ i j, x = .str i ∧ y = .str j ∧ Q (f i j) H
abbrev rCmp (fi : Int → Int → V) (fs : Str → Str → V) : R2 := fun x y H Q => rI0 fi x y H Q ∨ rSS fs x y H Q
theorem od_cmp {fi : Int → Int → Bool} {fs : Str → Str → Bool} {f : D → D → Option D} (h : ∀ x y z, f x y = some z → (∃ i j, x = .int i ∧ y = .int j ∧ z = .bl (fi i j)) ∨ (∃ i j, x = .str i ∧ y = .str j ∧ z = .bl (fs i j))) :
    OpD K g (rCmp (fun i j => .bl (fi i j)) (fun i j => .bl (fs i j))) f := fun c F H x y z v w Q' e nc rx ry hz k => by
  rcases h x y z hz with ⟨i, j, rfl, rfl, rfl⟩ | ⟨i, j, rfl, rfl, rfl⟩
  · exact .inl ⟨i, j, rx.int', ry.int', k _ H F (New.refl e) (.bl _)⟩
  · exact .inr ⟨i, j, rx.str', ry.str', k _ H F (New.refl e) (.bl _)⟩
variable {X : Cx}
theorem or_lt : OpR X (compareOp .Lt) (rCmp (fun i j => .bl (decide (i < j))) (fun i j => .bl (sLt i j))) := op_lt.or op_lt_str
theorem or_le : OpR X (compareOp .LtE) (rCmp (fun i j => .bl (decide (i ≤ j))) (fun i j => .bl (!sLt j i))) := op_le.or op_le_str
theorem or_gt : OpR X (compareOp .Gt) (rCmp (fun i j => .bl (decide (j < i))) (fun i j => .bl (sLt j i))) := op_gt.or op_gt_str
theorem od_lt : OpD K g (rCmp (fun i j => .bl (decide (i < j))) (fun i j => .bl (sLt i j))) ltD := od_cmp (fi := fun i j => decide (i < j)) (fs := fun i j => sLt i j) (fun x y z h => by
  cases x <;> cases y <;> simp only [ltD] at h <;> first | (cases h; exact .inl ⟨_, _, rfl, rfl, rfl⟩) | (cases h; exact .inr ⟨_, _, rfl, rfl, rfl⟩) | cases h)
theorem od_le : OpD K g (rCmp (fun i j => .bl (decide (i ≤ j))) (fun i j => .bl (!sLt j i))) leD := od_cmp (fi := fun i j => decide (i ≤ j)) (fs := fun i j => !sLt j i) (fun x y z h => by
  cases x <;> cases y <;> simp only [leD] at h <;> first | (cases h; exact .inl ⟨_, _, rfl, rfl, rfl⟩) | (cases h; exact .inr ⟨_, _, rfl, rfl, rfl⟩) | cases h)
theorem od_gt : OpD K g (rCmp (fun i j => .bl (decide (j < i))) (fun i j => .bl (sLt j i))) gtD := od_cmp (fi := fun i j => decide (j < i)) (fs := fun i j => sLt j i) (fun x y z h => by
  cases x <;> cases y <;> simp only [gtD] at h <;> first | (cases h; exact .inl ⟨_, _, rfl, rfl, rfl⟩) | (cases h; exact .inr ⟨_, _, rfl, rfl, rfl⟩) | cases h)
mutual
def D.py : D → PyData
  | .non => .none | .bl b => .bool b | .int i => .int i | .str s => .str s
  | .tup ds => .tuple (pyL ds) | .lst ds => .list (pyL ds) | .dic _ => .none | .web _ _ => .none | .fn _ => .none | .exc _ _ _ => .none | .dit _ => .none
def pyL : List D → List PyData
  | [] => []
  | d :: r => d.py :: pyL r
end
mutual
def D.okd : D → Nat → Bool
  | .non, _ => true | .bl _, _ => true | .int _, _ => true | .str s, _ => PyData.strOk s
  | .tup ds, n => decide (0 < n) && okdL ds (n - 1) | .lst ds, n => decide (0 < n) && okdL ds (n - 1) | .dic _, _ => false | .web _ _, _ => false | .fn _, _ => false | .exc _ _ _, _ => false | .dit _, _ => false
def okdL : List D → Nat → Bool
  | [], _ => true
  | d :: r, n => d.okd n && okdL r n
end
mutual
theorem okd_lay : ∀ (d : D) (n : Nat), d.okd n = true → d.py.canLay0 = true ∧ d.py.depth ≤ n
  | .non, _, _ => ⟨by simp [D.py, PyData.canLay0], by simp [D.py, PyData.depth]⟩
  | .bl _, _, _ => ⟨by simp [D.py, PyData.canLay0], by simp [D.py, PyData.depth]⟩
  | .int _, _, _ => ⟨by simp [D.py, PyData.canLay0], by simp [D.py, PyData.depth]⟩
  | .str s, _, h => ⟨by simpa [D.py, PyData.canLay0, D.okd] using h, by simp [D.py, PyData.depth]⟩
  | .tup ds, n, h => by
    simp only [D.okd, Bool.and_eq_true, decide_eq_true_eq] at h
    obtain ⟨h1, h2⟩ := okdL_lay ds _ h.2
    exact ⟨by simpa [D.py, PyData.canLay0] using h1, by simp only [D.py, PyData.depth]; omega⟩
  | .lst ds, n, h => by
    simp only [D.okd, Bool.and_eq_true, decide_eq_true_eq] at h
    obtain ⟨h1, h2⟩ := okdL_lay ds _ h.2
    exact ⟨by simpa [D.py, PyData.canLay0] using h1, by simp only [D.py, PyData.depth]; omega⟩
  | .dic _, _, h => by simp [D.okd] at h
  | .web _ _, _, h => by simp [D.okd] at h
  | .fn _, _, h => by simp [D.okd] at h
  | .exc _ _ _, _, h => by simp [D.okd] at h
  | .dit _, _, h => by simp [D.okd] at h
theorem okdL_lay : ∀ (ds : List D) (n : Nat), okdL ds n = true → PyData.canLayAll0 (pyL ds) = true ∧ PyData.depthAll (pyL ds) ≤ n
  | [], _, _ => ⟨by simp [pyL, PyData.canLayAll0], by simp [pyL, PyData.depthAll]⟩
  | d :: r, n, h => by
    simp only [okdL, Bool.and_eq_true] at h
    obtain ⟨h1, h2⟩ := okd_lay d n h.1
    obtain ⟨h3, h4⟩ := okdL_lay r n h.2
    exact ⟨by simp only [pyL, PyData.canLayAll0, h1, h3, Bool.and_self], by simp only [pyL, PyData.depthAll]; omega⟩
end
mutual
theorem rep_dp {F H : Hp} (e : Ex F H) : ∀ (d : D) (n : Nat) (v : V), d.okd n = true → Rep K g F d v → Dp K H v d.py
  | .non, _, _, _, h => by cases h; simp only [D.py]; exact .non
  | .bl b, _, _, _, h => by cases h; simp only [D.py]; exact .bl b
  | .int i, _, _, _, h => by cases h; simp only [D.py]; exact .int i
  | .str s, _, _, _, h => by cases h; simp only [D.py]; exact .str s
  | .tup ds, n, _, o, h => by
    simp only [D.okd, Bool.and_eq_true] at o
    cases h with
    | tup h r => simp only [D.py]; exact .tup (Evl.ex_t e h) (repL_dp e ds _ _ o.2 r)
  | .lst ds, n, _, o, h => by
    simp only [D.okd, Bool.and_eq_true] at o
    cases h with
    | lst h r => simp only [D.py]; exact .lst (SqL.of (e _ _ h)) (repL_dp e ds _ _ o.2 r)
  | .dic _, _, _, o, _ => by simp [D.okd] at o
  | .web _ _, _, _, o, _ => by simp [D.okd] at o
  | .fn _, _, _, o, _ => by simp [D.okd] at o
  | .exc _ _ _, _, _, o, _ => by simp [D.okd] at o
  | .dit _, _, _, o, _ => by simp [D.okd] at o
theorem repL_dp {F H : Hp} (e : Ex F H) : ∀ (ds : List D) (n : Nat) (vs : List V), okdL ds n = true → RepL K g F ds vs → DpAll K H vs (pyL ds)
  | [], _, _, _, h => by cases h; simp only [pyL]; exact .nil
  | d :: r, n, _, o, h => by
    simp only [okdL, Bool.and_eq_true] at o
    cases h with
    | cons h1 h2 => simp only [pyL]; exact .cons (rep_dp e d n _ o.1 h1) (repL_dp e r n _ o.2 h2)
end
theorem repT_dp {c : Option Addr} {F H : Hp} (e : Ex F H) {d : D} {n : Nat} {v : V} (o : d.okd n = true) (h : RepT K g c F H d v) : Dp K H v d.py := by
  cases d with
  | lst ds =>
    obtain ⟨p, xs, rfl, h1, h2, _⟩ := h
    simp only [D.okd, Bool.and_eq_true] at o
    simp only [D.py]
    exact .lst (SqL.of h1) (repL_dp e ds _ _ o.2 h2)
  | dic _ => simp [D.okd] at o
  | dit _ => simp [D.okd] at o
  | _ => exact rep_dp e _ n _ o h
theorem okd_shaped {d : D} (o : d.okd 60 = true) : SeqAt.shaped d.py = true := by
  obtain ⟨h1, h2⟩ := okd_lay d 60 o
  unfold SeqAt.shaped
  rw [h1, decide_eq_true (Nat.le_trans h2 (by decide))]
  rfl
def scalD : D → D → Option Bool
  | .str a, .str b => some (decide (a = b))
  | .int a, .int b => some (decide (a = b))
  | .bl a, .bl b => some (decide (a = b))
  | .non, .non => some true
  | .non, .str _ => some false | .str _, .non => some false | .non, .int _ => some false | .int _, .non => some false | .non, .bl _ => some false | .bl _, .non => some false
  | .int _, .str _ => some false | .str _, .int _ => some false | .bl _, .str _ => some false | .str _, .bl _ => some false
  | _, _ => none
def deepEq (x y : D) : Option Bool := if x.okd 60 && y.okd 60 then some (PyData.eqv x.py y.py) else none
def eqB (x y : D) : Option Bool := match scalD x y with | some b => some b | none => deepEq x y
def eqD (x y : D) : Option D := (eqB x y).map .bl
def neD (x y : D) : Option D := (eqB x y).map fun b => .bl (!b)
theorem scalD_ok {c : Option Addr} {F H : Hp} {x y : D} {v w : V} {b : Bool} (h : scalD x y = some b) (rx : RepT K g c F H x v) (ry : RepT K g c F H y w) : scal v w = true ∧ decide (v = w) = b := by
  cases x <;> cases y <;> simp only [scalD] at h <;> first
    | (cases h
       first
         | rw [rx.str', ry.str'] | rw [rx.int', ry.int'] | rw [rx.bl', ry.bl'] | rw [rx.non', ry.non'] | rw [rx.non', ry.str'] | rw [rx.str', ry.non'] | rw [rx.non', ry.int'] | rw [rx.int', ry.non'] | rw [rx.non', ry.bl'] | rw [rx.bl', ry.non']
         | rw [rx.int', ry.str'] | rw [rx.str', ry.int'] | rw [rx.bl', ry.str'] | rw [rx.str', ry.bl']
       exact ⟨rfl, by simp⟩)
    | cases h
def rEqG (K : PySem.W.Frag) : R2 := fun x y H Q => rEq x y H Q ∨ rEqD K x y H Q
def rNeG (K : PySem.W.Frag) : R2 := fun x y H Q => rNe x y H Q ∨ rNeD K x y H Q
theorem or_eq (hu : X.A.units + 64 < cLine) : OpR X (compareOp .Eq) (rEqG X.K) := op_eq.or (op_eqD hu)
theorem or_ne (hu : X.A.units + 64 < cLine) : OpR X (compareOp .NotEq) (rNeG X.K) := op_ne.or (op_neD hu)
theorem od_eq : OpD K g (rEqG K) eqD := fun c F H x y z v w Q' e nc rx ry hz k => by
  unfold eqD eqB at hz
  split at hz
  · rename_i b q
    cases hz
    obtain ⟨s1, s2⟩ := scalD_ok q rx ry
    exact .inl ⟨s1, by rw [s2]; exact k _ H F (New.refl e) (.bl b)⟩
  · unfold deepEq at hz
    split at hz
    · rename_i o
      cases hz
      rw [Bool.and_eq_true] at o
      exact .inr ⟨_, _, repT_dp e o.1 rx, repT_dp e o.2 ry, okd_shaped o.1, okd_shaped o.2, k _ H F (New.refl e) (.bl _)⟩
    · cases hz
theorem od_ne : OpD K g (rNeG K) neD := fun c F H x y z v w Q' e nc rx ry hz k => by
  unfold neD eqB at hz
  split at hz
  · rename_i b q
    cases hz
    obtain ⟨s1, s2⟩ := scalD_ok q rx ry
    exact .inl ⟨s1, by rw [s2]; exact k _ H F (New.refl e) (.bl _)⟩
  · unfold deepEq at hz
    split at hz
    · rename_i o
      cases hz
      rw [Bool.and_eq_true] at o
      exact .inr ⟨_, _, repT_dp e o.1 rx, repT_dp e o.2 ry, okd_shaped o.1, okd_shaped o.2, k _ H F (New.refl e) (.bl _)⟩
    · cases hz
def D.isN : D → Bool | .non => true | _ => false
def notND (x y : D) : Option D := match y with | .non => some (.bl (!x.isN)) | _ => none
theorem rep_non_iff {c : Option Addr} {F H : Hp} {x : D} {v : V} (r : RepT K g c F H x v) : decide (v = .non) = x.isN := by
  cases x with
  | non => rw [r.non']; rfl
  | bl b => rw [r.bl']; rfl
  | int b => rw [r.int']; rfl
  | str b => rw [r.str']; rfl
  | tup ds => obtain ⟨a, xs, rfl, _⟩ := r.tup'; rfl
  | lst ds => obtain ⟨a, xs, rfl, _⟩ := r; rfl
  | dic ds => obtain ⟨a, xs, rfl, _⟩ := r.dic'; rfl
  | web p t => obtain ⟨a, _, _, rfl, _⟩ := r.web'; rfl
  | fn L => have r' : Rep K g F (.fn L) v := r; cases r' <;> rfl
  | exc n f d => have r' : Rep K g F (.exc n f d) v := r; cases r'; rfl
  | dit k => obtain ⟨a, _, _, rfl, _⟩ := r; rfl
theorem od_notN : OpD K g (fun x y H Q => y = .non ∧ Q (.bl (!decide (x = .non))) H) notND := fun c F H x y z v w Q' e nc rx ry hz k => by
  unfold notND at hz
  split at hz
  · cases hz
    refine ⟨ry.non', ?_⟩
    rw [rep_non_iff rx]
    exact k _ H F (New.refl e) (.bl _)
  · cases hz
def D.flat : D → Bool | .non => true | .bl _ => true | .int _ => true | .str _ => true | _ => false
def fEq : D → D → Bool
  | .non, .non => true | .bl a, .bl b => a == b | .bl a, .int b => (if a then 1 else 0) == b | .int a, .bl b => a == (if b then 1 else 0) | .int a, .int b => a == b | .str a, .str b => a == b | _, _ => false
def inL (x : D) (ds : List D) : Bool := ds.any fun y => fEq y x
def inB (x y : D) : Option Bool := match x, y with
  | .str a, .str b => (match a.cps.toList with | [q] => some (decide (q ∈ b.cps.toList)) | _ => none)
  | x, .lst ds => if x.flat && ds.all D.flat then some (inL x ds) else none
  | x, .tup ds => if x.flat && ds.all D.flat then some (inL x ds) else none
  | _, _ => none
def inD (x y : D) : Option D := (inB x y).map .bl
def notInD (x y : D) : Option D := (inB x y).map fun b => .bl (!b)
theorem rep_flat {F : Hp} {x : D} {v : V} (h : Rep K g F x v) (f : x.flat = true) : flatV v = true := by
  cases h <;> first | rfl | (simp [D.flat] at f)
theorem rep_fEq {F : Hp} {x y : D} {v w : V} (h : Rep K g F x v) (h' : Rep K g F y w) (f : x.flat = true) (f' : y.flat = true) : eqV v w = fEq x y := by
  cases h <;> first | (simp [D.flat] at f; done) | (cases h' <;> first | (simp [D.flat] at f'; done) | rfl)
theorem repL_flat {F : Hp} : ∀ {ds : List D} {vs : List V}, RepL K g F ds vs → ds.all D.flat = true → vs.all flatV = true
  | _, _, .nil, _ => rfl
  | _, _, .cons h t, f => by
    simp only [List.all_cons, Bool.and_eq_true] at f ⊢
    exact ⟨rep_flat h f.1, repL_flat t f.2⟩
theorem repL_in {F : Hp} {x : D} {v : V} (h : Rep K g F x v) (f : x.flat = true) : ∀ {ds : List D} {vs : List V}, RepL K g F ds vs → ds.all D.flat = true → inV v vs = inL x ds
  | _, _, .nil, _ => rfl
  | _, _, .cons h1 t, f' => by
    simp only [List.all_cons, Bool.and_eq_true] at f'
    have := repL_in h f t f'.2
    unfold inV inL at this ⊢
    rw [List.any_cons, List.any_cons, this, rep_fEq h1 h f'.1 f]
def rSign (neg : Bool) : R2 := fun x y H Q => ∃ (c : Nat) (z : Str), x = .str ⟨#[c]⟩ ∧ y = .str z ∧ Q (.bl (if neg then !decide (c ∈ z.cps.toList) else decide (c ∈ z.cps.toList))) H
def rInG (K : PySem.W.Frag) (neg : Bool) : R2 := fun x y H Q => rSign neg x y H Q ∨ rIn K neg x y H Q
theorem or_in : OpR X (compareOp .In) (rInG X.K false) := OpR.or (r := rSign false) op_in_sign op_in_seq
theorem or_notin : OpR X (compareOp .NotIn) (rInG X.K true) := OpR.or (r := rSign true) op_notIn_sign op_notIn_seq
theorem repT_flat {c : Option Addr} {F H : Hp} {x : D} {v : V} (f : x.flat = true) (h : RepT K g c F H x v) : Rep K g F x v := by
  cases x <;> first | exact h | (simp [D.flat] at f)
theorem od_inG {neg : Bool} : OpD K g (rInG K neg) (fun x y => (inB x y).map fun b => .bl (if neg then !b else b)) := fun c F H x y z v w Q' e nc rx ry hz k => by
  obtain ⟨b, hb, rfl⟩ := Option.map_eq_some_iff.mp hz
  clear hz
  have k' := k _ H F (New.refl e) (.bl _)
  unfold inB at hb
  split at hb
  · rename_i a b'
    split at hb
    · rename_i q eq
      cases hb
      refine .inl ⟨q, b', ?_, ry.str', k'⟩
      rw [rx.str']
      obtain ⟨⟨l⟩⟩ := a
      simp only at eq
      rw [eq]
    · cases hb
  · split at hb
    · rename_i f
      cases hb
      rw [Bool.and_eq_true] at f
      obtain ⟨p, xs, rfl, h1, h2, _⟩ := ry
      have r1 := repT_flat f.1 rx
      refine .inr ⟨p, xs, rfl, .inl (SqL.of h1), rep_flat r1 f.1, repL_flat h2 f.2, ?_⟩
      rw [repL_in r1 f.1 h2 f.2]
      exact k'
    · cases hb
  · split at hb
    · rename_i f
      cases hb
      rw [Bool.and_eq_true] at f
      obtain ⟨p, xs, rfl, h1, h2⟩ := ry.tup'
      have r1 := repT_flat f.1 rx
      refine .inr ⟨p, xs, rfl, .inr (Evl.ex_t e h1), rep_flat r1 f.1, repL_flat h2 f.2, ?_⟩
      rw [repL_in r1 f.1 h2 f.2]
      exact k'
    · cases hb
  · cases hb
theorem od_in : OpD K g (rInG K false) inD := od_inG
theorem od_notin : OpD K g (rInG K true) notInD := od_inG
def ixD : D → D → Option D
  | .lst ds, .int i => atI ds i
  | .tup ds, .int i => atI ds i
  | .str s, .int i => if s.length ≤ LL then (atI s.cps.toList i).map fun c => .str ⟨#[c]⟩ else none
  | _, _ => none
theorem repL_at {F : Hp} {ds : List D} {vs : List V} {i : Int} {d : D} (h : RepL K g F ds vs) (e : atI ds i = some d) : ∃ v, atI vs i = some v ∧ Rep K g F d v := by
  unfold atI at e ⊢
  rw [h.length]
  cases q : ixN ds.length i with
  | none => rw [q] at e; cases e
  | some j =>
    rw [q] at e
    exact h.get e
theorem od_ix : OpD K g (rIx K) ixD := fun c F H x y z v w Q' e nc rx ry hz k => by
  unfold ixD at hz
  split at hz
  · obtain ⟨p, xs, rfl, h1, h2, _⟩ := rx
    obtain ⟨u, h3, h4⟩ := repL_at h2 hz
    exact .inl ⟨p, xs, _, u, rfl, ry.int', SqL.of h1, h3, k _ H F (New.refl e) h4⟩
  · obtain ⟨p, xs, rfl, h1, h2⟩ := rx.tup'
    obtain ⟨u, h3, h4⟩ := repL_at h2 hz
    exact .inr (.inl ⟨p, xs, _, u, rfl, ry.int', Evl.ex_t e h1, h3, k _ H F (New.refl e) h4⟩)
  · split at hz
    · rename_i s i hl
      cases q : atI s.cps.toList i with
      | none => rw [q] at hz; cases hz
      | some ch =>
        rw [q] at hz
        cases hz
        exact .inr (.inr ⟨s, i, ch, rx.str', ry.int', ll hl, q, k _ H F (New.refl e) (.str _)⟩)
    · cases hz
  · cases hz
theorem ge_ix {a b : Expr} {da db : DE} {pos : Pos} (ha : GB g X a da) (hb : GB g X b db) (hs : PlainIx b := by exact fun _ _ => rfl) : GE g X (.Subscript a b pos) (dOp ixD da db) := PE.weak (pe_ix ix_seq ha hb hs) (op_weak od_ix)
end
end G
namespace G
open PySem L2
structure DEnds where
  nx : Env' → Nat → Prop
  rt : D → Nat → Prop
  bk : Env' → Nat → Prop := fun _ _ => False
  ct : Env' → Nat → Prop := fun _ _ => False
abbrev DS := Env' → Nat → DEnds → Prop
def Own (env : Env') (σ : St) (a : Addr) : Prop := ∃ (i : Nat) (s : Sl), env[i]? = some s ∧ a ∈ s.adr σ[i]?
theorem own_ow {env : Env'} {σ : St} {i : Nat} {d : D} {a : Addr} (h : env[i]? = some (.ow d)) (hs : σ[i]? = some (some (.ref a))) : Own env σ a := ⟨i, _, h, by rw [hs]; simp [Sl.adr]⟩
structure Evo (c : Option Addr) (O : Addr → Prop) (F H : Hp) (O' : Addr → Prop) (F' H' : Hp) : Prop where
  ff : Ex F F'
  fh : Ex F' H'
  hk : ∀ a o, H a = some o → c ≠ some a → ¬ O a → Kp o (H' a)
  new : ∀ a o, F' a = some o → F a = some o ∨ H a = none ∨ O a
  nc : ∀ a, c = some a → F' a = none
  own : ∀ a, O' a → c ≠ some a ∧ (O a ∨ H a = none)
theorem Evo.hh {c : Option Addr} {O O' : Addr → Prop} {F H F' H' : Hp} (f : Evo c O F H O' F' H') (a : Addr) (o : HO) (h : H a = some o) (n : c ≠ some a) (no : ¬ O a) (t : isT o = false := by first | rfl | assumption) : H' a = some o := (f.hk a o h n no).get t
theorem Evo.sm {c : Option Addr} {O O' : Addr → Prop} {F H F' H' : Hp} (f : Evo c O F H O' F' H') {a : Addr} {o : HO} (h : H a = some o) (n : c ≠ some a) (no : ¬ O a) (z : H' a = none) : False := (f.hk a o h n no).ne z
section
variable {K : PySem.W.Frag} {g : Gp} {c : Option Addr} {F F' F1 F2 H H' H1 H2 : Hp} {env env' : Env'} {m m' : Nat} {σ σ' : St} {O O1 O2 : Addr → Prop}
theorem Evo.trans (a : Evo c O F H O1 F1 H1) (b : Evo c O1 F1 H1 O2 F2 H2) : Evo c O F H O2 F2 H2 where
  ff := a.ff.trans b.ff
  fh := b.fh
  hk := fun x o h n no => (a.hk x o h n no).trans fun u hu => b.hk x u hu n fun q => (a.own x q).2.elim no fun z => by rw [h] at z; cases z
  nc := b.nc
  new := fun x o h => by
    rcases b.new x o h with q | q | q
    · exact a.new x o q
    · cases z : H x with
      | none => exact .inr (.inl rfl)
      | some u =>
        by_cases n : c = some x
        · rw [b.nc x n] at h; cases h
        · by_cases y : O x
          · exact .inr (.inr y)
          · exact (a.sm z n y q).elim
    · rcases (a.own x q).2 with z | z
      · exact .inr (.inr z)
      · exact .inr (.inl z)
  own := fun x q => by
    obtain ⟨n, z⟩ := b.own x q
    refine ⟨n, ?_⟩
    rcases z with z | z
    · exact (a.own x z).2
    · cases y : H x with
      | none => exact .inr rfl
      | some u =>
        by_cases w : O x
        · exact .inl w
        · exact (a.sm y n w z).elim
theorem Evo.none (a : Evo c O F H O1 F1 H1) : Evo c O F H (fun _ => False) F1 H1 := ⟨a.ff, a.fh, a.hk, a.new, a.nc, fun _ h => h.elim⟩
theorem Evo.sub (a : Evo c O F H O1 F1 H1) (h : ∀ x, O2 x → O1 x) : Evo c O F H O2 F1 H1 := ⟨a.ff, a.fh, a.hk, a.new, a.nc, fun x q => a.own x (h x q)⟩
theorem Rel.ownc (r : Rel K g c F env m σ H) : ∀ a, Own env σ a → c ≠ some a := fun a ⟨i, s, e1, e2⟩ => ((r.slot i s e1).at e2).2.1
theorem Rel.ownH (r : Rel K g c F env m σ H) {a : Addr} (h : Own env σ a) : F a = .none ∧ ∃ xs, H a = some xs := by
  obtain ⟨i, s, e1, e2⟩ := h
  have := (r.slot i s e1).at e2
  exact ⟨this.1, this.2.2⟩
theorem Rel.evo (r : Rel K g c F env m σ H) (f : Fresh c F H F' H') : Evo c (Own env σ) F H (Own env σ) F' H' :=
  ⟨f.ff, f.fh, fun a o h n _ => f.hk a o h n, fun a o h => (f.new a o h).imp id .inl, f.nc, fun a h => ⟨r.ownc a h, .inl h⟩⟩
structure Outs (K : PySem.W.Frag) (g : Gp) (c : Option Addr) (O : Addr → Prop) (F H : Hp) (E : DEnds) (D : Ends) : Prop where
  nx : ∀ σ' H' F' env' m', Rel K g c F' env' m' σ' H' → Evo c O F H (Own env' σ') F' H' → E.nx env' m' → D.nx σ' H'
  bk : ∀ σ' H' F' env' m', Rel K g c F' env' m' σ' H' → Evo c O F H (Own env' σ') F' H' → E.bk env' m' → D.bk σ' H'
  ct : ∀ σ' H' F' env' m', Rel K g c F' env' m' σ' H' → Evo c O F H (Own env' σ') F' H' → E.ct env' m' → D.ct σ' H'
  rt : ∀ v H' F' m' x, Ck g c m' F' H' → Evo c O F H (fun _ => False) F' H' → Rep K g F' x v → E.rt x m' → D.rt v H'
theorem Outs.shift {E : DEnds} {D : Ends} (o : Outs K g c O F H E D) (e : Evo c O F H O1 F1 H1) : Outs K g c O1 F1 H1 E D :=
  ⟨fun σ' H' F' env' m' r v => o.nx σ' H' F' env' m' r (e.trans v), fun σ' H' F' env' m' r v => o.bk σ' H' F' env' m' r (e.trans v), fun σ' H' F' env' m' r v => o.ct σ' H' F' env' m' r (e.trans v), fun v H' F' m' x k u => o.rt v H' F' m' x k (e.trans u)⟩
theorem Outs.next {E : DEnds} {D : Ends} {n : Env' → Nat → Prop} {N : St → Hp → Prop} (o : Outs K g c O F H E D) (h : ∀ σ' H' F' env' m', Rel K g c F' env' m' σ' H' → Evo c O F H (Own env' σ') F' H' → n env' m' → N σ' H') : Outs K g c O F H { E with nx := n } { D with nx := N } := ⟨h, o.bk, o.ct, o.rt⟩
end
def tSD (K : PySem.W.Frag) (g : Gp) (s : DS) : TS := fun D σ H => ∃ c F env m E, Rel K g c F env m σ H ∧ s env m E ∧ Outs K g c (Own env σ) F H E D
def GS (g : Gp) (X : Cx) (st : Stmt) (s : DS) : Prop := PS X st (tSD X.K g s)
def GSs (g : Gp) (X : Cx) (sts : List Stmt) (s : DS) : Prop := PSs X sts (tSD X.K g s)
theorem sl_no {d : D} : ∀ o, (Sl.val d).adr o = [] := fun _ => rfl
theorem sl_no0 : ∀ o, Sl.no.adr o = [] := fun _ => rfl
section
variable {K : PySem.W.Frag} {g : Gp} {c : Option Addr} {F F' H H' : Hp} {env : Env'} {m : Nat} {σ : St} {v : V}
theorem own_set1 {i : Nat} {s : Sl} {o : Option V} {a : Addr} (l : env.length = σ.length) (h : Own (env.set i s) (σ.set i o) a) : a ∈ s.adr (some o) ∨ Own env σ a := by
  obtain ⟨j, s', e1, e2⟩ := h
  by_cases q : i = j
  · subst q
    by_cases z : i < env.length
    · rw [List.getElem?_set_self z] at e1; cases e1
      rw [List.getElem?_set_self (by omega)] at e2
      exact .inl e2
    · rw [List.set_eq_of_length_le (by omega)] at e1; exact absurd (List.getElem?_eq_some_iff.mp e1).1 (by omega)
  · rw [List.getElem?_set_ne q] at e1 e2
    exact .inr ⟨j, s', e1, e2⟩
theorem own_set {i : Nat} {s : Sl} {o : Option V} {a : Addr} (l : env.length = σ.length) (hs : ∀ o, s.adr o = []) (h : Own (env.set i s) (σ.set i o) a) : Own env σ a := by
  rcases own_set1 l h with z | z
  · rw [hs] at z; simp at z
  · exact z
theorem Rel.setS {i : Nat} {s : Sl} {o : Option V} (r : Rel K g c F env m σ H) (no : ∀ a ∈ s.adr (some o), ¬ Own env σ a) (h : SlR K g c F H s (some o)) : Rel K g c F (env.set i s) m (σ.set i o) H where
  sub := r.sub
  len := by rw [List.length_set, List.length_set, r.len]
  ck := r.ck
  slot := fun j s' e => by
    by_cases q : i = j
    · subst q
      by_cases z : i < env.length
      · rw [List.getElem?_set_self z] at e; cases e
        rw [List.getElem?_set_self (by rw [← r.len]; exact z)]; exact h
      · rw [List.set_eq_of_length_le (by omega)] at e; exact absurd (List.getElem?_eq_some_iff.mp e).1 (by omega)
    · rw [List.getElem?_set_ne q] at e ⊢
      exact r.slot j s' e
  sep := fun j k sj sk a e1 e2 e3 e4 => by
    have me : ∀ {s' : Sl}, (env.set i s)[i]? = some s' → a ∈ s'.adr (σ.set i o)[i]? → a ∈ s.adr (some o) := fun {s'} e e' => by
      by_cases z : i < env.length
      · rw [List.getElem?_set_self z] at e; cases e
        rw [List.getElem?_set_self (by rw [← r.len]; exact z)] at e'; exact e'
      · rw [List.set_eq_of_length_le (by omega)] at e; exact absurd (List.getElem?_eq_some_iff.mp e).1 (by omega)
    by_cases x : i = j
    · by_cases y : i = k
      · omega
      · rw [List.getElem?_set_ne y] at e2 e4
        subst x
        exact absurd ⟨k, sk, e2, e4⟩ (no a (me e1 e3))
    · rw [List.getElem?_set_ne x] at e1 e3
      by_cases y : i = k
      · subst y
        exact absurd ⟨j, sj, e1, e3⟩ (no a (me e2 e4))
      · rw [List.getElem?_set_ne y] at e2 e4
        exact r.sep j k sj sk a e1 e2 e3 e4
theorem Rel.set {i : Nat} {s : Sl} {o : Option V} (r : Rel K g c F env m σ H) (hs : ∀ o, s.adr o = []) (h : SlR K g c F H s (some o)) : Rel K g c F (env.set i s) m (σ.set i o) H :=
  r.setS (fun a ha => by rw [hs] at ha; simp at ha) h
theorem Rel.setV {i : Nat} {d : D} (r : Rel K g c F env m σ H) (h : Rep K g F d v) : Rel K g c F (env.set i (.val d)) m (σ.set i (some v)) H := r.set sl_no ⟨v, rfl, h⟩
theorem Rel.setNo {i : Nat} {o : Option V} (r : Rel K g c F env m σ H) : Rel K g c F (env.set i .no) m (σ.set i o) H := r.set sl_no0 trivial
theorem Rel.setOw {i : Nat} {ds : D} {p : Addr} {xs : HO} (r : Rel K g c F env m σ H) (nf : F p = none) (hp : H p = some xs) (rl : ObR K g F p ds xs) (nc : c ≠ some p) (no : ¬ Own env σ p) : Rel K g c F (env.set i (.ow ds)) m (σ.set i (some (.ref p))) H :=
  r.setS (fun a ha => by rw [show (Sl.ow ds).adr (some (some (.ref p))) = [p] from rfl, List.mem_singleton] at ha; subst ha; exact no) ⟨p, xs, rfl, nf, hp, rl, nc⟩
theorem Rel.setO {i : Nat} {ds : List D} {p : Addr} {xs : List V} (r : Rel K g c F env m σ H) (nf : F p = none) (hp : H p = some (.lst xs)) (rl : RepL K g F ds xs) (nc : c ≠ some p) (no : ¬ Own env σ p) : Rel K g c F (env.set i (.own ds)) m (σ.set i (some (.ref p))) H :=
  r.setOw nf hp ⟨xs, rfl, rl⟩ nc no
theorem own_setO {i : Nat} {ds : D} {p a : Addr} (l : env.length = σ.length) (h : Own (env.set i (.ow ds)) (σ.set i (some (.ref p))) a) : a = p ∨ Own env σ a := (own_set1 l h).imp (fun z => by simpa [Sl.adr] using z) id
end
section
variable {g : Gp} {X : Cx} {st : Stmt} {sts : List Stmt} {e : Expr} {d : DE} {dl : DL} {s s1 s2 : DS} {t : DT} {pos : Pos}
def dSeq (s1 s2 : DS) : DS := fun env m E => s1 env m { E with nx := fun env' m' => s2 env' m' E }
def dNext : DS := fun env m E => E.nx env m
theorem gss_nil : GSs g X [] dNext := PSs.weak pss_nil fun D σ H ⟨c, F, env, m, E, r, h, o⟩ => o.nx σ H F env m r (r.evo (Fresh.refl r.sub r.ck)) h
theorem gss_cons (h1 : GS g X st s1) (h2 : GSs g X sts s2) : GSs g X (st :: sts) (dSeq s1 s2) := PSs.weak (pss_cons h1 h2) fun D σ H ⟨c, F, env, m, E, r, h, o⟩ =>
  ⟨c, F, env, m, _, r, h, o.next fun σ' H' F' env' m' r' v q => ⟨c, F', env', m', E, r', q, o.shift v⟩⟩
theorem gss_one (h1 : GS g X st s1) : GSs g X [st] s1 := pss_one h1
def dNever : DS := fun _ _ _ => False
theorem gs_never : GS g X st dNever := PS.weak ps_never fun D σ H ⟨_, _, _, _, _, _, h, _⟩ => h
def dDrop (d : DE) : DS := fun env m E => d env m fun _ m1 => E.nx env m1
theorem gs_expr (he : GE g X e d) (hs : swapsWith e none pos.line X.env = pure false := by rfl) : GS g X (.Expr e pos) (dDrop d) := PS.weak (ps_expr he hs) fun D σ H ⟨c, F, env, m, E, r, h, o⟩ =>
  ⟨c, F, env, m, _, r, h, fun v H' F' m' x r' f rp q => o.nx σ H' F' env m' r' (r.evo f) q⟩
def dRet (d : DE) : DS := fun env m E => d env m E.rt
theorem gs_ret (he : GE g X e d) : GS g X (.Return (some e) pos) (dRet d) := PS.weak (ps_ret he) fun D σ H ⟨c, F, env, m, E, r, h, o⟩ =>
  ⟨c, F, env, m, _, r, h, fun v H' F' m' x r' f rp q => o.rt v H' F' m' x r'.ck (r.evo f).none rp q⟩
def dRetO (i : Nat) : DS := fun env m E => ∃ ds, env[i]? = some (.own ds) ∧ E.rt (.lst ds) m
theorem gs_retO (i : Nat) {x : Str} {p1 : Pos} (hN : X.N[i]? = some x := by rfl) (hv : Vis X.env.scope x := by first | exact Or.inl rfl | exact Or.inr (Or.inl rfl) | exact Or.inr (Or.inr rfl)) (hd : (x == ("__debug__" : Str)) = false := by decide)
    (hcd : (x == ("__classdict__" : Str)) = false := by decide) : GS g X (.Return (some (.Name x p1)) pos) (dRetO i) := PS.weak (ps_ret (pe_var hN hv hd hcd)) fun D σ H ⟨c, F, env, m, E, r, ⟨ds, e1, q⟩, o⟩ => by
  obtain ⟨p, xs, e2, h1, h2, h3, h4⟩ := (r.slot i _ e1).own'
  have hc : ∀ a, c = some a → a ≠ p := fun a h z => h4 (z ▸ h)
  refine ⟨.ref p, e2, o.rt _ H (upd F p (.lst xs)) m (.lst ds) ⟨fun a h => ⟨by rw [upd_ne (hc a h)]; exact (r.ck a h).1, (r.ck a h).2⟩, r.ck.tb.fix h2 h1⟩ ?_ (.lst upd_same (h3.mono (Evl.Ex.new h1))) q⟩
  refine ⟨Evl.Ex.new h1, fun a u z => ?_, fun a u h _ _ => .of h, fun a u z => ?_, fun a h => by rw [upd_ne (hc a h)]; exact r.nc a h, fun _ z => z.elim⟩
  · by_cases y : a = p
    · subst y; rw [upd_same] at z; rw [← z]; exact h2
    · rw [upd_ne y] at z; exact r.sub a u z
  · by_cases y : a = p
    · subst y; exact .inr (.inr (own_ow e1 e2))
    · rw [upd_ne y] at z; exact .inl z
def dIf (t : DT) (s1 s2 : DS) : DS := fun env m E => t env m fun b m1 => if b = true then s1 env m1 E else s2 env m1 E
theorem gs_if {cc : Expr} {a b : List Stmt} (hc : GT g X cc t) (ha : GSs g X a s1) (hb : GSs g X b s2) : GS g X (.If cc a b pos) (dIf t s1 s2) := PS.weak (ps_if hc ha hb) fun D σ H ⟨c, F, env, m, E, r, h, o⟩ =>
  ⟨c, F, env, m, _, r, h, fun x H1 F1 m1 r1 f1 q1 => by
    cases x with
    | true => exact ⟨c, F1, env, m1, E, r1, q1, o.shift (r.evo f1)⟩
    | false => exact ⟨c, F1, env, m1, E, r1, q1, o.shift (r.evo f1)⟩⟩
def dAsg (i : Nat) (d : DE) : DS := fun env m E => d env m fun x m1 => E.nx (env.set i (.val x)) m1
def dAsgN (i : Nat) (d : DL) : DS := fun env m E => d env m fun ds m1 => E.nx (env.set i (.own ds)) m1
theorem evo_setV {K : PySem.W.Frag} {c : Option Addr} {F H F' H' : Hp} {env : Env'} {m : Nat} {σ : St} {i : Nat} {x : D} {v : V} (r : Rel K g c F env m σ H) (f : Fresh c F H F' H') : Evo c (Own env σ) F H (Own (env.set i (.val x)) (σ.set i (some v))) F' H' :=
  (r.evo f).sub fun a h => own_set r.len sl_no h
theorem asg_weak {t : TE} {i : Nat} (w : ∀ σ H Q, tD X.K g d σ H Q → t σ H Q) : ∀ D σ H, tSD X.K g (dAsg i d) D σ H → tAsg t (gName i) D σ H := fun D σ H ⟨c, F, env, m, E, r, h, o⟩ =>
  w σ H _ ⟨c, F, env, m, _, r, h, fun v H' F' m' x r' f rp q => o.nx _ H' F' _ m' (r'.setV rp) (evo_setV r f) q⟩
theorem asgN_weak {t : TE} {i : Nat} (w : ∀ σ H Q, tN X.K g dl σ H Q → t σ H Q) : ∀ D σ H, tSD X.K g (dAsgN i dl) D σ H → tAsg t (gName i) D σ H := fun D σ H ⟨c, F, env, m, E, r, h, o⟩ =>
  w σ H _ ⟨c, F, env, m, _, r, h, fun p H' F' m' ds xs r' f h0 hp hc h1 h2 q => by
    have no : ¬ Own env σ p := fun z => by obtain ⟨_, _, y⟩ := r.ownH z; rw [h0] at y; cases y
    refine o.nx _ H' F' _ m' (r'.setO hp h1 h2 hc no) ?_ q
    have v := r.evo f
    refine ⟨v.ff, v.fh, v.hk, v.new, v.nc, fun a z => ?_⟩
    rcases own_setO r.len z with rfl | y
    · exact ⟨hc, .inr h0⟩
    · exact v.own a y⟩
theorem gs_set {i : Nat} {x : Str} {pos' : Pos} (hN : X.N.Nodup) (hi : X.N[i]? = some x) (hx : Loc X.env.scope x) (he : GE g X e d) (hs : swapsWith e (some (.Name x pos')) pos.line X.env = pure false := by rfl)
    (hf : X.fn x = true ∨ X.env.scope.names.lookup x = some .local := by first | exact .inl rfl | exact .inr rfl | assumption) : GS g X (.Assign [.Name x pos'] e pos) (dAsg i d) := PS.weak (ps_set hN hi hx he hs hf) (asg_weak fun _ _ _ h => h)
theorem gs_setN {i : Nat} {x : Str} {pos' : Pos} (hN : X.N.Nodup) (hi : X.N[i]? = some x) (hx : Loc X.env.scope x) (he : GN g X e dl) (hs : swapsWith e (some (.Name x pos')) pos.line X.env = pure false := by rfl)
    (hf : X.fn x = true ∨ X.env.scope.names.lookup x = some .local := by first | exact .inl rfl | exact .inr rfl | assumption) : GS g X (.Assign [.Name x pos'] e pos) (dAsgN i dl) := PS.weak (ps_set hN hi hx he hs hf) (asgN_weak fun _ _ _ h => h)
structure GG (g : Gp) (X : Cx) (tg : Expr) (T : TG) (f : D → Env' → Option Env') (js : List Nat) : Prop where
  pg : PG X tg T
  ok : ∀ (c : Option Addr) (F : Hp) (env : Env') (m : Nat) (σ : St) (H : Hp) (d : D) (v : V) (env2 : Env') (Q : St → Hp → Prop), Rel X.K g c F env m σ H → Rep X.K g F d v → f d env = some env2 →
    (∀ σ2, Rel X.K g c F env2 m σ2 H → (∀ a, Own env2 σ2 a → Own env σ a) → σ2.length = σ.length → (∀ i, i ∉ js → σ2[i]? = σ[i]?) → Q σ2 H) → T v σ H Q
def tgN (j : Nat) : D → Env' → Option Env' := fun d env => some (env.set j (.val d))
theorem gg_name {j : Nat} {x : Str} (hN : X.N.Nodup) (hi : X.N[j]? = some x) (hx : Loc X.env.scope x) (hf : X.fn x = true ∨ X.env.scope.names.lookup x = some .local := by first | exact .inl rfl | exact .inr rfl | assumption) : GG g X (.Name x pos) (gName j) (tgN j) [j] :=
  ⟨pg_name hN hi hx hf, fun c F env m σ H d v env2 Q r rp e k => by
    cases e
    exact k _ (r.setV rp) (fun a h => own_set r.len sl_no h) (List.length_set ..) fun i hi => List.getElem?_set_ne (fun z => hi (by simp [z]))⟩
structure GGs (g : Gp) (X : Cx) (tgs : List Expr) (T : TGs) (f : List D → Env' → Option Env') (js : List Nat) : Prop where
  pg : PGs X tgs T
  ok : ∀ (c : Option Addr) (F : Hp) (env : Env') (m : Nat) (σ : St) (H : Hp) (ds : List D) (vs : List V) (env2 : Env') (Q : St → Hp → Prop), Rel X.K g c F env m σ H → RepL X.K g F ds vs → f ds env = some env2 →
    (∀ σ2, Rel X.K g c F env2 m σ2 H → (∀ a, Own env2 σ2 a → Own env σ a) → σ2.length = σ.length → (∀ i, i ∉ js → σ2[i]? = σ[i]?) → Q σ2 H) → T vs σ H Q
def tgNil : List D → Env' → Option Env' := fun ds env => match ds with | [] => some env | _ => none
def tgCons (f : D → Env' → Option Env') (fs : List D → Env' → Option Env') : List D → Env' → Option Env' := fun ds env => match ds with | d :: r => (f d env).bind (fs r) | [] => none
theorem ggs_nil : GGs g X [] gNil tgNil [] := ⟨pgs_nil, fun c F env m σ H ds vs env2 Q r rp e k => by
  cases ds with
  | nil => cases rp; cases e; exact ⟨rfl, k σ r (fun _ h => h) rfl fun _ _ => rfl⟩
  | cons _ _ => cases e⟩
theorem ggs_cons {tg : Expr} {tgs : List Expr} {T : TG} {Gs : TGs} {f : D → Env' → Option Env'} {fs : List D → Env' → Option Env'} {js ks : List Nat} (h1 : GG g X tg T f js) (h2 : GGs g X tgs Gs fs ks)
    (hs : (assignEach (tg :: tgs) X.env).map (·.2) = assign tg X.env :: (assignEach tgs X.env).map (·.2) := by rfl) : GGs g X (tg :: tgs) (gCons T Gs) (tgCons f fs) (js ++ ks) := ⟨pgs_cons h1.pg h2.pg hs, fun c F env m σ H ds vs env2 Q r rp e k => by
  cases ds with
  | nil => cases e
  | cons d ds =>
    cases rp with
    | cons rp1 rp2 =>
      obtain ⟨env1, e1, e2⟩ := Option.bind_eq_some_iff.mp (show (f d env).bind (fs ds) = some env2 from e)
      refine ⟨_, _, rfl, h1.ok c F env m σ H d _ env1 _ r rp1 e1 fun σ2 r2 o2 l2 a2 => h2.ok c F env1 m σ2 H ds _ env2 Q r2 rp2 e2 fun σ3 r3 o3 l3 a3 => k σ3 r3 (fun a h => o2 a (o3 a h)) (l3.trans l2) fun i hi => ?_⟩
      rw [List.mem_append] at hi
      exact (a3 i fun z => hi (.inr z)).trans (a2 i fun z => hi (.inl z))⟩
def tgT (fs : List D → Env' → Option Env') (n : Nat) : D → Env' → Option Env' := fun d env => match d with | .tup ds => if ds.length = n then fs ds env else none | _ => none
theorem gg_tup {tgs : List Expr} {Gs : TGs} {fs : List D → Env' → Option Env'} {js : List Nat} {k n : Nat} (hc : X.calm = true) (h : GGs g X tgs Gs fs js) (hn : (assignEach tgs X.env).length = n := by rfl) (hst : (assignEach tgs X.env).findIdx? (·.1) = none := by rfl) :
    GG g X (.Tuple tgs k pos) (gTup X.K n Gs) (tgT fs n) js := ⟨pg_tup hc h.pg hn hst, fun c F env m σ H d v env2 Q r rp e kk => by
  cases d with
  | tup ds =>
    simp only [tgT] at e
    split at e
    · rename_i hl
      cases rp with
      | tup q rl => exact ⟨_, _, rfl, Evl.ex_t r.sub q, by rw [rl.length]; exact hl, h.ok c F env m σ H ds _ env2 Q r rl e kk⟩
    · cases e
  | _ => cases e⟩
def dAsgT (f : D → Env' → Option Env') (d : DE) : DS := fun env m E => d env m fun x m1 => ∃ env2, f x env = some env2 ∧ E.nx env2 m1
theorem gs_asg {tg : Expr} {T : TG} {f : D → Env' → Option Env'} {js : List Nat} (he : GE g X e d) (hg : GG g X tg T f js) (hs : swapsWithSole [tg] e pos.line X.env = pure false := by rfl) (hw : swappedStores [tg] e X.env = pure none := by rfl)
    (h1 : (assignEach [tg] X.env).map (·.2) = [assign tg X.env] := by rfl) : GS g X (.Assign [tg] e pos) (dAsgT f d) := PS.weak (ps_asg he hg.pg hs hw h1) fun D σ H ⟨c, F, env, m, E, r, h, o⟩ =>
  ⟨c, F, env, m, _, r, h, fun v H' F' m' x r' fr rp ⟨env2, e2, q⟩ => hg.ok c F' env m' σ H' x v env2 _ r' rp e2 fun σ2 r2 o2 _ _ => o.nx σ2 H' F' env2 m' r2 ((r.evo fr).sub o2) q⟩
def dPar (i j : Nat) (d : DL) : DS := fun env m E => d env m fun ds m1 => ∃ x y, ds = [x, y] ∧ E.nx ((env.set i (.val x)).set j (.val y)) m1
theorem gs_par {i j : Nat} {x y : Str} {a b : Expr} {px py pt : Pos} {kt k2 pt2} (hc : X.calm = true) (hN : X.N.Nodup) (hi : X.N[i]? = some x) (hj : X.N[j]? = some y) (hij : i ≠ j)
    (hx : X.env.scope.names.lookup x = some .local) (hy : X.env.scope.names.lookup y = some .local) (ha : GAl g X [a, b] dl)
    (hw : swappedStores [.Tuple [.Name x px, .Name y py] kt pt] (.Tuple [a, b] k2 pt2) X.env = pure (some [x, y]))
    (hs : swapsWithSole [.Tuple [.Name x px, .Name y py] kt pt] (.Tuple [a, b] k2 pt2) pos.line X.env = pure false := by rfl) :
    GS g X (.Assign [.Tuple [.Name x px, .Name y py] kt pt] (.Tuple [a, b] k2 pt2) pos) (dPar i j dl) := PS.weak (ps_par hc hN hi hj hij hx hy ha hw hs) fun D σ H ⟨c, F, env, m, E, r, h, o⟩ =>
  ⟨c, F, env, m, _, r, h, fun vs H' F' m' ds r' f rp ⟨d1, d2, e1, q⟩ => by
    subst e1
    cases rp with
    | cons p1 t1 =>
      cases t1 with
      | cons p2 t2 =>
        cases t2
        refine ⟨_, _, rfl, o.nx _ H' F' _ m' ((r'.setV p1).setV p2) ((r.evo f).sub fun a h => ?_) q⟩
        exact own_set r.len sl_no (own_set (by rw [List.length_set, List.length_set, r.len]) sl_no h)⟩
end
end G
namespace G
open PySem L2
inductive Src where
  | lst (a : Addr) | tup (a : Addr) | txt (x : Str)
def chars (x : Str) : List V := x.cps.toList.map fun c => V.str ⟨#[c]⟩
def Src.val : Src → V
  | .lst a => .ref a
  | .tup a => .ref a
  | .txt x => .str x
def Src.ok (K : PySem.W.Frag) (H : Hp) : Src → List V → Prop
  | .lst a, xs => SqL K H a xs
  | .tup a, xs => SqT K H a xs
  | .txt x, xs => xs = chars x
def Src.st (it : Addr) : Src → Nat → Heap → Prop
  | .lst a, i, h => h.IsListIter it a i
  | .tup a, i, h => h.IsTupleIter it a i
  | .txt x, i, h => ∃ t, h.IsStrIter it (strIterType x) x t i
theorem chars_get {x : Str} {i c : Nat} (h : x.cps[i]? = some c) : (chars x)[i]? = some (.str ⟨#[c]⟩) := by
  unfold chars
  rw [List.getElem?_map, Array.getElem?_toList, h]
  rfl
theorem chars_len (x : Str) : (chars x).length = x.cps.size := by unfold chars; rw [List.length_map, Array.length_toList]
section
variable {X : Cx} {pins : List (Addr × Obj)} {σ : St} {H : Hp} {s : Shared}
theorem Src.inj (I : Inv X pins σ H s) {S : Src} {xs ys : List V} (h : S.ok X.K H xs) (h' : S.ok X.K H ys) : xs = ys := by
  cases S with
  | lst a => exact I.list_inj h h'
  | tup a => exact I.tuple_inj h h'
  | txt x => exact Eq.trans h (Eq.symm h')
theorem sq_apart {P : Prop} (I : Inv X pins σ H s) {a b : Addr} (h : (∃ u, Rd H a u) ∨ ∃ o, X.K.lookup a = some o) (f : FpOk X pins H b) : a ≠ b := by
  intro e
  subst e
  obtain ⟨f0, _, _, f3, _⟩ := f
  rcases h with ⟨u, h⟩ | ⟨o, h⟩
  · rcases h with h | ⟨_, h⟩
    · rw [f0] at h; cases h
    · rw [f0] at h; cases h
  · have hb := I.ok.mod.kin a o h
    rcases f3 with q | q
    · exact I.ok.noex a o hb q
    · have := Heap.lt_size ((I.ok.bs a o hb).1)
      exact absurd this (Nat.not_lt.mpr q)
theorem sqL_there {K : PySem.W.Frag} {a : Addr} {xs : List V} (h : SqL K H a xs) : (∃ u, Rd H a u) ∨ ∃ o, K.lookup a = some o := by
  rcases h with h | ⟨o, _, _, h, _⟩
  · exact .inl ⟨_, h⟩
  · exact .inr ⟨o, h⟩
theorem sqT_there {K : PySem.W.Frag} {a : Addr} {xs : List V} (h : SqT K H a xs) : (∃ u, Rd H a u) ∨ ∃ o, K.lookup a = some o := by
  rcases h with h | ⟨o, _, _, h, _⟩
  · exact .inl ⟨_, h⟩
  · exact .inr ⟨o, h⟩
theorem Src.draws (I : Inv X pins σ H s) {A : Around} (hh : A.handled = none) {S : Src} {xs : List V} (ok : S.ok X.K H xs) {it : Addr} {i : Nat} (st : S.st it i s.heap) (f : FpOk X pins H it) :
    ∃ (fp : List Addr) (P : Nat → Value → Prop) (T : Nat → Heap → Prop), Draws X.prog X.w A it fp xs.length P T ∧ T i s.heap ∧ (∀ j h, T j h → S.st it j h) ∧ (∀ j u, P j u → ∃ v, xs[j]? = some v ∧ RelV v u) ∧ it ∈ fp ∧ ∀ b ∈ fp, b = it ∨ ∀ c, FpOk X pins H c → b ≠ c := by
  cases S with
  | lst a =>
    obtain ⟨its, rv, pl, _⟩ := I.list ok
    have na : a ≠ it := sq_apart (P := True) I (sqL_there ok) f
    have DD := Draws.list (prog := X.prog) (w := X.w) hh it a na its.toArray
    rw [List.size_toArray, ← rv.length] at DD
    refine ⟨[it, a], _, _, DD, ⟨st, pl.isList⟩, fun j h q => q.1, fun j u q => ?_, by simp, fun b hb => ?_⟩
    · have q' : its[j]? = some u := by simpa using q
      have hj : j < xs.length := by rw [rv.length]; exact (List.getElem?_eq_some_iff.mp q').1
      have e : xs[j]? = some xs[j] := List.getElem?_eq_getElem hj
      obtain ⟨u', h1, h2⟩ := rv.get e
      rw [q'] at h1
      cases h1
      exact ⟨_, e, h2⟩
    · rcases List.mem_cons.mp hb with e | e
      · exact .inl e
      · have e : b = a := by simpa using e
        subst e
        exact .inr fun c fc => sq_apart (P := True) I (sqL_there ok) fc
  | tup a =>
    obtain ⟨its, rv, pl, _⟩ := I.tuple ok
    have na : a ≠ it := sq_apart (P := True) I (sqT_there ok) f
    have DD := Draws.tuple (prog := X.prog) (w := X.w) hh it a na its.toArray
    rw [List.size_toArray, ← rv.length] at DD
    refine ⟨[it, a], _, _, DD, ⟨st, pl⟩, fun j h q => q.1, fun j u q => ?_, by simp, fun b hb => ?_⟩
    · have q' : its[j]? = some u := by simpa using q
      have hj : j < xs.length := by rw [rv.length]; exact (List.getElem?_eq_some_iff.mp q').1
      have e : xs[j]? = some xs[j] := List.getElem?_eq_getElem hj
      obtain ⟨u', h1, h2⟩ := rv.get e
      rw [q'] at h1
      cases h1
      exact ⟨_, e, h2⟩
    · rcases List.mem_cons.mp hb with e | e
      · exact .inl e
      · have e : b = a := by simpa using e
        subst e
        exact .inr fun c fc => sq_apart (P := True) I (sqT_there ok) fc
  | txt x =>
    have ok' : xs = chars x := ok
    subst ok'
    obtain ⟨t, st⟩ := st
    refine ⟨[it], _, _, chars_len x ▸ Draws.text hh it x t, st, fun j h q => ⟨t, q⟩, fun j u q => ?_, by simp, fun b hb => .inl (by simpa using hb)⟩
    obtain ⟨ch, u', h1, rfl⟩ := q
    exact ⟨_, chars_get h1, ⟨u', rfl⟩⟩
theorem Src.stay {S : Src} {it : Addr} {i : Nat} {h h' : Heap} (st : S.st it i h) (k : ∀ o, h.get? it = some o → h'.get? it = some o) : S.st it i h' := by
  cases S with
  | lst a => exact Heap.IsListIter.at st k
  | tup a => exact Heap.IsTupleIter.at st k
  | txt x => obtain ⟨t, o, ho, r⟩ := st; exact ⟨t, o, k o ho, r⟩
theorem Src.obj {S : Src} {it : Addr} {i : Nat} {h : Heap} (st : S.st it i h) : ∃ o, h.get? it = some o ∧ ∀ v, o.data ≠ .cell v := by
  cases S with
  | lst a => obtain ⟨o, e, _, d⟩ := st; exact ⟨o, e, fun v q => by rw [d] at q; cases q⟩
  | tup a => obtain ⟨o, e, _, d⟩ := st; exact ⟨o, e, fun v q => by rw [d] at q; cases q⟩
  | txt x => obtain ⟨t, o, e, _, d⟩ := st; exact ⟨o, e, fun v q => by rw [d] at q; cases q⟩
end
theorem Src.begins {X : Cx} {pins : List (Addr × Obj)} {σ : St} {H : Hp} {s : Shared} (I : Inv X pins σ H s) {S : Src} {xs : List V} (ok : S.ok X.K H xs) {u : Value} (r : RelV S.val u) :
    ∃ (o : Obj) (T : Heap → Prop), Begins u o T ∧ T s.heap ∧ ∀ (it : Addr) (h : Heap), h.get? it = some o → S.st it 0 h := by
  cases S with
  | lst a =>
    obtain ⟨its, rv, pl, _⟩ := I.list ok
    cases r
    exact ⟨_, _, begins_list a its.toArray, pl.isList, fun it h e => ⟨_, e, rfl, rfl⟩⟩
  | tup a =>
    obtain ⟨its, rv, pl, _⟩ := I.tuple ok
    cases r
    exact ⟨_, _, begins_tuple a its.toArray, pl, fun it h e => ⟨_, e, rfl, rfl⟩⟩
  | txt x =>
    obtain ⟨t, rfl⟩ := r
    exact ⟨_, _, begins_text x t, trivial, fun it h e => ⟨t, _, e, rfl, rfl⟩⟩
def ItZ (K : PySem.W.Frag) (S1 S2 : Src) : It :=
  ⟨fun i H => ∃ (xs ys : List V) (x y : V), S1.ok K H xs ∧ S2.ok K H ys ∧ xs[i]? = some x ∧ ys[i]? = some y,
   fun i H v H' => ∃ T x y, v = .ref T ∧ H T = none ∧ H' = upd H T (.tup [x, y]) ∧ (∀ xs, S1.ok K H xs → xs[i]? = some x) ∧ ∀ ys, S2.ok K H ys → ys[i]? = some y,
   fun i H => ∃ xs ys : List V, S1.ok K H xs ∧ S2.ok K H ys ∧ i = min xs.length ys.length⟩
def ZSt (S1 S2 : Src) (z TI TO i1 i2 : Addr) (i : Nat) (h : Heap) : Prop := IsZip h z TI TO .none ∧ IsTupOf2 h TI (.ref i1) (.ref i2) ∧ (∃ x y, IsTupOf2 h TO x y) ∧ S1.st i1 i h ∧ S2.st i2 i h
structure ZAp (z TI TO i1 i2 : Addr) : Prop where
  a : TI ≠ z
  b : TO ≠ z
  c : TI ≠ TO
  d : TI ≠ i1
  e : TI ≠ i2
  f : z ≠ i1
  g : z ≠ i2
  h : TO ≠ i1
  i : TO ≠ i2
  j : i1 ≠ i2
theorem zsep {X : Cx} {pins : List (Addr × Obj)} {H : Hp} {z TI TO i1 i2 : Addr} {fp1 fp2 : List Addr} (A : ZAp z TI TO i1 i2) (m1 : i1 ∈ fp1) (m2 : i2 ∈ fp2) (h1 : ∀ b ∈ fp1, b = i1 ∨ ∀ c, FpOk X pins H c → b ≠ c) (h2 : ∀ b ∈ fp2, b = i2 ∨ ∀ c, FpOk X pins H c → b ≠ c)
    (fz : FpOk X pins H z) (fT : FpOk X pins H TO) (f1 : FpOk X pins H i1) (f2 : FpOk X pins H i2) : ZipSep2 z TI TO i1 i2 fp1 fp2 :=
  { TIz := A.a, TOz := A.b, TITO := A.c, TIi1 := A.d, mem1 := m1, TIi2 := A.e, mem2 := m2,
    zf1 := fun q => (h1 z q).elim (fun e => A.f e) fun k => k z fz rfl, Tf1 := fun q => (h1 TO q).elim (fun e => A.h e) fun k => k TO fT rfl,
    zf2 := fun q => (h2 z q).elim (fun e => A.g e) fun k => k z fz rfl, Tf2 := fun q => (h2 TO q).elim (fun e => A.i e) fun k => k TO fT rfl,
    sep1_2 := fun q => (h2 i1 q).elim (fun e => A.j e) fun k => k i1 f1 rfl, sep2_1 := fun q => (h1 i2 q).elim (fun e => A.j e.symm) fun k => k i2 f2 rfl }
theorem turnZ {P : Program} {w : World} {K : PySem.W.Frag} {elts : List Expr} {kk : Nat} {tpos : Pos} {S1 S2 : Src} {z TI TO i1 i2 : Addr} (A : ZAp z TI TO i1 i2) :
    Turn P w K (.Tuple elts kk tpos) (ItZ K S1 S2) [z, TI, TO, i1, i2] z (ZSt S1 S2 z TI TO i1 i2) where
  mem := by simp
  obj := fun i h st c hc => by
    obtain ⟨hz, hTI, ⟨x, y, hTO⟩, s1, s2⟩ := st
    simp only [List.mem_cons, List.not_mem_nil, or_false] at hc
    rcases hc with rfl | rfl | rfl | rfl | rfl
    · exact ⟨_, hz, fun v q => nomatch q⟩
    · exact ⟨_, hTI, fun v q => nomatch q⟩
    · exact ⟨_, hTO, fun v q => nomatch q⟩
    · exact (Src.obj s1)
    · exact (Src.obj s2)
  keep := fun i h h' st k => by
    obtain ⟨hz, hTI, ⟨x, y, hTO⟩, s1, s2⟩ := st
    exact ⟨k z (by simp) _ hz, k TI (by simp) _ hTI, ⟨x, y, k TO (by simp) _ hTO⟩, Src.stay s1 (k i1 (by simp)), Src.stay s2 (k i2 (by simp))⟩
  item := by
    intro X hP hw hK hc i pins s σ H E I hf st hg
    subst hP hw hK
    obtain ⟨hz, hTI, ⟨x0, y0, hTO⟩, s1, s2⟩ := st
    obtain ⟨xs, ys, x, y, ok1, ok2, hx, hy⟩ := hg
    have hd : X.A.in1.handled = none := I.ok.hd hc
    obtain ⟨fp1, P1, T1, D1, t1, c1, r1, m1, a1⟩ := Src.draws I hd ok1 s1 (hf i1 (by simp))
    obtain ⟨fp2, P2, T2, D2, t2, c2, r2, m2, a2⟩ := Src.draws I hd ok2 s2 (hf i2 (by simp))
    have W := GoesN.zip2 (A := X.A) (elts := elts) (x1 := kk) (pos := tpos) (zsep A m1 m2 a1 a2 (hf z (by simp)) (hf TO (by simp)) (hf i1 (by simp)) (hf i2 (by simp))) D1 D2
    have l1 := (List.getElem?_eq_some_iff.mp hx).1
    have l2 := (List.getElem?_eq_some_iff.mp hy).1
    refine W.goes i s (fun u s2 => ∃ x H', Inv X pins σ H' s2 ∧ RelV x u ∧ (ItZ X.K S1 S2).yld i H x H' ∧ ZSt S1 S2 z TI TO i1 i2 (i + 1) s2.heap ∧ ∀ b ∈ [z, TI, TO, i1, i2], H' b = none) E (by omega) ⟨hz, hTI, ⟨x0, y0, hTO⟩, t1, t2⟩ fun v h' tk hY st' hk htk => ?_
    obtain ⟨T, u1, u2, rfl, hT, p1, p2, isT⟩ := hY
    obtain ⟨v1, e1, q1⟩ := r1 i u1 p1
    obtain ⟨v2, e2, q2⟩ := r2 i u2 p2
    rw [hx] at e1
    rw [hy] at e2
    cases e1
    cases e2
    have hn : H T = none := I.hok.fresh hT
    have new : ObjOk X.prog X.w (upd H T (.tup [x, y])) h' T (.tup [x, y]) := ⟨by show 2 ≤ sizeLine; decide, [u1, u2], .cons q1 (.cons q2 .nil), isT⟩
    have I1 := I.turnedNew (t' := tk) (h' := h') (ch := [z, TI, TO, i1, i2]) (fun b o hb e => hk b o (fun q => hb (by
      simp only [List.mem_cons, List.not_mem_nil, or_false] at q ⊢
      rcases q with q | q | q | q <;> simp [q])) e) hf hT new
    refine ⟨.ref T, _, I1, rfl, ⟨T, x, y, rfl, hn, rfl, fun l hl => by rw [Src.inj I hl ok1]; exact hx, fun l hl => by rw [Src.inj I hl ok2]; exact hy⟩, ?_, fun b hb => ?_⟩
    · obtain ⟨hz', hTI', hTO', t1', t2'⟩ := st'
      exact ⟨hz', hTI', hTO', c1 _ _ t1', c2 _ _ t2'⟩
    · have hb0 := (hf b hb).1
      have hne : b ≠ T := fun e => by
        subst e
        have : ∃ o, s.heap.get? b = some o := by
          simp only [List.mem_cons, List.not_mem_nil, or_false] at hb
          rcases hb with rfl | rfl | rfl | rfl | rfl
          · exact ⟨_, hz⟩
          · exact ⟨_, hTI⟩
          · exact ⟨_, hTO⟩
          · obtain ⟨o, e, _⟩ := (Src.obj s1); exact ⟨o, e⟩
          · obtain ⟨o, e, _⟩ := (Src.obj s2); exact ⟨o, e⟩
        obtain ⟨o, e⟩ := this
        exact absurd (Heap.lt_size e) (Nat.not_lt.mpr hT)
      rw [upd_ne hne]
      exact hb0
  done := by
    intro X hP hw hK hc i pins s σ H E I hf st hg
    subst hP hw hK
    obtain ⟨hz, hTI, ⟨x0, y0, hTO⟩, s1, s2⟩ := st
    obtain ⟨xs, ys, ok1, ok2, hi⟩ := hg
    have hd : X.A.in1.handled = none := I.ok.hd hc
    obtain ⟨fp1, P1, T1, D1, t1, c1, r1, m1, a1⟩ := Src.draws I hd ok1 s1 (hf i1 (by simp))
    obtain ⟨fp2, P2, T2, D2, t2, c2, r2, m2, a2⟩ := Src.draws I hd ok2 s2 (hf i2 (by simp))
    have W := GoesN.zip2 (A := X.A) (elts := elts) (x1 := kk) (pos := tpos) (zsep A m1 m2 a1 a2 (hf z (by simp)) (hf TO (by simp)) (hf i1 (by simp)) (hf i2 (by simp))) D1 D2
    refine W.stops s (fun s1 => Inv X pins σ H s1) E (by rw [← hi]; exact ⟨hz, hTI, ⟨x0, y0, hTO⟩, t1, t2⟩) fun h' tk hk htk => ?_
    exact I.turnedL (t' := tk) (ch := [z, TI, TO, i1, i2]) (fun b o hb e => hk b o (fun q => hb (by
      simp only [List.mem_cons, List.not_mem_nil, or_false] at q ⊢
      rcases q with q | q | q | q <;> simp [q])) e) hf
  self := fun A' i s Q E st h => wpAny_pyIter_zip st.1 h
def iZipG (K : PySem.W.Frag) (ta : TA) : TI := fun σ H R => ta σ H fun vs H1 => ∃ S1 S2 xs ys, vs = [S1.val, S2.val] ∧ S1.ok K H1 xs ∧ S2.ok K H1 ys ∧ R (ItZ K S1 S2) H1
theorem pi_zipG {X : Cx} {e e2 : Expr} {ta : TA} {p pos tpos : Pos} {elts : List Expr} {kk : Nat} (hg : Gl X "zip") (hm : X.mg "zip" = none) (ha : PA X [e, e2] ta)
    (hs : starEach [e, e2] X.env = (false, eval e X.env) :: starEach [e2] X.env := by rfl) (hpl : (backTo pos (starEach [e2] X.env)).any (·.1) = false := by rfl) :
    PI X (.Tuple elts kk tpos) (.Call (.Name "zip" p) [e, e2] [] pos) (iZipG X.K ta) := by
  refine ⟨fun pins s σ H R I h => ?_⟩
  refine PyProof.Rows.Call_ (ld_blt I hg hm PyProof.Rows.boot_zip (PyProof.Rows.callWith_type1 (thn (ha.run pos pins s σ H _ I h) fun us s1 ⟨vs, H1, I1, r1, q1⟩ => ?_) hs hpl))
  obtain ⟨S1, S2, xs, ys, ex, ok1, ok2, q⟩ := q1
  subst ex
  obtain ⟨u1, u2, rfl, ru1, ru2⟩ := r1.two
  obtain ⟨o1, T1, B1, t1, k1⟩ := Src.begins I1 ok1 ru1
  obtain ⟨o2, T2, B2, t2, k2⟩ := Src.begins I1 ok2 ru2
  refine zip_begins2 B1 B2 t1 t2 fun h' hz hTI hTO g1 g2 hsz hk => wpAny_pyIter_zip hz ?_
  have I2 : Inv X pins σ H1 { s1 with heap := h' } := I1.kept (t' := s1.toks) hk
  refine ⟨s1.heap.objs.size + 4, [s1.heap.objs.size + 4, s1.heap.objs.size + 2, s1.heap.objs.size + 3, s1.heap.objs.size, s1.heap.objs.size + 1], _, _, H1, rfl, I2, turnZ (S1 := S1) (S2 := S2) ?_, ⟨hz, hTI, ⟨_, _, hTO⟩, k1 _ _ g1, k2 _ _ g2⟩, fun b hb => ?_, q⟩
  · generalize s1.heap.objs.size = N
    exact ⟨show (N + 2 : Nat) ≠ N + 4 by omega, show (N + 3 : Nat) ≠ N + 4 by omega, show (N + 2 : Nat) ≠ N + 3 by omega, show (N + 2 : Nat) ≠ N by omega, show (N + 2 : Nat) ≠ N + 1 by omega, show (N + 4 : Nat) ≠ N by omega, show (N + 4 : Nat) ≠ N + 1 by omega, show (N + 3 : Nat) ≠ N by omega, show (N + 3 : Nat) ≠ N + 1 by omega, show (N : Nat) ≠ N + 1 by omega⟩
  · have hle : s1.heap.objs.size ≤ b := by
      simp only [List.mem_cons, List.not_mem_nil, or_false] at hb
      rcases hb with rfl | rfl | rfl | rfl | rfl
      · exact Nat.le_add_right _ _
      · exact Nat.le_add_right _ _
      · exact Nat.le_add_right _ _
      · exact Nat.le_refl _
      · exact Nat.le_add_right _ _
    exact I1.fpOk hle (I1.hok.fresh hle)
set_option maxHeartbeats 1000000 in
theorem meets_enum1 {v : Value} {o : Obj} {T : Heap → Prop} (B : Begins v o T) :
    Meets (Builtin.«enumerate.__new__» ⟨[.type "enumerate", v], []⟩) (fun _ R s => T s.heap ∧
      R (.ok (.ret (.ref (s.heap.push o).objs.size))) { s with heap := (s.heap.push o).push { cls := .type "enumerate", data := .fields #[.none, .bool false, .ref s.heap.objs.size, rawInt 0, .none, .none] } }) :=
  .of_wp fun prog w A R s h => by
    obtain ⟨hp, gg, dd, tk, os⟩ := s
    obtain ⟨h1, h⟩ := h
    have hsub := sub_enumerate
    have q1 : ∀ {A' : Around} {E : Value → Shared → Prop} {Q : Value → Shared → Prop}, Q (.ref hp.objs.size) ⟨hp.push o, gg, dd, tk, os⟩ → wpAny (model prog w) A' (pyIter v) Q E ⟨hp, gg, dd, tk, os⟩ :=
      fun q => B.iter prog w _ _ ⟨hp, gg, dd, tk, os⟩ _ h1 q
    wp_walk using q1
    refine wpAny_stack_any fun st => wpAny_pure ?_
    split
    · rename_i cc _ _ _ _ _
      cases (cc == Value.type "enumerate") <;> (wp_walk using q1; exact ⟨_, rfl, h⟩)
    · wp_walk using q1
      exact ⟨_, rfl, h⟩
theorem enum1_begins {prog : Program} {w : World} {A : Around} {E : Value → Shared → Prop} {s : Shared} {v : Value} {o : Obj} {T : Heap → Prop} {Q : Value → Shared → Prop} (B : Begins v o T) (h1 : T s.heap)
    (h : ∀ h', IsEnum h' (s.heap.objs.size + 1) s.heap.objs.size 0 .none → h'.get? s.heap.objs.size = some o → h'.objs.size = s.heap.objs.size + 2 →
      (∀ b o, s.heap.get? b = some o → h'.get? b = some o) → Q (.ref (s.heap.objs.size + 1)) { s with heap := h' }) :
    wpAny (model prog w) A (call (.type "enumerate") [v]) Q E s := by
  refine callType_new F.called_enumerate (by decide) (F.typeCall_enumerate_1 _) (F.newCall_enumerate_1 _) (fun obj => F.args_object_init_2 obj _) F.entry_enumerate_new (meets_enum1 B) ⟨h1, ?_⟩
  have hz : (s.heap.push o).objs.size = s.heap.objs.size + 1 := Heap.size_push ..
  show _ ∧ _
  rw [hz]
  have he : IsEnum ((s.heap.push o).push { cls := .type "enumerate", data := .fields #[.none, .bool false, .ref s.heap.objs.size, rawInt 0, .none, .none] }) (s.heap.objs.size + 1) s.heap.objs.size 0 .none := by
    have := Heap.get?_push_size (s.heap.push o) (o := { cls := .type "enumerate", data := .fields #[.none, .bool false, .ref s.heap.objs.size, rawInt 0, .none, .none] }) rfl
    rw [hz] at this
    exact this
  exact ⟨⟨_, he, rfl⟩, h _ he (Heap.get?_push_of_some _ (Heap.get?_push_size _ B.free)) (by rw [Heap.size_push, hz]) fun b o x => Heap.get?_push_of_some _ (Heap.get?_push_of_some _ x)⟩
def ItE (K : PySem.W.Frag) (S : Src) : It :=
  ⟨fun i H => ∃ (xs : List V) (x : V), S.ok K H xs ∧ xs[i]? = some x,
   fun i H v H' => ∃ T x, v = .ref T ∧ H T = none ∧ H' = upd H T (.tup [.int (i : Nat), x]) ∧ ∀ xs, S.ok K H xs → xs[i]? = some x,
   fun i H => ∃ xs : List V, S.ok K H xs ∧ i = xs.length⟩
def ESt (S : Src) (e it : Addr) (i : Nat) (h : Heap) : Prop := (∃ old, IsEnum h e it (0 + (i : Int)) old) ∧ S.st it i h
theorem turnE {P : Program} {w : World} {K : PySem.W.Frag} {elts : List Expr} {kk : Nat} {tpos : Pos} {S : Src} {e it : Addr} (hne : e ≠ it) :
    Turn P w K (.Tuple elts kk tpos) (ItE K S) [e, it] e (ESt S e it) where
  mem := by simp
  obj := fun i h st c hc => by
    obtain ⟨⟨old, he⟩, s1⟩ := st
    simp only [List.mem_cons, List.not_mem_nil, or_false] at hc
    rcases hc with rfl | rfl
    · exact ⟨_, he, fun v q => nomatch q⟩
    · exact (Src.obj s1)
  keep := fun i h h' st k => by
    obtain ⟨⟨old, he⟩, s1⟩ := st
    exact ⟨⟨old, k e (by simp) _ he⟩, Src.stay s1 (k it (by simp))⟩
  item := by
    intro X hP hw hK hc i pins s σ H E I hf st hg
    subst hP hw hK
    obtain ⟨⟨old, he⟩, s1⟩ := st
    obtain ⟨xs, x, ok1, hx⟩ := hg
    have hd : X.A.in1.handled = none := I.ok.hd hc
    obtain ⟨fp1, P1, T1, D1, t1, c1, r1, m1, a1⟩ := Src.draws I hd ok1 s1 (hf it (by simp))
    have nef : e ∉ fp1 := fun q => (a1 e q).elim (fun z => hne z) fun k => k e (hf e (by simp)) rfl
    have W := GoesN.enumFrom (A := X.A) (elts := elts) (x1 := kk) (pos := tpos) 0 D1 e hne nef m1
    have l1 := (List.getElem?_eq_some_iff.mp hx).1
    refine W.goes i s (fun u s2 => ∃ x H', Inv X pins σ H' s2 ∧ RelV x u ∧ (ItE X.K S).yld i H x H' ∧ ESt S e it (i + 1) s2.heap ∧ ∀ b ∈ [e, it], H' b = none) E l1 ⟨⟨old, he⟩, t1⟩ fun v h' tk hY st' hk htk => ?_
    obtain ⟨T, t, u1, rfl, hT, p1, isT⟩ := hY
    obtain ⟨v1, e1, q1⟩ := r1 i u1 p1
    rw [hx] at e1
    cases e1
    have hn : H T = none := I.hok.fresh hT
    have new : ObjOk X.prog X.w (upd H T (.tup [.int (i : Nat), x])) h' T (.tup [.int (i : Nat), x]) := ⟨by show 2 ≤ sizeLine; decide, [.int (0 + (i : Int)) t, u1], .cons ⟨t, by rw [Int.zero_add]⟩ (.cons q1 .nil), isT⟩
    have I1 := I.turnedNew (t' := tk) (h' := h') (ch := [e, it]) (fun b o hb q => hk b o hb q) hf hT new
    refine ⟨.ref T, _, I1, rfl, ⟨T, x, rfl, hn, rfl, fun l hl => by rw [Src.inj I hl ok1]; exact hx⟩, ?_, fun b hb => ?_⟩
    · obtain ⟨he', t1'⟩ := st'
      exact ⟨he', c1 _ _ t1'⟩
    · have hb0 := (hf b hb).1
      have hne : b ≠ T := fun z => by
        subst z
        have : ∃ o, s.heap.get? b = some o := by
          simp only [List.mem_cons, List.not_mem_nil, or_false] at hb
          rcases hb with rfl | rfl
          · exact ⟨_, he⟩
          · obtain ⟨o, z, _⟩ := (Src.obj s1); exact ⟨o, z⟩
        obtain ⟨o, z⟩ := this
        exact absurd (Heap.lt_size z) (Nat.not_lt.mpr hT)
      rw [upd_ne hne]
      exact hb0
  done := by
    intro X hP hw hK hc i pins s σ H E I hf st hg
    subst hP hw hK
    obtain ⟨⟨old, he⟩, s1⟩ := st
    obtain ⟨xs, ok1, hi⟩ := hg
    have hd : X.A.in1.handled = none := I.ok.hd hc
    obtain ⟨fp1, P1, T1, D1, t1, c1, r1, m1, a1⟩ := Src.draws I hd ok1 s1 (hf it (by simp))
    have nef : e ∉ fp1 := fun q => (a1 e q).elim (fun z => hne z) fun k => k e (hf e (by simp)) rfl
    have W := GoesN.enumFrom (A := X.A) (elts := elts) (x1 := kk) (pos := tpos) 0 D1 e hne nef m1
    refine W.stops s (fun s1 => Inv X pins σ H s1) E (by rw [← hi]; exact ⟨⟨old, he⟩, t1⟩) fun h' tk hk htk => ?_
    exact I.turnedL (t' := tk) (ch := [e, it]) (fun b o hb q => hk b o hb q) hf
  self := fun A' i s Q E st h => let ⟨⟨_, he⟩, _⟩ := st; wpAny_pyIter_enum he h
def iEnumG (K : PySem.W.Frag) (ta : TA) : TI := fun σ H R => ta σ H fun vs H1 => ∃ S xs, vs = [S.val] ∧ S.ok K H1 xs ∧ R (ItE K S) H1
theorem pi_enumG {X : Cx} {e : Expr} {ta : TA} {p pos tpos : Pos} {elts : List Expr} {kk : Nat} (hg : Gl X "enumerate") (hm : X.mg "enumerate" = none) (ha : PA X [e] ta) (hs : starEach [e] X.env = [(false, eval e X.env)] := by rfl) :
    PI X (.Tuple elts kk tpos) (.Call (.Name "enumerate" p) [e] [] pos) (iEnumG X.K ta) := by
  refine ⟨fun pins s σ H R I h => ?_⟩
  refine PyProof.Rows.Call_ (ld_blt I hg hm PyProof.Rows.boot_enumerate (PyProof.Rows.callWith_type1 (thn (ha.run pos pins s σ H _ I h) fun us s1 ⟨vs, H1, I1, r1, q1⟩ => ?_) hs rfl))
  obtain ⟨S, xs, ex, ok1, q⟩ := q1
  subst ex
  obtain ⟨u1, rfl, ru1⟩ := r1.one
  obtain ⟨o1, T1, B1, t1, k1⟩ := Src.begins I1 ok1 ru1
  refine enum1_begins B1 t1 fun h' he g1 hsz hk => wpAny_pyIter_enum he ?_
  have I2 : Inv X pins σ H1 { s1 with heap := h' } := I1.kept (t' := s1.toks) hk
  refine ⟨s1.heap.objs.size + 1, [s1.heap.objs.size + 1, s1.heap.objs.size], _, _, H1, rfl, I2, turnE (S := S) (Nat.succ_ne_self _), ⟨⟨.none, he⟩, k1 _ _ g1⟩, fun b hb => ?_, q⟩
  have hle : s1.heap.objs.size ≤ b := by
    simp only [List.mem_cons, List.not_mem_nil, or_false] at hb
    rcases hb with rfl | rfl
    · exact Nat.le_add_right _ _
    · exact Nat.le_refl _
  exact I1.fpOk hle (I1.hok.fresh hle)
def Src.J (K : PySem.W.Frag) : Src → It
  | .lst a => Itl K a
  | .tup a => Itt K a
  | .txt x => Its x
def iSrc (K : PySem.W.Frag) (te : TE) : TI := fun σ H R => te σ H fun v H1 => ∃ S xs, v = Src.val S ∧ S.ok K H1 xs ∧ R (S.J K) H1
theorem pi_src {X : Cx} {tg l : Expr} {tl : TE} (hl : PE X l tl) : PI X tg l (iSrc X.K tl) := by
  refine ⟨fun pins s σ H R I h => ?_⟩
  refine thn (hl.run pins s σ H _ I h) fun v s1 ⟨x, H1, I1, r1, S, xs, ex, ok, q⟩ => ?_
  subst ex
  cases S with
  | txt x =>
    obtain ⟨t, rfl⟩ := r1
    cases ha : x.cps.all (· < 128)
    · refine wpAny_pyIter_wide ha ?_
      exact pi_one (tk := s1.toks) I1 _ (turn_str _ x t "str_iterator" (.inr rfl)) ⟨_, Heap.get?_push_size _ rfl, rfl, rfl⟩ q
    · refine wpAny_pyIter_ascii ha ?_
      exact pi_one (tk := s1.toks) I1 _ (turn_str _ x t "str_ascii_iterator" (.inl rfl)) ⟨_, Heap.get?_push_size _ rfl, rfl, rfl⟩ q
  | lst a =>
    cases r1
    obtain ⟨its, rv, p, hz⟩ := I1.list ok
    refine wpAny_pyIter_list p.isList ?_
    exact pi_one (tk := s1.toks) I1 _ (turn_list a _) ⟨_, Heap.get?_push_size _ rfl, rfl, rfl⟩ q
  | tup a =>
    cases r1
    obtain ⟨its, rv, p, hz⟩ := I1.tuple ok
    refine wpAny_pyIter_tuple (show s1.heap.IsTuple a its.toArray from p) ?_
    exact pi_one (tk := s1.toks) I1 _ (turn_tuple a _) ⟨_, Heap.get?_push_size _ rfl, rfl, rfl⟩ q
end G
namespace G
open PySem L2
def charsD (x : Str) : List D := x.cps.toList.map fun c => D.str ⟨#[c]⟩
def srcD : D → Option (List D)
  | .lst ds => some ds
  | .tup ds => some ds
  | .str s => some (charsD s)
  | _ => none
def enumD (ds : List D) : List D := ds.zipIdx.map fun p => .tup [.int (p.2 : Nat), p.1]
def zipD (as bs : List D) : List D := List.zipWith (fun a b => .tup [a, b]) as bs
def rangeD (a b : Int) : List D := (List.range (b - a).toNat).map fun i => .int (a + (i : Nat))
def WalkD (K : PySem.W.Frag) (g : Gp) (F : Hp) (lk : List (Addr × HO)) (J : It) (its : List D) : Prop := ∀ (i : Nat) (F2 H2 : Hp), Ex F F2 → Ex F2 H2 → (∀ p ∈ lk, H2 p.1 = some p.2) →
  (∀ d, its[i]? = some d → J.go i H2 ∧ ∀ x H3, J.yld i H2 x H3 → ∃ F3, New F2 H2 F3 H3 ∧ Rep K g F3 d x) ∧ (i = its.length → J.stop i H2)
def tI (K : PySem.W.Frag) (g : Gp) (bor : Bool) (di : DL) : TI := fun σ H R => ∃ c F env m Q, Rel K g c F env m σ H ∧ di env m Q ∧
  ∀ J H' F' m' its lk, Rel K g c F' env m' σ H' → Fresh c F H F' H' → (bor = false → lk = []) → (∀ p ∈ lk, H' p.1 = some p.2 ∧ c ≠ some p.1 ∧ isT p.2 = false) → WalkD K g F' lk J its → Q its m' → R J H'
def GI (bor : Bool) (g : Gp) (X : Cx) (tg iter : Expr) (di : DL) : Prop := PI X tg iter (tI X.K g bor di)
theorem PI.weak {X : Cx} {tg e : Expr} {t t' : TI} (h : PI X tg e t) (w : ∀ σ H Q, t' σ H Q → t σ H Q) : PI X tg e t' := ⟨fun pins s σ H Q I q => h.run pins s σ H Q I (w σ H Q q)⟩
section
variable {g : Gp} {X : Cx} {tg e e2 : Expr} {d da db : DE} {dl di : DL} {pos p : Pos}
theorem gi_bor (h : GI false g X tg e di) : GI true g X tg e di := PI.weak h fun σ H R ⟨c, F, env, m, Q, r, hd, k⟩ => ⟨c, F, env, m, Q, r, hd, fun J H' F' m' its lk r' f hl hk w q => k J H' F' m' its lk r' f (fun z => nomatch z) hk w q⟩
def SrcR (K : PySem.W.Frag) (g : Gp) (F : Hp) (lk : List (Addr × HO)) (S : Src) (ds : List D) : Prop := ∃ xs, RepL K g F ds xs ∧ ∀ F2 H2, Ex F F2 → Ex F2 H2 → (∀ p ∈ lk, H2 p.1 = some p.2) → S.ok K H2 xs
theorem chars_rep {K : PySem.W.Frag} {F : Hp} (x : Str) : RepL K g F (charsD x) (chars x) := by
  unfold charsD chars
  induction x.cps.toList with
  | nil => exact .nil
  | cons c r ih => exact .cons (.str _) ih
theorem src_rep {K : PySem.W.Frag} {F : Hp} {x : D} {v : V} {ds : List D} (h : Rep K g F x v) (e : srcD x = some ds) : ∃ S, v = Src.val S ∧ SrcR K g F [] S ds := by
  cases h with
  | str s => cases e; exact ⟨.txt s, rfl, _, chars_rep s, fun _ _ _ _ _ => rfl⟩
  | lst h r => cases e; exact ⟨.lst _, rfl, _, r, fun F2 H2 e1 e2 _ => SqL.of (e2 _ _ (e1 _ _ h))⟩
  | tup h r => cases e; exact ⟨.tup _, rfl, _, r, fun F2 H2 e1 e2 _ => Evl.ex_t e2 (Evl.ex_t e1 h)⟩
  | _ => cases e
theorem src_repT {K : PySem.W.Frag} {c : Option Addr} {F H : Hp} {x : D} {v : V} {ds : List D} (h : RepT K g c F H x v) (e : srcD x = some ds) : ∃ S lk, v = Src.val S ∧ SrcR K g F lk S ds ∧ ∀ p ∈ lk, H p.1 = some p.2 ∧ c ≠ some p.1 ∧ isT p.2 = false := by
  cases x with
  | lst es =>
    cases e
    obtain ⟨p, xs, rfl, h1, h2, h3⟩ := h
    exact ⟨.lst p, [(p, .lst xs)], rfl, ⟨xs, h2, fun F2 H2 e1 e2 k => SqL.of (k (p, .lst xs) (by simp))⟩, fun q hq => by simp only [List.mem_singleton] at hq; subst hq; exact ⟨h1, h3, rfl⟩⟩
  | dic kds => cases e
  | dit kds => cases e
  | _ =>
    obtain ⟨S, e1, e2⟩ := src_rep (show Rep K g F _ v from h) e
    exact ⟨S, [], e1, e2, fun _ q => by cases q⟩
theorem SrcR.more {K : PySem.W.Frag} {F F' : Hp} {lk lk' : List (Addr × HO)} {S : Src} {ds : List D} (h : SrcR K g F lk S ds) (e : Ex F F') (s : ∀ p ∈ lk, p ∈ lk') : SrcR K g F' lk' S ds := by
  obtain ⟨xs, r, k⟩ := h
  exact ⟨xs, r.mono e, fun F2 H2 e1 e2 q => k F2 H2 (e.trans e1) e2 fun p hp => q p (s p hp)⟩
theorem walk_src {K : PySem.W.Frag} {F : Hp} {lk : List (Addr × HO)} {S : Src} {ds : List D} (h : SrcR K g F lk S ds) : WalkD K g F lk (S.J K) ds := by
  obtain ⟨xs, r, k⟩ := h
  intro i F2 H2 e1 e2 q
  have ok := k F2 H2 e1 e2 q
  have r2 := r.mono e1
  refine ⟨fun d hd => ?_, fun hi => ?_⟩
  · obtain ⟨v, hv, rv⟩ := r2.get hd
    cases S with
    | lst a => exact ⟨⟨xs, v, ok, hv⟩, fun x H3 ⟨e, y⟩ => by subst e; have := y xs ok; rw [hv] at this; cases this; exact ⟨F2, New.refl e2, rv⟩⟩
    | tup a => exact ⟨⟨xs, v, ok, hv⟩, fun x H3 ⟨e, y⟩ => by subst e; have := y xs ok; rw [hv] at this; cases this; exact ⟨F2, New.refl e2, rv⟩⟩
    | txt x =>
      have ok' : xs = chars x := ok
      subst ok'
      have hl := (List.getElem?_eq_some_iff.mp hv).1
      rw [chars_len] at hl
      refine ⟨hl, fun y H3 ⟨e, c, hc, ey⟩ => ?_⟩
      subst e ey
      have := chars_get hc
      rw [hv] at this
      cases this
      exact ⟨F2, New.refl e2, rv⟩
  · have hl : i = xs.length := by rw [r.length]; exact hi
    cases S with
    | lst a => exact ⟨xs, ok, by omega⟩
    | tup a => exact ⟨xs, ok, by omega⟩
    | txt x =>
      have ok' : xs = chars x := ok
      subst ok'
      rw [chars_len] at hl
      show x.cps.size ≤ i
      omega
def dISrc (d : DE) : DL := fun env m Q => d env m fun x m1 => ∃ ds, srcD x = some ds ∧ Q ds m1
theorem gi_src (he : GE g X e d) : GI false g X tg e (dISrc d) := PI.weak (pi_src he) fun σ H R ⟨c, F, env, m, Q, r, hd, k⟩ =>
  ⟨c, F, env, m, _, r, hd, fun v H' F' m' x r' f rp ⟨ds, e1, q⟩ => by
    obtain ⟨S, rfl, sr⟩ := src_rep rp e1
    obtain ⟨xs, rl, ok⟩ := id sr
    exact ⟨S, xs, rfl, ok F' H' (fun _ _ h => h) r'.sub (fun _ z => by cases z), k _ H' F' m' ds [] r' f (fun _ => rfl) (fun _ z => by cases z) (walk_src sr) q⟩⟩
theorem gi_srcB (he : GB g X e d) : GI true g X tg e (dISrc d) := PI.weak (pi_src he) fun σ H R ⟨c, F, env, m, Q, r, hd, k⟩ =>
  ⟨c, F, env, m, _, r, hd, fun v H' F' m' x r' f rp ⟨ds, e1, q⟩ => by
    obtain ⟨S, lk, rfl, sr, hk⟩ := src_repT rp e1
    obtain ⟨xs, rl, ok⟩ := id sr
    exact ⟨S, xs, rfl, ok F' H' (fun _ _ h => h) r'.sub (fun p hp => (hk p hp).1), k _ H' F' m' ds lk r' f (fun z => nomatch z) hk (walk_src sr) q⟩⟩
theorem enumD_get {ds : List D} {i : Nat} {d : D} (h : (enumD ds)[i]? = some d) : ∃ x, ds[i]? = some x ∧ d = .tup [.int (i : Nat), x] := by
  unfold enumD at h
  rw [List.getElem?_map, List.getElem?_zipIdx] at h
  cases q : ds[i]? with
  | none => rw [q] at h; cases h
  | some x => rw [q] at h; cases h; exact ⟨x, rfl, by simp⟩
theorem enumD_len (ds : List D) : (enumD ds).length = ds.length := by unfold enumD; rw [List.length_map, List.length_zipIdx]
theorem rep_pair {K : PySem.W.Frag} {F H : Hp} {T : Addr} {x y : V} {a b : D} (hT : H T = none) (e : Ex F H) (ra : Rep K g F a x) (rb : Rep K g F b y) : ∃ F3, New F H F3 (upd H T (.tup [x, y])) ∧ Rep K g F3 (.tup [a, b]) (.ref T) := by
  have n := New.fix (o := .tup [x, y]) e hT
  exact ⟨_, n, .tup (SqT.of upd_same) (.cons (ra.mono n.ff) (.cons (rb.mono n.ff) .nil))⟩
theorem walk_enum {K : PySem.W.Frag} {F : Hp} {lk : List (Addr × HO)} {S : Src} {ds : List D} (h : SrcR K g F lk S ds) : WalkD K g F lk (ItE K S) (enumD ds) := by
  obtain ⟨xs, r, k⟩ := h
  intro i F2 H2 e1 e2 q
  have ok := k F2 H2 e1 e2 q
  have r2 := r.mono e1
  refine ⟨fun d hd => ?_, fun hi => ?_⟩
  · obtain ⟨x, hx, rfl⟩ := enumD_get hd
    obtain ⟨v, hv, rv⟩ := r2.get hx
    refine ⟨⟨xs, v, ok, hv⟩, fun y H3 ⟨T, z, ey, hT, eH, hz⟩ => ?_⟩
    subst ey eH
    have := hz xs ok
    rw [hv] at this
    cases this
    exact rep_pair hT e2 (.int _) rv
  · exact ⟨xs, ok, by rw [r.length, ← enumD_len ds]; exact hi⟩
def dIEnum (d : DE) : DL := fun env m Q => d env m fun x m1 => ∃ ds, srcD x = some ds ∧ Q (enumD ds) m1
variable {elts : List Expr} {kk : Nat} {tpos : Pos}
theorem gi_enum (hg : Gl X "enumerate") (hm : X.mg "enumerate" = none) (he : GE g X e d) (hs : starEach [e] X.env = [(false, eval e X.env)] := by rfl) : GI false g X (.Tuple elts kk tpos) (.Call (.Name "enumerate" p) [e] [] pos) (dIEnum d) :=
  PI.weak (pi_enumG hg hm (pa_cons he pa_nil hs) hs) fun σ H R ⟨c, F, env, m, Q, r, hd, k⟩ =>
  ⟨c, F, env, m, _, r, hd, fun v H' F' m' x r' f rp ⟨ds, e1, q⟩ => by
    obtain ⟨S, rfl, sr⟩ := src_rep rp e1
    obtain ⟨xs, rl, ok⟩ := id sr
    exact ⟨S, xs, rfl, ok F' H' (fun _ _ h => h) r'.sub (fun _ z => by cases z), k _ H' F' m' _ [] r' f (fun _ => rfl) (fun _ z => by cases z) (walk_enum sr) q⟩⟩
theorem gi_enumB (hg : Gl X "enumerate") (hm : X.mg "enumerate" = none) (he : GB g X e d) (hs : starEach [e] X.env = [(false, eval e X.env)] := by rfl) : GI true g X (.Tuple elts kk tpos) (.Call (.Name "enumerate" p) [e] [] pos) (dIEnum d) :=
  PI.weak (pi_enumG hg hm (pa_cons he pa_nil hs) hs) fun σ H R ⟨c, F, env, m, Q, r, hd, k⟩ =>
  ⟨c, F, env, m, _, r, hd, fun v H' F' m' x r' f rp ⟨ds, e1, q⟩ => by
    obtain ⟨S, lk, rfl, sr, hk⟩ := src_repT rp e1
    obtain ⟨xs, rl, ok⟩ := id sr
    exact ⟨S, xs, rfl, ok F' H' (fun _ _ h => h) r'.sub (fun p hp => (hk p hp).1), k _ H' F' m' _ lk r' f (fun z => nomatch z) hk (walk_enum sr) q⟩⟩
theorem zipD_get {as bs : List D} {i : Nat} {d : D} (h : (zipD as bs)[i]? = some d) : ∃ x y, as[i]? = some x ∧ bs[i]? = some y ∧ d = .tup [x, y] := by
  unfold zipD at h
  rw [List.getElem?_zipWith] at h
  cases q : as[i]? with
  | none => rw [q] at h; cases h
  | some x =>
    cases q2 : bs[i]? with
    | none => rw [q, q2] at h; cases h
    | some y => rw [q, q2] at h; cases h; exact ⟨x, y, rfl, rfl, rfl⟩
theorem zipD_len (as bs : List D) : (zipD as bs).length = min as.length bs.length := by unfold zipD; rw [List.length_zipWith]
theorem walk_zip {K : PySem.W.Frag} {F : Hp} {lk : List (Addr × HO)} {S1 S2 : Src} {as bs : List D} (h1 : SrcR K g F lk S1 as) (h2 : SrcR K g F lk S2 bs) : WalkD K g F lk (ItZ K S1 S2) (zipD as bs) := by
  obtain ⟨xs, r, k⟩ := h1
  obtain ⟨ys, r', k'⟩ := h2
  intro i F2 H2 e1 e2 q
  have ok := k F2 H2 e1 e2 q
  have ok' := k' F2 H2 e1 e2 q
  refine ⟨fun d hd => ?_, fun hi => ?_⟩
  · obtain ⟨x, y, hx, hy, rfl⟩ := zipD_get hd
    obtain ⟨v, hv, rv⟩ := (r.mono e1).get hx
    obtain ⟨w, hw, rw'⟩ := (r'.mono e1).get hy
    refine ⟨⟨xs, ys, v, w, ok, ok', hv, hw⟩, fun u H3 ⟨T, a, b, eu, hT, eH, ha, hb⟩ => ?_⟩
    subst eu eH
    have z1 := ha xs ok
    have z2 := hb ys ok'
    rw [hv] at z1
    rw [hw] at z2
    cases z1
    cases z2
    exact rep_pair hT e2 rv rw'
  · exact ⟨xs, ys, ok, ok', by rw [r.length, r'.length, ← zipD_len]; exact hi⟩
def dIZip (da db : DE) : DL := fun env m Q => da env m fun x m1 => db env m1 fun y m2 => ∃ as bs, srcD x = some as ∧ srcD y = some bs ∧ Q (zipD as bs) m2
theorem gi_zip (hg : Gl X "zip") (hm : X.mg "zip" = none) (he : GE g X e da) (he2 : GE g X e2 db) (hs : starEach [e, e2] X.env = (false, eval e X.env) :: starEach [e2] X.env := by rfl) (hs2 : starEach [e2] X.env = (false, eval e2 X.env) :: starEach [] X.env := by rfl)
    (hpl : (backTo pos (starEach [e2] X.env)).any (·.1) = false := by rfl) : GI false g X (.Tuple elts kk tpos) (.Call (.Name "zip" p) [e, e2] [] pos) (dIZip da db) :=
  PI.weak (pi_zipG hg hm (pa_cons he (pa_cons he2 pa_nil hs2) hs) hs hpl) fun σ H R ⟨c, F, env, m, Q, r, hd, k⟩ =>
  ⟨c, F, env, m, _, r, hd, fun v H1 F1 m1 x r1 f1 rp1 q1 => ⟨c, F1, env, m1, _, r1, q1, fun w H' F' m' y r' f' rp' ⟨as, bs, e1, e2, q⟩ => by
    obtain ⟨S1, rfl, s1⟩ := src_rep (rp1.mono f'.ff) e1
    obtain ⟨S2, rfl, s2⟩ := src_rep rp' e2
    obtain ⟨xs, _, ok⟩ := id s1
    obtain ⟨ys, _, ok'⟩ := id s2
    exact ⟨S1, S2, xs, ys, rfl, ok F' H' (fun _ _ h => h) r'.sub (fun _ z => by cases z), ok' F' H' (fun _ _ h => h) r'.sub (fun _ z => by cases z), k _ H' F' m' _ [] r' (f1.trans f') (fun _ => rfl) (fun _ z => by cases z) (walk_zip s1 s2) q⟩⟩⟩
theorem rangeD_get {a b : Int} {i : Nat} {d : D} (h : (rangeD a b)[i]? = some d) : i < (b - a).toNat ∧ d = .int (a + (i : Nat)) := by
  unfold rangeD at h
  rw [List.getElem?_map] at h
  cases q : (List.range (b - a).toNat)[i]? with
  | none => rw [q] at h; cases h
  | some j =>
    rw [q] at h
    cases h
    obtain ⟨h1, h2⟩ := List.getElem?_eq_some_iff.mp q
    rw [List.getElem_range] at h2
    subst h2
    exact ⟨by simpa using h1, rfl⟩
theorem rangeD_len (a b : Int) : (rangeD a b).length = (b - a).toNat := by unfold rangeD; rw [List.length_map, List.length_range]
theorem walk_range {K : PySem.W.Frag} {F : Hp} (a b : Int) : WalkD K g F [] (Itr a (b - a).toNat) (rangeD a b) := by
  intro i F2 H2 e1 e2 q
  refine ⟨fun d hd => ?_, fun hi => ?_⟩
  · obtain ⟨hl, rfl⟩ := rangeD_get hd
    refine ⟨hl, fun x H3 ⟨e, ex⟩ => ?_⟩
    subst e ex
    exact ⟨F2, New.refl e2, .int _⟩
  · rw [rangeD_len] at hi
    show (b - a).toNat ≤ i
    omega
def dIRng (d : DE) : DL := fun env m Q => d env m fun x m1 => ∃ n : Int, x = .int n ∧ -(2 ^ 62) ≤ n ∧ n < 2 ^ 62 ∧ Q (rangeD 0 n) m1
theorem gi_range (hg : Gl X "range") (hm : X.mg "range" = none) (he : GE g X e d) (hs : starEach [e] X.env = [(false, eval e X.env)] := by rfl) : GI false g X tg (.Call (.Name "range" p) [e] [] pos) (dIRng d) :=
  PI.weak (pi_range1 hg hm (pa_cons he pa_nil hs) hs) fun σ H R ⟨c, F, env, m, Q, r, hd, k⟩ =>
  ⟨c, F, env, m, _, r, hd, fun v H' F' m' x r' f rp ⟨n, e1, h1, h2, q⟩ => by
    subst e1
    cases rp
    refine ⟨n, rfl, h1, h2, k _ H' F' m' _ [] r' f (fun _ => rfl) (fun _ z => by cases z) ?_ q⟩
    have w := walk_range (K := X.K) (g := g) (F := F') 0 n
    rw [Int.sub_zero] at w
    exact w⟩
end
def ForR (f : D → Env' → Option Env') (body : DS) : List D → Env' → Nat → DEnds → Prop
  | [], env, m, E => E.nx env m
  | d :: ds, env, m, E => ∃ env2, f d env = some env2 ∧ body env2 m { E with nx := fun e' m' => ForR f body ds e' m' E, ct := fun e' m' => ForR f body ds e' m' E, bk := E.nx }
def dFor (di : DL) (f : D → Env' → Option Env') (body : DS) : DS := fun env m E => di env m fun its m1 => ForR f body its env m1 E
def dWhile (t : DT) (body : DS) : DS := fun env m E => ∃ W : Nat → Env' → Nat → Prop, (∃ k, W k env m) ∧ ∀ k env m, W k env m → t env m fun b m1 =>
  if b = true then body env m1 { E with nx := fun e' m' => ∃ k', k' < k ∧ W k' e' m', ct := fun e' m' => ∃ k', k' < k ∧ W k' e' m', bk := E.nx } else E.nx env m1
section
variable {g : Gp} {X : Cx} {tg iter : Expr} {di : DL} {T : TG} {f : D → Env' → Option Env'} {js : List Nat} {body : List Stmt} {s : DS} {t : DT} {pos : Pos}
theorem gs_for (hp : PassesOwn (model X.prog X.w) X.A X.env X.xe) (hc : X.calm = true) (hi : GI false g X tg iter di) (hg : GG g X tg T f js) (hb : GSs g X body s) (hs : ∀ x, foldedSetIterable iter X.env x = pure x := by intro _; rfl) :
    GS g X (.For tg iter body [] pos) (dFor di f s) := PS.weak (ps_for hp hc hi hg.pg hb hs) fun D σ H ⟨c, F, env, m, E, r, h, o⟩ =>
  ⟨c, F, env, m, _, r, h, fun J H1 F1 m1 its lk r1 f1 hl hk w q => by
    have hl := hl rfl
    subst hl
    have v1 := r.evo f1
    refine ⟨fun i k σ' H' => ∃ F' env' m', k = its.length - i ∧ i ≤ its.length ∧ Rel X.K g c F' env' m' σ' H' ∧ Evo c (Own env σ) F H (Own env' σ') F' H' ∧ Ex F1 F' ∧ ForR f s (its.drop i) env' m' E, ⟨its.length, F1, env, m1, rfl, Nat.zero_le _, r1, v1, fun _ _ h => h, q⟩, ?_⟩
    rintro i k σ' H' ⟨F', env', m', rfl, hi, r', v', e', q'⟩
    obtain ⟨go, stop⟩ := w i F' H' e' r'.sub (fun _ z => by cases z)
    by_cases hlt : i < its.length
    · have hd : its[i]? = some its[i] := List.getElem?_eq_getElem hlt
      rw [List.drop_eq_getElem_cons hlt] at q'
      obtain ⟨g1, g2⟩ := go _ hd
      obtain ⟨env2, e2, q2⟩ := q'
      refine .inr ⟨g1, fun σ2 H2 => ∃ F2 env2 m2, Rel X.K g c F2 env2 m2 σ2 H2 ∧ Evo c (Own env σ) F H (Own env2 σ2) F2 H2 ∧ Ex F1 F2 ∧ ForR f s (its.drop (i + 1)) env2 m2 E, fun σ2 H2 ⟨F2, env2, m2, a1, a2, a3, a4⟩ => ⟨its.length - (i + 1), by omega, F2, env2, m2, rfl, by omega, a1, a2, a3, a4⟩, fun x H3 y => ?_⟩
      obtain ⟨F3, n3, rp3⟩ := g2 x H3 y
      have r3 := r'.new n3
      have v3 := v'.trans (r'.evo (n3.fresh r'.ck))
      refine hg.ok c F3 env' m' σ' H3 _ x env2 _ r3 rp3 e2 fun σ4 r4 o4 _ _ => ?_
      have v4 := v3.sub o4
      refine ⟨c, F3, env2, m', _, r4, q2, ⟨fun σ5 H5 F5 env5 m5 r5 v5 q5 => ?_, fun σ5 H5 F5 env5 m5 r5 v5 q5 => ?_, fun σ5 H5 F5 env5 m5 r5 v5 q5 => ?_, fun u H5 F5 m5 y k5 v5 rp5 q5 => ?_⟩⟩
      · exact ⟨F5, env5, m5, r5, v4.trans v5, (e'.trans n3.ff).trans v5.ff, q5⟩
      · exact o.nx σ5 H5 F5 env5 m5 r5 (v4.trans v5) q5
      · exact ⟨F5, env5, m5, r5, v4.trans v5, (e'.trans n3.ff).trans v5.ff, q5⟩
      · exact o.rt u H5 F5 m5 y k5 (v4.trans v5) rp5 q5
    · have hi' : i = its.length := by omega
      refine .inl ⟨stop hi', ?_⟩
      rw [List.drop_eq_nil_of_le (by omega)] at q'
      exact o.nx σ' H' F' env' m' r' v' q'⟩
theorem gs_while {cc : Expr} (hp : PassesOwn (model X.prog X.w) X.A X.env X.xe) (hc : GT g X cc t) (hb : GSs g X body s) : GS g X (.While cc body [] pos) (dWhile t s) := PS.weak (ps_while hp hc hb) fun D σ H ⟨c, F, env, m, E, r, ⟨W, ⟨k0, w0⟩, turn⟩, o⟩ => by
  refine ⟨fun k σ' H' => ∃ F' env' m', Rel X.K g c F' env' m' σ' H' ∧ Evo c (Own env σ) F H (Own env' σ') F' H' ∧ W k env' m', ⟨k0, F, env, m, r, r.evo (Fresh.refl r.sub r.ck), w0⟩, ?_⟩
  rintro k σ' H' ⟨F', env', m', r', v', w'⟩
  refine ⟨c, F', env', m', _, r', turn k env' m' w', fun b H1 F1 m1 r1 f1 q => ?_⟩
  have v1 := v'.trans (r'.evo f1)
  cases b with
  | true =>
    refine ⟨fun σ2 H2 => ∃ k' F2 env2 m2, k' < k ∧ Rel X.K g c F2 env2 m2 σ2 H2 ∧ Evo c (Own env σ) F H (Own env2 σ2) F2 H2 ∧ W k' env2 m2, fun σ2 H2 ⟨k', F2, env2, m2, hk, a1, a2, a3⟩ => ⟨k', hk, F2, env2, m2, a1, a2, a3⟩, ?_⟩
    refine ⟨c, F1, env', m1, _, r1, q, ⟨fun σ5 H5 F5 env5 m5 r5 v5 ⟨k', hk, q5⟩ => ⟨k', F5, env5, m5, hk, r5, v1.trans v5, q5⟩, fun σ5 H5 F5 env5 m5 r5 v5 q5 => o.nx σ5 H5 F5 env5 m5 r5 (v1.trans v5) q5, fun σ5 H5 F5 env5 m5 r5 v5 ⟨k', hk, q5⟩ => ⟨k', F5, env5, m5, hk, r5, v1.trans v5, q5⟩, fun u H5 F5 m5 y k5 v5 rp5 q5 => o.rt u H5 F5 m5 y k5 (v1.trans v5) rp5 q5⟩⟩
  | false => exact o.nx σ' H1 F1 env' m1 r1 v1 q
end
theorem new_weak {g : Gp} {X : Cx} {d : DL} : ∀ σ H Q, tD X.K g (dNew d) σ H Q → tN X.K g d σ H Q := fun σ H Q ⟨c, F, env, m, Q1, r, hd, k⟩ => ⟨c, F, env, m, _, r, hd, fun p H' F' m' ds xs r' f h0 hp hc h1 h2 q => by
  have n := fix_fresh (K := X.K) f h0 hp hc h1
  exact k _ H' _ m' (.lst ds) (r.fresh n ⟨fun a e => ⟨n.nc a e, (r'.ck a e).2⟩, r'.ck.tb.fix h1 hp⟩) n (.lst upd_same (RepL.mono (Evl.Ex.new hp) h2)) q⟩
def wipeE (env : Env') : List Nat → Env'
  | [] => env
  | v :: vs => (wipeE env vs).set v .no
theorem Rel.wipe {K : PySem.W.Frag} {g : Gp} {c : Option Addr} {F H : Hp} {env : Env'} {m : Nat} {σ : St} (r : Rel K g c F env m σ H) : ∀ vs : List Nat, Rel K g c F (wipeE env vs) m (wipe σ vs) H
  | [] => r
  | _ :: vs => (Rel.wipe r vs).setNo
theorem wipe_get : ∀ (vs : List Nat) (σ : St) (i : Nat), (wipe σ vs)[i]? = if i ∈ vs then (σ[i]?).map (fun _ => none) else σ[i]?
  | [], σ, i => by simp [wipe]
  | v :: vs, σ, i => by
    unfold wipe
    by_cases h : v = i
    · subst h
      by_cases hl : v < σ.length
      · rw [List.getElem?_set_self (by rw [wipe_length]; exact hl)]
        simp [List.getElem?_eq_getElem hl]
      · rw [List.set_eq_of_length_le (by rw [wipe_length]; omega), wipe_get vs σ v]
        simp [List.getElem?_eq_none (show σ.length ≤ v by omega)]
    · rw [List.getElem?_set_ne h, wipe_get vs σ i]
      have : (i ∈ v :: vs) ↔ i ∈ vs := by simp [Ne.symm h]
      simp only [this]
theorem wipe_same {σ σ2 : St} {vs : List Nat} (l : σ2.length = σ.length) (h : ∀ i, i ∉ vs → σ2[i]? = σ[i]?) : L2.wipe σ2 vs = L2.wipe σ vs := by
  refine List.ext_getElem? fun i => ?_
  rw [wipe_get, wipe_get]
  by_cases hi : i ∈ vs
  · rw [if_pos hi, if_pos hi]
    by_cases hl : i < σ.length
    · rw [List.getElem?_eq_getElem hl, List.getElem?_eq_getElem (by rw [l]; exact hl)]
      rfl
    · rw [List.getElem?_eq_none (show σ.length ≤ i by omega), List.getElem?_eq_none (show σ2.length ≤ i by omega)]
  · rw [if_neg hi, if_neg hi, h i hi]
theorem wipe_wipe (σ : St) (vs : List Nat) : L2.wipe (L2.wipe σ vs) vs = L2.wipe σ vs := wipe_same (wipe_length σ vs) fun i hi => by rw [wipe_get, if_neg hi]
def LcR (f : D → Env' → Option Env') (dt : DT) (de : DE) (env : Env') : List D → Nat → (List D → Nat → Prop) → Prop
  | [], m, Q => Q [] m
  | d :: ds, m, Q => ∃ env2, f d env = some env2 ∧ dt env2 m fun b m1 => if b = true then de env2 m1 fun y m2 => LcR f dt de env ds m2 fun ys m3 => Q (y :: ys) m3 else LcR f dt de env ds m1 Q
def dLc (di : DL) (f : D → Env' → Option Env') (dt : DT) (de : DE) (vs : List Nat) : DL := fun env m Q => di env m fun its m1 => its.length ≤ LL ∧ LcR f dt de (wipeE env vs) its m1 Q
def dYes : DT := fun _ m Q => Q true m
def GTs (g : Gp) (X : Cx) (ifs : List Expr) (d : DT) : Prop := PTs X ifs (tT X.K g d)
theorem PTs.weak {X : Cx} {e : List Expr} {t t' : TT} (h : PTs X e t) (w : ∀ σ H Q, t' σ H Q → t σ H Q) : PTs X e t' := ⟨fun pins s σ H Q I q => h.run pins s σ H Q I (w σ H Q q)⟩
theorem gts_nil {g : Gp} {X : Cx} : GTs g X [] dYes := PTs.weak pts_nil fun σ H Q ⟨c, F, env, m, Q1, r, h, k⟩ => k true H F m r (Fresh.refl r.sub r.ck) h
theorem gts_one {g : Gp} {X : Cx} {e : Expr} {d : DT} (h : GT g X e d) : GTs g X [e] d := pts_one h
section
variable {g : Gp} {X : Cx} {elt tg iter : Expr} {ifs : List Expr} {scope : Scope} {own : List (Str × Nat)} {pos : Pos} {di : DL} {T : TG} {f : D → Env' → Option Env'} {js : List Nat} {dt : DT} {de : DE}
theorem lc_weak (vs : List Nat) (hj : ∀ j ∈ js, j ∈ vs) (hg : ∀ (c : Option Addr) (F : Hp) (env : Env') (m : Nat) (σ : St) (H : Hp) (d : D) (v : V) (env2 : Env') (Q : St → Hp → Prop), Rel X.K g c F env m σ H → Rep X.K g F d v → f d env = some env2 →
    (∀ σ2, Rel X.K g c F env2 m σ2 H → (∀ a, Own env2 σ2 a → Own env σ a) → σ2.length = σ.length → (∀ i, i ∉ js → σ2[i]? = σ[i]?) → Q σ2 H) → T v σ H Q) :
    ∀ σ H Q, tN X.K g (dLc di f dt de vs) σ H Q → tLc (tI X.K g true di) T (tT X.K g dt) (tD X.K g de) vs σ H Q := fun σ H Q ⟨c, F, env, m, Q1, r, h, k⟩ =>
  ⟨c, F, env, m, _, r, h, fun J H1 F1 m1 its lk r1 f1 _ hk w ⟨hz, q⟩ => fun Dl hD => by
    have nD : F1 Dl = none := ex_none r1.sub hD
    have cD : c ≠ some Dl := fun z => by obtain ⟨_, xs, e, _⟩ := r1.ck Dl z; rw [hD] at e; cases e
    have hD0 : H Dl = none := by
      cases z : H Dl with
      | none => rfl
      | some o => exact (f1.sm z cD hD).elim
    refine ⟨fun i kk H' => ∃ F' m' acc accD, kk = its.length - i ∧ i ≤ its.length ∧ Fresh c F1 H1 F' H' ∧ Ck g c m' F' H' ∧ F' Dl = none ∧ H' Dl = some (.lst acc) ∧ RepL X.K g F' accD acc ∧ accD.length ≤ i ∧ LcR f dt de (wipeE env vs) (its.drop i) m' (fun ys m3 => Q1 (accD ++ ys) m3), ⟨its.length, F1, m1, [], [], rfl, Nat.zero_le _, ?_, ?_, nD, upd_same, .nil, Nat.le_refl _, q⟩, ?_⟩
    · have n := New.lay (F := F1) (o := .lst []) r1.sub hD
      exact n.fresh r1.ck
    · exact r1.ck.new (New.lay r1.sub hD)
    · rintro i kk H' ⟨F', m', acc, accD, rfl, hi, fr, ck, nF, hA, rA, lA, q'⟩
      have r' := r1.fresh fr ck
      have lk' : ∀ p ∈ lk, H' p.1 = some p.2 := fun p hp => fr.hh p.1 p.2 (hk p hp).1 (hk p hp).2.1 (hk p hp).2.2
      obtain ⟨go, stop⟩ := w i F' H' fr.ff r'.sub lk'
      by_cases hlt : i < its.length
      · have hd : its[i]? = some its[i] := List.getElem?_eq_getElem hlt
        rw [List.drop_eq_getElem_cons hlt] at q'
        obtain ⟨g1, g2⟩ := go _ hd
        obtain ⟨env2, e2, q2⟩ := q'
        refine .inr ⟨g1, fun H2 => ∃ F2 m2 acc2 accD2, Fresh c F1 H1 F2 H2 ∧ Ck g c m2 F2 H2 ∧ F2 Dl = none ∧ H2 Dl = some (.lst acc2) ∧ RepL X.K g F2 accD2 acc2 ∧ accD2.length ≤ i + 1 ∧ LcR f dt de (wipeE env vs) (its.drop (i + 1)) m2 (fun ys m3 => Q1 (accD2 ++ ys) m3), fun H2 ⟨F2, m2, acc2, accD2, a1, a2, a3, a4, a5, a6, a7⟩ => ⟨its.length - (i + 1), by omega, F2, m2, acc2, accD2, rfl, by omega, a1, a2, a3, a4, a5, a6, a7⟩, fun x H3 y => ?_⟩
        obtain ⟨F3, n3, rp3⟩ := g2 x H3 y
        have r3 := (r'.wipe vs).new n3
        have fr3 := fr.trans (n3.fresh ck)
        have ck3 := ck.new n3
        refine hg c F3 _ m' _ H3 _ x env2 _ r3 rp3 e2 fun σ4 r4 o4 l4 a4 => ⟨?_, ?_⟩
        · refine Eq.trans (wipe_same l4 fun j hj' => a4 j fun z => hj' (hj j z)) (wipe_wipe σ vs)
        · have keep : ∀ {F5 H5 : Hp}, Fresh c F3 H3 F5 H5 → F5 Dl = none ∧ H5 Dl = some (.lst acc) := fun {F5 H5} f5 => by
            have h3 : H3 Dl = some (.lst acc) := n3.hh _ _ hA
            refine ⟨?_, f5.hh _ _ h3 cD⟩
            cases z : F5 Dl with
            | none => rfl
            | some o =>
              rcases f5.new Dl o z with y | y
              · rcases n3.new Dl o y with u | u
                · rw [nF] at u; cases u
                · rw [hA] at u; cases u
              · rw [h3] at y; cases y
          refine ⟨c, F3, env2, m', _, r4, q2, fun b H5 F5 m5 r5 f5 q5 => ?_⟩
          cases b with
          | false =>
            obtain ⟨k1, k2⟩ := keep f5
            exact ⟨F5, m5, acc, accD, fr3.trans f5, r5.ck, k1, k2, (rA.mono n3.ff).mono f5.ff, by omega, q5⟩
          | true =>
            refine ⟨c, F5, env2, m5, _, r5, q5, fun v6 H6 F6 m6 y6 r6 f6 rp6 q6 => ?_⟩
            obtain ⟨k1, k2⟩ := keep (f5.trans f6)
            have lacc : acc.length = accD.length := rA.length
            have fr6 := (fr3.trans f5).trans f6
            refine ⟨acc, k2, ll' (by have : accD.length ≤ its.length := by omega
                                     omega), F6, m6, acc ++ [v6], accD ++ [y6], ⟨fr6.ff, fun a o z => ?_, fun a o z n => ?_, fr6.new, fr6.nc⟩, ⟨fun a z => ?_, TabF.upd r6.ck.tb k2 rfl no_code⟩, k1, upd_same, (((rA.mono n3.ff).mono f5.ff).mono f6.ff).append (.cons rp6 .nil), ?_, ?_⟩
            · have : a ≠ Dl := fun e => by subst e; rw [k1] at z; cases z
              rw [upd_ne this]; exact fr6.fh a o z
            · have : a ≠ Dl := fun e => by subst e; rw [hD] at z; cases z
              rw [upd_ne this]; exact fr6.hk a o z n
            · have : a ≠ Dl := fun e => by subst e; exact cD z
              obtain ⟨b1, xs, b2, b3⟩ := r6.ck a z
              exact ⟨b1, xs, by rw [upd_ne this]; exact b2, b3⟩
            · rw [List.length_append, List.length_singleton]; omega
            · have : (fun ys m3 => Q1 (accD ++ [y6] ++ ys) m3) = fun ys m3 => Q1 (accD ++ y6 :: ys) m3 := by funext ys m3; rw [List.append_assoc]; rfl
              rw [this]; exact q6
      · have hi' : i = its.length := by omega
        refine .inl ⟨stop hi', ?_⟩
        rw [List.drop_eq_nil_of_le (by omega)] at q'
        have q'' : Q1 (accD ++ []) m' := q'
        rw [List.append_nil] at q''
        exact k Dl H' F' m' accD acc r' (f1.trans fr) hD0 nF cD hA rA q''⟩
theorem gn_lc (hc : X.calm = true) (hN : X.N.Nodup) (hi : GI true g X tg iter di) (ok : BlkOk X.N X.env.scope scope own)
    (hg : ∀ (s : Shared) (H : Hp) (C : Addr) (cl : List (Str × Addr)) (fp : List Addr), GG g (X.blk s H scope (compEnvC scope cl C X.env) fp) tg T f js) (ht : ∀ (s : Shared) (H : Hp) (C : Addr) (cl : List (Str × Addr)) (fp : List Addr), GTs g (X.blk s H scope (compEnvC scope cl C X.env) fp) ifs dt)
    (he : ∀ (s : Shared) (H : Hp) (C : Addr) (cl : List (Str × Addr)) (fp : List Addr), GE g (X.blk s H scope (compEnvC scope cl C X.env) fp) elt de) (hj : ∀ j ∈ js, j ∈ own.map (·.2) := by decide) (hs : ∀ x, foldedSetIterable iter X.env x = pure x := by intro _; rfl) :
    GN g X (.ListComp elt [⟨tg, iter, ifs, 0⟩] scope pos) (dLc di f dt de (own.map (·.2))) :=
  ⟨fun pins s σ H Q I q => (pe_lc (wi := tI X.K g true di) (g := T) (tt := tT X.K g dt) (te := tD X.K g de) hc hN hi ok (fun s H C cl fp => (hg s H C cl fp).pg) (fun s H C cl fp => ht s H C cl fp) (fun s H C cl fp => he s H C cl fp) hs).run pins s σ H Q I (lc_weak (T := T) _ hj (hg s H 0 [] []).ok σ H Q q)⟩
theorem gs_setLc {i : Nat} {y : Str} {py spos : Pos} (hc : X.calm = true) (hN : X.N.Nodup) (hy : X.N[i]? = some y) (hyl : X.env.scope.names.lookup y = some .local)
    (hsw : swapsWith (.ListComp elt [⟨tg, iter, ifs, 0⟩] scope pos) (some (.Name y py)) spos.line X.env = pure true) (hi : GI true g X tg iter di) (ok : BlkOk X.N X.env.scope scope own)
    (hg : ∀ (s : Shared) (H : Hp) (C : Addr) (cl : List (Str × Addr)) (fp : List Addr), GG g (X.blk s H scope (compEnvC scope cl C X.env) fp) tg T f js) (ht : ∀ (s : Shared) (H : Hp) (C : Addr) (cl : List (Str × Addr)) (fp : List Addr), GTs g (X.blk s H scope (compEnvC scope cl C X.env) fp) ifs dt)
    (he : ∀ (s : Shared) (H : Hp) (C : Addr) (cl : List (Str × Addr)) (fp : List Addr), GE g (X.blk s H scope (compEnvC scope cl C X.env) fp) elt de) (hj : ∀ j ∈ js, j ∈ own.map (·.2) := by decide) (hs : ∀ x, foldedSetIterable iter X.env x = pure x := by intro _; rfl) :
    GS g X (.Assign [.Name y py] (.ListComp elt [⟨tg, iter, ifs, 0⟩] scope pos) spos) (dAsg i (dNew (dLc di f dt de (own.map (·.2))))) :=
  ⟨fun pins s σ H D I q => (ps_setLc (wi := tI X.K g true di) (g := T) (tt := tT X.K g dt) (te := tD X.K g de) hc hN hy hyl hsw hi ok (fun s H C cl fp => (hg s H C cl fp).pg) (fun s H C cl fp => ht s H C cl fp) (fun s H C cl fp => he s H C cl fp) hs).run pins s σ H D I (asg_weak (fun σ H Q z => lc_weak (T := T) _ hj (hg s H 0 [] []).ok σ H Q (new_weak σ H Q z)) D σ H q)⟩
end
end G
namespace G
open PySem L2
open PySem.W (dataLe AllAlike Sortable EachIs sorted_data dataLt alike alikeAll)
section
variable {X : Cx}
theorem objok_get {P : Program} {w : World} {H : Hp} {h : Heap} {a : Addr} {o : HO} (x : ObjOk P w H h a o) : ∃ ob, h.get? a = some ob := by
  induction o with
  | lst xs => obtain ⟨_, _, _, _, e⟩ := x; exact ⟨_, e⟩
  | tup xs => obtain ⟨_, _, _, o, e, _⟩ := x; exact ⟨o, e⟩
  | dK kvs => obtain ⟨_, _, _, _, o, _, _, e, _⟩ := x; exact ⟨o, e⟩
  | dT kvs => obtain ⟨_, _, _, _, o, _, _, e, _⟩ := x; exact ⟨o, e⟩
  | set S n => obtain ⟨o, _, _, _, e, _⟩ := x; exact ⟨o, e⟩
  | ins C dx fs => obtain ⟨_, _, _, e, _⟩ := x; exact ⟨_, e⟩
  | own y => exact x
  | xd fs => obtain ⟨_, ⟨o, _, _, e, _⟩, _⟩ := x; exact ⟨o, e⟩
  | rng lo hi => obtain ⟨_, _, _, e⟩ := x; exact ⟨_, e⟩
  | frz ob u ih => exact ⟨ob, x.1⟩
  | tbl ps => exact ⟨_, x⟩
  | met f y => exact ⟨_, x⟩
  | ext φ => exact x.2.1
theorem laidN {pins : List (Addr × Obj)} {σ : St} {H : Hp} {s : Shared} {a : Addr} {o : HO} {h' : Heap} {g' : Array GenState} {t' : Nat} {d' : Drawn} (I : Inv X pins σ H s) (k : ∀ b u, s.heap.get? b = some u → h'.get? b = some u) (hp : ∀ u, s.heap.get? a ≠ some u) (hg : PyProof.Rows.AllBare g')
    (new : ObjOk X.prog X.w (upd H a o) h' a o) : H a = none ∧ Inv X pins σ (upd H a o) { s with heap := h', gens := g', drawn := d', toks := t' } := by
  have hn : H a = none := by
    cases q : H a with
    | none => rfl
    | some u => obtain ⟨ob, e⟩ := objok_get (I.hok a u q); exact absurd e (hp ob)
  have ne : ∀ b u, s.heap.get? b = some u → b ≠ a := fun b u e z => hp u (z ▸ e)
  refine ⟨hn, I.call (ch := []) ⟨fun b u q _ _ _ => k b u q, fun b u q _ _ _ => ⟨u.slots, k b u q⟩, fun b u q n _ => by rw [upd_ne (ne b u q)]; exact n, fun b u q _ => ⟨u, k b u q⟩, fun b xs q => by rw [upd_ne (ne_of_none q hn)]; exact q, fun b u xs q => by rw [upd_ne (ne_of_none q hn)]; exact q, fun b ps q => ⟨#[], by rw [upd_ne (ne_of_none q hn), q]; simp⟩⟩ (fun b u e => ?_) hg (fun _ z => nomatch z)⟩
  by_cases hb : b = a
  · subst hb; rw [upd_same] at e; cases e; exact new
  · rw [upd_ne hb] at e
    exact (I.hok b u e).stay (fun c v _ q => k c v q) (fun c q => by rw [upd_ne (ne_of_none q hn)]; exact q) fun c xs q => by rw [upd_ne (ne_of_none q hn)]; exact q
theorem vals_chars {x : Str} {acc : Array Value} (h : ItemsOf (SignAt x) acc x.cps.size) : Vals (chars x) acc.toList := by
  obtain ⟨hl, h⟩ := h
  have go : ∀ (cs : List Nat) (us : List Value) (k : Nat), cs.length = us.length → (∀ (j : Nat) (v : Value), us[j]? = some v → ∃ (u : Tok) (c : Nat), cs[j]? = some c ∧ v = Value.str ⟨#[c]⟩ u) → Vals (cs.map fun c => V.str ⟨#[c]⟩) us := by
    intro cs
    induction cs with
    | nil => intro us k hl _; cases us with
      | nil => exact .nil
      | cons _ _ => simp at hl
    | cons c r ih =>
      intro us k hl h
      cases us with
      | nil => simp at hl
      | cons u us =>
        obtain ⟨t, c', e1, e2⟩ := h 0 u rfl
        simp at e1
        subst e1
        exact .cons ⟨t, e2⟩ (ih us k (by simpa using hl) fun j v hj => by
          obtain ⟨t, c', e1, e2⟩ := h (j + 1) v (by simpa using hj)
          exact ⟨t, c', by simpa using e1, e2⟩)
  refine go x.cps.toList acc.toList 0 (by simp [hl]) fun j v hj => ?_
  obtain ⟨c, u, h1, h2⟩ := h j v (by simpa using hj)
  exact ⟨u, c, by simpa using h1, h2⟩
theorem cr_listStr (hc : X.calm = true) : CallR X (.type "list") (fun xs H Q => ∃ z : Str, xs = [.str z] ∧ z.length ≤ LL ∧ ∀ p, H p = none → Q (.ref p) (upd H p (.lst (chars z)))) := by
  intro pins s σ H xs us Q I r h
  obtain ⟨z, rfl, hz, q⟩ := h
  obtain ⟨u, rfl, t, rfl⟩ := r.one
  refine call_list_str (I.ok.hd hc) z t (fun h' tk acc c' hk hS hacc => ?_) (ll hz)
  have hn := I.hok.fresh (Nat.le_refl s.heap.objs.size)
  exact ⟨.ref _, upd H s.heap.objs.size (.lst (chars z)), I.laid (t' := tk) hk (Nat.le_refl _) ⟨ll (by rw [chars_len]; exact hz), acc.toList, c', vals_chars hacc, by simpa using hS⟩, rfl, q _ hn⟩
def sortV (ps : List (V × PyData)) : List (V × PyData) := ps.mergeSort (dataLe false fun p => p.2)
def rSortG (K : PySem.W.Frag) : List V → Hp → VK → Prop := fun vs H Q => ∃ (a : Addr) (ps : List (V × PyData)), vs = [.ref a] ∧ SqL K H a (ps.map (·.1)) ∧ (∀ p ∈ ps, Dp K H p.1 p.2 ∧ p.2.depth ≤ 60) ∧ AllAlike (ps.map (·.2)) ∧ Sortable (ps.map (·.2)) ∧ ps.length ≤ LL ∧
  ∀ p, H p = none → Q (.ref p) (upd H p (.lst ((sortV ps).map (·.1))))
theorem each_of_vals {β : Type} {f : β → V} {Rr : Value → β → Prop} : ∀ {bs : List β} {us : List Value}, Vals (bs.map f) us → (∀ b ∈ bs, ∀ u, RelV (f b) u → Rr u b) → EachIs Rr us bs
  | [], us, h, _ => by cases us with
    | nil => exact .nil
    | cons _ _ => cases h
  | b :: bs, us, h, k => by
    cases us with
    | nil => cases h
    | cons u us => cases h with
      | cons h t => exact .cons (k b (by simp) _ h) (each_of_vals t fun b' hb => k b' (by simp [hb]))
theorem vals_of_each {β : Type} {f : β → V} : ∀ {us : List Value} {bs : List β}, EachIs (fun u b => RelV (f b) u) us bs → Vals (bs.map f) us
  | _, _, .nil => .nil
  | _, _, .cons h t => .cons h (vals_of_each t)
theorem cr_sortG (hu : X.A.units + 64 < cLine) : CallR X (.builtin "sorted") (rSortG X.K) := by
  intro pins s σ H vs us Q I r h
  obtain ⟨a, ps, rfl, hs, hd, ha, hk, hl, q⟩ := h
  obtain ⟨its, rv, pl, _⟩ := I.list hs
  rw [Vals.ref1 r]
  have e1 : EachIs (fun u (b : V × PyData) => RelV b.1 u) its ps := each_of_vals (f := fun p : V × PyData => p.1) rv fun b _ u h => h
  have e2 : EachIs (fun u (b : V × PyData) => ∃ as, Reads s.heap u b.2 as) its ps := each_of_vals (f := fun p : V × PyData => p.1) rv fun b hb u h => Dp.reads I b.2 b.1 u (hd b hb).1 h
  refine sorted_data (enc := fun p : V × PyData => p.2) pl.isList e1 e2 ha hk (ll hl) (fun b hb => by have := (hd b hb).2; omega) fun out hlen eo => ?_
  obtain ⟨ep, he'⟩ := PyProof.Rows.sortedAll_at s.heap its out.toArray
  have hn := I.hok.fresh (Nat.le_succ s.heap.objs.size)
  have hL : ((sortV ps).map (·.1)).length ≤ sizeLine := by
    unfold sortV
    rw [List.length_map, List.length_mergeSort]
    exact ll hl
  exact ⟨.ref _, upd H (s.heap.objs.size + 1) (.lst ((sortV ps).map (·.1))), I.laid (t' := s.toks) (fun _ _ => PyProof.Rows.sortedAll_old) (Nat.le_succ _) ⟨hL, out, ep, vals_of_each (f := fun p : V × PyData => p.1) eo, he'⟩, rfl, q _ hn⟩
theorem cr_sortStr (hc : X.calm = true) (hu : X.A.units + 64 < cLine) : CallR X (.builtin "sorted") (fun xs H Q => ∃ z : Str, xs = [.str z] ∧ z.length ≤ LL ∧
    ∀ p, H p = none → Q (.ref p) (upd H p (.lst ((sortV ((z.cps.toList.map fun c => ((.str ⟨#[c]⟩ : V), PyData.str ⟨#[c]⟩)))).map (·.1))))) := by
  intro pins s σ H vs us Q I r h
  obtain ⟨z, rfl, hz, q⟩ := h
  obtain ⟨u, rfl, t, rfl⟩ := r.one
  refine PySem.Calls.call_function_entry PyProof.Rows.kind_sorted PyProof.Rows.plain_sorted PyProof.Rows.entry_sorted (PyProof.Rows.args_sorted1 _) ?_
  unfold Builtin.«sorted»
  refine wpAny_bind (m := checkCount "sorted" 1 1 _) (wpAny_pure ?_)
  refine wpAny_bind (wpAny_collect_str (A := X.A.in1) (I.ok.hd hc) z t (fun s' acc hk hg hd ho hacc => ?_) (ll hz))
  obtain ⟨sz, _⟩ := id hacc
  have hlen : acc.toList.length ≤ sizeLine := by rw [Array.length_toList, sz]; exact ll hz
  refine wpAny_bind (wpAny_newList ?_ hlen)
  have vv := vals_chars hacc
  let ps := z.cps.toList.map fun c => ((V.str ⟨#[c]⟩ : V), PyData.str ⟨#[c]⟩)
  have vp : Vals (ps.map (·.1)) acc.toList := by
    have e : ps.map (·.1) = chars z := by simp only [ps, List.map_map]; rfl
    rw [e]; exact vv
  have lp : acc.toList.length = ps.length := by rw [← vp.length, List.length_map]
  have pd : ∀ b ∈ ps, ∃ x : Str, b = (V.str x, PyData.str x) := fun b hb => by obtain ⟨c, _, rfl⟩ := List.mem_map.mp hb; exact ⟨_, rfl⟩
  have e1 : EachIs (fun u (b : V × PyData) => RelV b.1 u) acc.toList ps := each_of_vals (f := fun p : V × PyData => p.1) vp fun b _ u h => h
  have er : ∀ h : Heap, EachIs (fun u (b : V × PyData) => ∃ as, Reads h u b.2 as) acc.toList ps := fun h => each_of_vals (f := fun p : V × PyData => p.1) vp fun b hb u r => by
    obtain ⟨x, rfl⟩ := pd b hb
    obtain ⟨t', rfl⟩ := r
    exact ⟨[], .str x t'⟩
  have ha : AllAlike (ps.map (·.2)) := fun d hd d' hd' => by
    obtain ⟨b, hb, rfl⟩ := List.mem_map.mp hd
    obtain ⟨b', hb', rfl⟩ := List.mem_map.mp hd'
    obtain ⟨x, rfl⟩ := pd b hb
    obtain ⟨y, rfl⟩ := pd b' hb'
    rfl
  have hk2 : Sortable (ps.map (·.2)) := .inr fun d hd => by
    obtain ⟨b, hb, rfl⟩ := List.mem_map.mp hd
    obtain ⟨x, rfl⟩ := pd b hb
    constructor
    · intro z; cases z
    · intro _ z; cases z
  have hdp : ∀ d ∈ ps.map (·.2), X.A.in1.in1.units + d.depth < cLine := fun d hd => by
    obtain ⟨b, hb, rfl⟩ := List.mem_map.mp hd
    obtain ⟨x, rfl⟩ := pd b hb
    show X.A.units + 1 + 1 + (PyData.str x).depth < cLine
    simp only [PyData.depth]
    omega
  have oa : ({ s' with heap := s'.heap.push { cls := .type "list", data := .seq acc.toList.toArray } } : Shared).heap.get? s'.heap.objs.size = some (PyProof.Rows.seqObj "list" acc.toList.toArray 0) := Heap.get?_push_size _ rfl
  refine wpAny_bind (wpAny_holding (wpAny_call_entry PyProof.Rows.slot_list_sort ⟨_, oa, rfl⟩ PyProof.Rows.entry_list_sort ?body (PyProof.Rows.args_list_sort _)))
  case body =>
    refine PySem.W.list_sort_vals oa (PySem.W.SortsAt.data (PySem.W.each_map (R := fun v d => ∃ as, Reads _ v d as) (fun p : V × PyData => p.2) (er _)) ha hk2 hdp) hlen ?_
    refine ⟨_, rfl, wpAny_pure ⟨_, rfl, ?_⟩⟩
    have eo := PySem.W.sortVals_data (h' := PySem.W.sortingHeap ({ s' with heap := s'.heap.push { cls := .type "list", data := .seq acc.toList.toArray } } : Shared).heap s'.heap.objs.size acc.toList) (enc := fun p : V × PyData => p.2) false e1 (er _) ha
    obtain ⟨ep, he⟩ := PyProof.Rows.sortedHeap_at (out := (PySem.W.sortVals (PySem.W.dataKind (PySem.W.sortingHeap ({ s' with heap := s'.heap.push { cls := .type "list", data := .seq acc.toList.toArray } } : Shared).heap s'.heap.objs.size acc.toList) (ps.map (·.2))) false acc.toList acc.toList).toArray) oa
    have old : ∀ b o, s.heap.get? b = some o → (PyProof.Rows.sortedHeap ({ s' with heap := s'.heap.push { cls := .type "list", data := .seq acc.toList.toArray } } : Shared).heap s'.heap.objs.size acc.toList (PySem.W.sortVals (PySem.W.dataKind (PySem.W.sortingHeap ({ s' with heap := s'.heap.push { cls := .type "list", data := .seq acc.toList.toArray } } : Shared).heap s'.heap.objs.size acc.toList) (ps.map (·.2))) false acc.toList acc.toList).toArray).get? b = some o := fun b o e => by
      have e' := hk b o e
      have hlt := Heap.lt_size e'
      rw [PyProof.Rows.sortedHeap_old (Nat.ne_of_lt hlt) (by show b < (s'.heap.push _).objs.size; rw [Heap.size_push]; exact Nat.lt_succ_of_lt hlt)]
      exact Heap.get?_push_of_some _ e'
    have hp : ∀ u, s.heap.get? s'.heap.objs.size ≠ some u := fun u e => absurd (Heap.lt_size (hk _ u e)) (Nat.lt_irrefl _)
    have hL : ((sortV ps).map (·.1)).length ≤ sizeLine := by
      unfold sortV
      rw [List.length_map, List.length_mergeSort, ← lp]
      exact hlen
    obtain ⟨hn, J⟩ := laidN (o := .lst ((sortV ps).map (·.1))) (t' := s'.toks) (g' := s'.gens) (d' := s'.drawn) I old hp (by rw [hg]; exact I.bare) ⟨hL, _, ep, vals_of_each (f := fun p : V × PyData => p.1) eo, he⟩
    have fin := q _ hn
    obtain ⟨h0, g0, d0, t0, o0⟩ := s'
    have ho' : o0 = s.os := ho
    subst ho'
    exact ⟨.ref _, _, J, rfl, fin⟩
end
end G
namespace G
open PySem L2
section
variable {X : Cx}
theorem two_strs {op : CmpOp} {prog : Program} {w : World} {A : Around} {E : Value → Shared → Prop} {s : Shared} {a b : Str} {t u : Tok} {fn : String} {Q : Value → Shared → Prop} (hh : A.handled = none) (bt : Nat → Nat → Bool)
    (two : (wpAny (model prog w) A.in1 (pyIter (.ref s.heap.objs.size)) (fun it s₂ => ∃ I fp wr n P St bt, it = .ref I ∧ Walks prog w A.in1 I fp wr n P St ∧ St 0 s₂.heap ∧ (∀ b ∈ fp, b < s₂.heap.objs.size) ∧ 0 < n ∧ CmpOf prog w A.in1 op P bt ∧
      ∀ v h' tk, P (argBest bt (n - 1)) v → (∀ b o, b ∉ wr → s₂.heap.get? b = some o → h'.get? b = some o) → Q v { s₂ with heap := h', toks := tk }) E
      { s with heap := s.heap.push { cls := .type "tuple", data := .seq #[.str a t, .str b u] } }) → wpAny (model prog w) A (call (.builtin fn) [.str a t, .str b u]) Q E s)
    (cmp : CmpOf prog w A.in1 op (fun i v => (#[Value.str a t, Value.str b u] : Array Value)[i]? = some v) bt)
    (h : ∀ h' tk, (∀ c o, s.heap.get? c = some o → h'.get? c = some o) → Q (if bt 1 0 = true then .str b u else .str a t) { s with heap := h', toks := tk }) :
    wpAny (model prog w) A (call (.builtin fn) [.str a t, .str b u]) Q E s := by
  have hT : (s.heap.push { cls := .type "tuple", data := .seq #[.str a t, .str b u] }).IsTuple s.heap.objs.size #[.str a t, .str b u] := ⟨_, Heap.get?_push_size _ rfl, rfl, 0, rfl⟩
  refine two (wpAny_pyIter_tuple hT ?_)
  have hsz : (s.heap.push { cls := .type "tuple", data := .seq #[.str a t, .str b u] }).objs.size = s.heap.objs.size + 1 := Heap.size_push ..
  refine ⟨_, [_, s.heap.objs.size], [_], _, _, _, bt, rfl, Walks.tuple (A := A.in1) hh _ s.heap.objs.size (by rw [hsz]; exact Nat.ne_of_lt (Nat.lt_succ_self _)) #[.str a t, .str b u], ⟨⟨_, Heap.get?_push_size _ rfl, rfl, rfl⟩, hT.push _⟩, fun c hc => ?_, by simp, cmp, fun v h' tk hP hk => ?_⟩
  · show c < ((s.heap.push _).push _).objs.size
    rw [Heap.size_push, hsz]
    simp only [List.mem_cons, List.not_mem_nil, or_false] at hc
    rcases hc with rfl | rfl
    · rw [hsz]; exact Nat.lt_succ_self _
    · exact Nat.lt_succ_of_lt (Nat.lt_succ_self _)
  · have hold : ∀ c o, s.heap.get? c = some o → h'.get? c = some o := fun c o e => by
      refine hk c o (fun hm => ?_) (Heap.get?_push_of_some _ (Heap.get?_push_of_some _ e))
      have e1 := List.mem_singleton.mp hm
      have := Heap.lt_size e
      rw [e1, hsz] at this
      exact Nat.lt_irrefl _ (Nat.lt_of_succ_lt this)
    have hP' : (#[Value.str a t, Value.str b u] : Array Value)[argBest bt 1]? = some v := hP
    have hv : v = if bt 1 0 = true then .str b u else .str a t := by
      have eb : argBest bt 1 = if bt 1 0 then 1 else 0 := rfl
      rw [eb] at hP'
      cases q : bt 1 0 with
      | true => rw [q] at hP'; simp at hP'; simp [hP']
      | false => rw [q] at hP'; simp at hP'; simp [hP']
    rw [hv]
    exact h h' tk hold
def strAt (a b : Str) (i : Nat) : Str := if i = 0 then a else b
theorem strAt_is {a b : Str} {t u : Tok} {i : Nat} {v : Value} (h : (#[Value.str a t, Value.str b u] : Array Value)[i]? = some v) : ∃ k, v = .str (strAt a b i) k := by
  match i, h with
  | 0, h => simp at h; exact ⟨t, by simp [strAt, h]⟩
  | 1, h => simp at h; exact ⟨u, by simp [strAt, h]⟩
  | i + 2, h => simp at h
theorem cmp_strs_lt {prog : Program} {w : World} {A : Around} {a b : Str} {t u : Tok} : CmpOf prog w A .Lt (fun i v => (#[Value.str a t, Value.str b u] : Array Value)[i]? = some v) (fun i j => sLt (strAt a b i) (strAt a b j)) := fun i j vi vj s Q E hi hj h => by
  obtain ⟨k, rfl⟩ := strAt_is hi
  obtain ⟨l, rfl⟩ := strAt_is hj
  exact PyProof.Rows.lt_str h
theorem cmp_strs_gt {prog : Program} {w : World} {A : Around} {a b : Str} {t u : Tok} : CmpOf prog w A .Gt (fun i v => (#[Value.str a t, Value.str b u] : Array Value)[i]? = some v) (fun i j => sLt (strAt a b j) (strAt a b i)) := fun i j vi vj s Q E hi hj h => by
  obtain ⟨k, rfl⟩ := strAt_is hi
  obtain ⟨l, rfl⟩ := strAt_is hj
  exact PySem.P.gt_str h
theorem cr_min2S (hc : X.calm = true) : CallR X (.builtin "min") (fun xs H Q => ∃ a b, xs = [.str a, .str b] ∧ Q (.str (if sLt b a then b else a)) H) := by
  intro pins s σ H xs us Q I r h
  obtain ⟨a, b, rfl, q⟩ := h
  obtain ⟨u, w', rfl, ⟨t, rfl⟩, ⟨t', rfl⟩⟩ := vals2 r
  refine two_strs (I.ok.hd hc) _ call_min_two cmp_strs_lt fun h' tk k => ⟨_, H, I.kept k, ?_, q⟩
  show RelV _ (if sLt b a = true then Value.str b t' else Value.str a t)
  by_cases hj : sLt b a = true
  · rw [if_pos hj, if_pos hj]; exact ⟨_, rfl⟩
  · rw [if_neg hj, if_neg hj]; exact ⟨_, rfl⟩
theorem cr_max2S (hc : X.calm = true) : CallR X (.builtin "max") (fun xs H Q => ∃ a b, xs = [.str a, .str b] ∧ Q (.str (if sLt a b then b else a)) H) := by
  intro pins s σ H xs us Q I r h
  obtain ⟨a, b, rfl, q⟩ := h
  obtain ⟨u, w', rfl, ⟨t, rfl⟩, ⟨t', rfl⟩⟩ := vals2 r
  refine two_strs (I.ok.hd hc) _ call_max_two cmp_strs_gt fun h' tk k => ⟨_, H, I.kept k, ?_, q⟩
  show RelV _ (if sLt a b = true then Value.str b t' else Value.str a t)
  by_cases hj : sLt a b = true
  · rw [if_pos hj, if_pos hj]; exact ⟨_, rfl⟩
  · rw [if_neg hj, if_neg hj]; exact ⟨_, rfl⟩
def tRevS (te : TE) : TE := fun σ H Q => te σ H fun x H1 => ∃ z : Str, x = .str z ∧ z.length ≤ LL ∧ Q (.str ⟨z.cps.toList.reverse.toArray⟩) H1
theorem rev_pick (z : Str) : ((Builtin.Str.strSliceIndices none none (-1) z.length).filterMap (z.cps[·]?)) = z.cps.toList.reverse := by
  rw [PyProof.Rows.picked_rev, PyProof.Rows.filterMap_get]
  · refine List.ext_getElem? fun i => ?_
    rw [List.map_map, List.getElem?_map]
    show Option.map _ ((List.range z.cps.size)[i]?) = _
    by_cases hi : i < z.cps.size
    · rw [List.getElem?_eq_getElem (by simpa using hi), List.getElem?_reverse (by simpa using hi)]
      simp only [List.getElem_range, Option.map_some, Function.comp]
      rw [Array.length_toList, Array.getElem?_toList, Array.getD_eq_getD_getElem?]
      show some ((z.cps[z.cps.size - 1 - i]?).getD 0) = _
      rw [Array.getElem?_eq_getElem (by omega)]
      rfl
    · rw [List.getElem?_eq_none (by simpa using hi), List.getElem?_eq_none (by simpa using hi)]
      rfl
  · intro i hi
    obtain ⟨k, hk, rfl⟩ := List.mem_map.mp hi
    have hk' : k < z.cps.size := List.mem_range.mp hk
    show z.cps.size - 1 - k < z.cps.size
    omega
theorem pe_revS {e : Expr} {te : TE} {k : Nat} {p1 p2 p3 pos : Pos} (he : PE X e te) : PE X (.Subscript e (.Slice none none (some (.UnaryOp .USub (.Constant (.int 1) k p1) p2)) p3) pos) (tRevS te) := by
  refine ⟨fun pins s σ H Q I h => ?_⟩
  refine PyProof.Rows.Subscript_ (thn (he.run pins s σ H _ I h) fun v s1 ⟨x, H1, I1, r1, q1⟩ => ?_)
  obtain ⟨z, ex, hz, q⟩ := q1
  subst ex
  obtain ⟨t, rfl⟩ := r1
  have hst : PO X (some (.UnaryOp .USub (.Constant (.int 1) k p1) p2)) (tPart (tUn (rU fun i => .int (-i)) (tC (.int 1)))) := po_some (pe_un un_neg pe_int)
  refine wpAny_Slice (thn (po_none.run pins s1 σ H1 (fun o H2 => o = none ∧ H2 = H1) I1 ⟨rfl, rfl⟩) fun vl s2 ⟨l, H2, I2, pl, el, e2⟩ => ?_)
  subst el e2
  refine thn (po_none.run pins s2 σ H2 (fun o H3 => o = none ∧ H3 = H2) I2 ⟨rfl, rfl⟩) fun vu s3 ⟨u, H3, I3, pu, eu, e3⟩ => ?_
  subst eu e3
  refine thn (hst.run pins s3 σ H3 (fun o H4 => o = some (-1) ∧ H4 = H3) I3 ⟨1, rfl, -1, rfl, rfl, rfl⟩) fun vs s4 ⟨o, H4, I4, ps, eo, e4⟩ => ?_
  subst eo e4
  have I5 : Inv X pins σ H4 { s4 with heap := s4.heap.push { cls := .type "slice", data := .fields #[vl, vu, vs] } } := I4.kept (t' := s4.toks) fun b ob q => Heap.get?_push_of_some _ q
  have el : vl = .none := by cases pl; rfl
  have eu : vu = .none := by cases pu; rfl
  obtain ⟨tk, es⟩ : ∃ tk, vs = .int (-1) tk := by cases ps; exact ⟨_, rfl⟩
  subst el eu es
  show wpAny (model X.prog X.w) X.A (PyProof.Rows.subscriptTail e (.Slice none none (some (.UnaryOp .USub (.Constant (.int 1) k p1) p2)) p3) (.str z t) (.ref s4.heap.objs.size)) (EP X pins σ Q) X.xe { s4 with heap := s4.heap.push { cls := .type "slice", data := .fields #[.none, .none, .int (-1) tk] } }
  refine PyProof.Rows.tail_any (ops := [.str z t, .ref s4.heap.objs.size]) (PySem.typeIs_str _ _ _) (PySem.F.slot_str_getitem.lookup) ?_ (by with_unfolding_all rfl)
  refine wpAny_getItem_str_slice (l := none) (u := none) (st := some (-1, tk)) ⟨_, Heap.get?_push_size _ rfl, rfl, rfl⟩ rfl ?_
  have e1 : ⟨((Builtin.Str.strSliceIndices none none (-1) z.length).filterMap (z.cps[·]?)).toArray⟩ = (⟨z.cps.toList.reverse.toArray⟩ : Str) := by rw [rev_pick]
  show Made.post (if ((-1 : Int) == 1 && (Builtin.Str.strSliceIndices none none (-1) z.length).length == z.length) = true then Made.val (.str z t)
    else Made.str ⟨((Builtin.Str.strSliceIndices none none (-1) z.length).filterMap (z.cps[·]?)).toArray⟩) (EP X pins σ Q) _
  rw [if_neg (by simp), e1]
  refine ⟨?_, .str _, _, I5.tok _, ⟨_, rfl⟩, q⟩
  show (z.cps.toList.reverse.toArray).size ≤ sizeLine
  rw [List.size_toArray, List.length_reverse, Array.length_toList]
  exact ll hz
end
end G
namespace G
open PySem L2
open PySem.W (dataLe AllAlike Sortable dataLt alike alikeAll)
def CallD (K : PySem.W.Frag) (g : Gp) (r : List V → Hp → VK → Prop) (f : List D → Option D) : Prop := ∀ (c : Option Addr) (F H : Hp) (xs : List D) (z : D) (vs : List V) (Q' : VK), Ex F H → (∀ a, c = some a → F a = none) →
  RepTs K g c F H xs vs → f xs = some z → (∀ v' H' F', New F H F' H' → Rep K g F' z v' → Q' v' H') → r vs H Q'
def CallN (K : PySem.W.Frag) (g : Gp) (r : List V → Hp → VK → Prop) (f : List D → Option (List D)) : Prop := ∀ (c : Option Addr) (F H : Hp) (xs : List D) (ds : List D) (vs : List V) (Q' : VK), Ex F H → (∀ a, c = some a → F a = none) →
  RepTs K g c F H xs vs → f xs = some ds → (∀ p H' F' ws, New F H F' H' → H p = none → F' p = none → H' p = some (.lst ws) → RepL K g F' ds ws → Q' (.ref p) H') → r vs H Q'
def dCallB (f : List D → Option D) (dl : DL) : DE := fun env m Q => dl env m fun xs m1 => ∃ z, f xs = some z ∧ Q z m1
def dCallN (f : List D → Option (List D)) (dl : DL) : DL := fun env m Q => dl env m fun xs m1 => ∃ z, f xs = some z ∧ Q z m1
section
variable {K : PySem.W.Frag} {g : Gp} {X : Cx} {e o : Expr} {es : List Expr} {dl : DL} {d : DE} {pos p : Pos} {x : Str}
theorem cb_weak {r : List V → Hp → VK → Prop} {f : List D → Option D} (cd : CallD X.K g r f) : ∀ σ H Q, tD X.K g (dCallB f dl) σ H Q → tCB r (tAb X.K g dl) σ H Q := fun σ H Q ⟨c, F, env, m, Q1, rl, hd, k⟩ =>
  ⟨c, F, env, m, _, rl, hd, fun vs H1 F1 m1 xs r1 f1 rp ⟨z, hz, q1⟩ => cd c F1 H1 xs z vs Q r1.sub r1.nc rp hz fun v' H' F' n rp' => k v' H' F' m1 z (r1.new n) (f1.trans (n.fresh r1.ck)) rp' q1⟩
theorem cn_weak {r : List V → Hp → VK → Prop} {f : List D → Option (List D)} (cd : CallN X.K g r f) : ∀ σ H Q, tN X.K g (dCallN f dl) σ H Q → tCB r (tAb X.K g dl) σ H Q := fun σ H Q ⟨c, F, env, m, Q1, rl, hd, k⟩ =>
  ⟨c, F, env, m, _, rl, hd, fun vs H1 F1 m1 xs r1 f1 rp ⟨z, hz, q1⟩ => cd c F1 H1 xs z vs Q r1.sub r1.nc rp hz fun p H' F' ws n h0 hp h1 rl' => by
    have cp : c ≠ some p := fun z => by obtain ⟨_, _, e, _⟩ := r1.ck p z; rw [e] at h0; cases h0
    refine k p H' F' m1 z ws (r1.new n) (f1.trans (n.fresh r1.ck)) ?_ hp cp h1 rl' q1
    cases q : H p with
    | none => rfl
    | some o => exact (f1.sm q cp h0).elim⟩
theorem ge_callB {id : String} {r : List V → Hp → VK → Prop} {f : List D → Option D} (hc : CallR X (.builtin id) r) (cd : CallD X.K g r f) (hg : Gl X x) (hm : X.mg x = none) (hv : bootBuiltins x = some (.builtin id)) (ha : GAb g X (e :: es) dl) (hn : x ≠ "__name__" := by decide) (hdb : (x == ("__debug__" : Str)) = false := by decide)
    (he : starEach (e :: es) X.env = (false, eval e X.env) :: starEach es X.env := by rfl) (hpl : (backTo pos (starEach es X.env)).any (·.1) = false := by rfl) : GE g X (.Call (.Name x p) (e :: es) [] pos) (dCallB f dl) := PE.weak (pe_callB hc hg hm hv ha hn hdb he hpl) (cb_weak cd)
theorem ge_callTy {T : String} {r : List V → Hp → VK → Prop} {f : List D → Option D} (hc : CallR X (.type T) r) (cd : CallD X.K g r f) (hg : Gl X x) (hm : X.mg x = none) (hv : bootBuiltins x = some (.type T)) (ha : GAb g X (e :: es) dl) (hn : x ≠ "__name__" := by decide) (hdb : (x == ("__debug__" : Str)) = false := by decide)
    (he : starEach (e :: es) X.env = (false, eval e X.env) :: starEach es X.env := by rfl) (hpl : (backTo pos (starEach es X.env)).any (·.1) = false := by rfl) : GE g X (.Call (.Name x p) (e :: es) [] pos) (dCallB f dl) := PE.weak (pe_callTy hc hg hm hv ha hn hdb he hpl) (cb_weak cd)
theorem gn_callB {id : String} {r : List V → Hp → VK → Prop} {f : List D → Option (List D)} (hc : CallR X (.builtin id) r) (cd : CallN X.K g r f) (hg : Gl X x) (hm : X.mg x = none) (hv : bootBuiltins x = some (.builtin id)) (ha : GAb g X (e :: es) dl) (hn : x ≠ "__name__" := by decide) (hdb : (x == ("__debug__" : Str)) = false := by decide)
    (he : starEach (e :: es) X.env = (false, eval e X.env) :: starEach es X.env := by rfl) (hpl : (backTo pos (starEach es X.env)).any (·.1) = false := by rfl) : GN g X (.Call (.Name x p) (e :: es) [] pos) (dCallN f dl) := PE.weak (pe_callB hc hg hm hv ha hn hdb he hpl) (cn_weak cd)
theorem gn_callTy {T : String} {r : List V → Hp → VK → Prop} {f : List D → Option (List D)} (hc : CallR X (.type T) r) (cd : CallN X.K g r f) (hg : Gl X x) (hm : X.mg x = none) (hv : bootBuiltins x = some (.type T)) (ha : GAb g X (e :: es) dl) (hn : x ≠ "__name__" := by decide) (hdb : (x == ("__debug__" : Str)) = false := by decide)
    (he : starEach (e :: es) X.env = (false, eval e X.env) :: starEach es X.env := by rfl) (hpl : (backTo pos (starEach es X.env)).any (·.1) = false := by rfl) : GN g X (.Call (.Name x p) (e :: es) [] pos) (dCallN f dl) := PE.weak (pe_callTy hc hg hm hv ha hn hdb he hpl) (cn_weak cd)
def lenD : List D → Option D
  | [.str s] => if s.length ≤ LL then some (.int s.length) else none
  | [.lst ds] => some (.int ds.length)
  | [.tup ds] => some (.int ds.length)
  | [.web _ ts] => some (.int ts.length)
  | _ => none
def lenD0 : List D → Option D
  | [.web _ _] => none
  | ds => lenD ds
def rLen (K : PySem.W.Frag) : List V → Hp → VK → Prop := fun xs H Q => ∃ x n, xs = [x] ∧ LenV K x H n ∧ Q (.int n) H
theorem cd_len0 : CallD K g (rLen K) lenD0 := fun c F H xs z vs Q' e nc rp hz k => by
  cases rp with
  | nil => simp [lenD0, lenD] at hz
  | cons r1 rt =>
    rename_i x v ds vs
    cases rt with
    | cons _ _ => cases x <;> simp [lenD0, lenD] at hz
    | nil =>
      cases x with
      | str s =>
        simp only [lenD0, lenD] at hz
        split at hz
        · rename_i hl; cases hz; cases r1.str'; exact ⟨_, s.length, rfl, ⟨ll hl, rfl⟩, k _ H F (New.refl e) (.int _)⟩
        · cases hz
      | lst es =>
        cases hz
        obtain ⟨p, ys, rfl, h1, h2, _⟩ := r1
        exact ⟨_, ys.length, rfl, .inl ⟨ys, SqL.of h1, rfl⟩, by rw [h2.length]; exact k _ H F (New.refl e) (.int _)⟩
      | tup es =>
        cases hz
        obtain ⟨p, ys, rfl, h1, h2⟩ := r1.tup'
        exact ⟨_, ys.length, rfl, .inr ⟨ys, Evl.ex_t e h1, rfl⟩, by rw [h2.length]; exact k _ H F (New.refl e) (.int _)⟩
      | _ => simp [lenD0, lenD] at hz
def rLenW (K : PySem.W.Frag) (C : Addr) : List V → Hp → VK → Prop := fun xs H Q => ∃ (a dx t : Addr) (pl : Str) (ts : List Str), xs = [.ref a] ∧ H a = some (.ins C dx [("places", .str pl), ("ties", .ref t)]) ∧ SqT K H t (ts.map V.str) ∧ ∀ H', Ex H H' → Q (.int ts.length) H'
theorem cd_lenW : CallD K g (fun xs H Q => rLen K xs H Q ∨ rLenW K g.Cw xs H Q) lenD := fun c F H xs z vs Q' e nc rp hz k => by
  by_cases hw : ∃ pl ts, xs = [.web pl ts]
  · obtain ⟨pl, ts, rfl⟩ := hw
    cases rp with
    | cons r1 rt =>
      cases rt
      cases hz
      obtain ⟨a, dx, t, rfl, h1, h2⟩ := r1.web'
      exact .inr ⟨a, dx, t, pl, ts, rfl, e _ _ h1, Evl.ex_t e h2, fun H' e' => k _ H' F ⟨fun _ _ h => h, e.trans e', e', fun _ _ h => .inl h⟩ (.int _)⟩
  · refine .inl (cd_len0 c F H xs z vs Q' e nc rp ?_ k)
    unfold lenD0
    split
    · exact absurd ⟨_, _, rfl⟩ hw
    · exact hz
def absD : List D → Option D | [.int i] => some (.int (if i < 0 then -i else i)) | _ => none
def minD2 : List D → Option D
  | [.int i, .int j] => some (.int (if j < i then j else i))
  | [.str a, .str b] => some (.str (if sLt b a then b else a))
  | _ => none
def maxD2 : List D → Option D
  | [.int i, .int j] => some (.int (if j > i then j else i))
  | [.str a, .str b] => some (.str (if sLt a b then b else a))
  | _ => none
theorem cd_min2 : CallD K g (fun xs H Q => (∃ i j, xs = [.int i, .int j] ∧ Q (.int (if j < i then j else i)) H) ∨ ∃ a b, xs = [.str a, .str b] ∧ Q (.str (if sLt b a then b else a)) H) minD2 := fun c F H xs z vs Q' e nc rp hz k => by
  unfold minD2 at hz
  split at hz
  · cases hz
    cases rp with
    | cons h t => cases t with
      | cons h2 t2 => cases t2; exact .inl ⟨_, _, by rw [h.int', h2.int'], k _ H F (New.refl e) (.int _)⟩
  · cases hz
    cases rp with
    | cons h t => cases t with
      | cons h2 t2 => cases t2; exact .inr ⟨_, _, by rw [h.str', h2.str'], k _ H F (New.refl e) (.str _)⟩
  · cases hz
theorem cd_max2 : CallD K g (fun xs H Q => (∃ i j, xs = [.int i, .int j] ∧ Q (.int (if j > i then j else i)) H) ∨ ∃ a b, xs = [.str a, .str b] ∧ Q (.str (if sLt a b then b else a)) H) maxD2 := fun c F H xs z vs Q' e nc rp hz k => by
  unfold maxD2 at hz
  split at hz
  · cases hz
    cases rp with
    | cons h t => cases t with
      | cons h2 t2 => cases t2; exact .inl ⟨_, _, by rw [h.int', h2.int'], k _ H F (New.refl e) (.int _)⟩
  · cases hz
    cases rp with
    | cons h t => cases t with
      | cons h2 t2 => cases t2; exact .inr ⟨_, _, by rw [h.str', h2.str'], k _ H F (New.refl e) (.str _)⟩
  · cases hz
theorem cr_min2 (hc : X.calm = true) : CallR X (.builtin "min") (fun xs H Q => (∃ i j, xs = [.int i, .int j] ∧ Q (.int (if j < i then j else i)) H) ∨ ∃ a b, xs = [.str a, .str b] ∧ Q (.str (if sLt b a then b else a)) H) := (call_min2 hc).or (cr_min2S hc)
theorem cr_max2 (hc : X.calm = true) : CallR X (.builtin "max") (fun xs H Q => (∃ i j, xs = [.int i, .int j] ∧ Q (.int (if j > i then j else i)) H) ∨ ∃ a b, xs = [.str a, .str b] ∧ Q (.str (if sLt a b then b else a)) H) := (call_max2 hc).or (cr_max2S hc)
def bools : List D → Option (List Bool)
  | [] => some []
  | .bl b :: r => (bools r).map (b :: ·)
  | _ :: _ => none
theorem bools_map : ∀ {ds : List D} {bs : List Bool}, bools ds = some bs → ds = bs.map D.bl
  | [], _, h => by cases h; rfl
  | .bl b :: r, bs, h => by
    obtain ⟨cs, h1, rfl⟩ := Option.map_eq_some_iff.mp h
    rw [bools_map h1]; rfl
  | .non :: _, _, h => by cases h
  | .int _ :: _, _, h => by cases h
  | .str _ :: _, _, h => by cases h
  | .tup _ :: _, _, h => by cases h
  | .lst _ :: _, _, h => by cases h
  | .dic _ :: _, _, h => by cases h
  | .web _ _ :: _, _, h => by cases h
  | .fn _ :: _, _, h => by cases h
  | .exc _ _ _ :: _, _, h => by cases h
  | .dit _ :: _, _, h => by cases h
theorem bools_of (bs : List Bool) : bools (bs.map D.bl) = some bs := by
  induction bs with
  | nil => rfl
  | cons b r ih => rw [List.map_cons]; unfold bools; rw [ih]; rfl
def allD : List D → Option D | [.lst ds] => (bools ds).map fun bs => .bl (bs.all id) | _ => none
def anyD : List D → Option D | [.lst ds] => (bools ds).map fun bs => .bl (bs.any id) | _ => none
theorem cd_all : CallD K g (rAll K) allD := fun c F H xs z vs Q' e nc rp hz k => by
  unfold allD at hz
  split at hz
  · obtain ⟨bs, h1, rfl⟩ := Option.map_eq_some_iff.mp hz
    have h2 := bools_map h1
    subst h2
    cases rp with
    | cons h t =>
      cases t
      obtain ⟨p, ys, rfl, g1, g2, _⟩ := h
      have := repL_bls g2
      subst this
      exact ⟨p, bs, rfl, SqL.of g1, k _ H F (New.refl e) (.bl _)⟩
  · cases hz
theorem cd_any : CallD K g (rAny K) anyD := fun c F H xs z vs Q' e nc rp hz k => by
  unfold anyD at hz
  split at hz
  · obtain ⟨bs, h1, rfl⟩ := Option.map_eq_some_iff.mp hz
    have h2 := bools_map h1
    subst h2
    cases rp with
    | cons h t =>
      cases t
      obtain ⟨p, ys, rfl, g1, g2, _⟩ := h
      have := repL_bls g2
      subst this
      exact ⟨p, bs, rfl, SqL.of g1, k _ H F (New.refl e) (.bl _)⟩
  · cases hz
def listD : List D → Option (List D)
  | [.lst ds] => some ds
  | [.tup ds] => some ds
  | [.str s] => if s.length ≤ LL then some (charsD s) else none
  | _ => none
def rListG (K : PySem.W.Frag) : List V → Hp → VK → Prop := fun xs H Q => (∃ p ys, xs = [.ref p] ∧ (SqL K H p ys ∨ SqT K H p ys) ∧ ∀ l, H l = none → Q (.ref l) (upd H l (.lst ys))) ∨ ∃ z : Str, xs = [.str z] ∧ z.length ≤ LL ∧ ∀ p, H p = none → Q (.ref p) (upd H p (.lst (chars z)))
theorem cr_list (hc : X.calm = true) : CallR X (.type "list") (rListG X.K) := call_list_of.or (cr_listStr hc)
theorem new_lay {F H : Hp} {l : Addr} {ys : List V} (e : Ex F H) (hl : H l = none) : New F H F (upd H l (.lst ys)) ∧ F l = none ∧ upd H l (.lst ys) l = some (.lst ys) := ⟨New.lay e hl, ex_none e hl, upd_same⟩
theorem cn_list : CallN K g (rListG K) listD := fun c F H xs ds vs Q' e nc rp hz k => by
  unfold listD at hz
  split at hz
  · cases hz
    cases rp with
    | cons h t =>
      cases t
      obtain ⟨p, ys, rfl, g1, g2, _⟩ := h
      exact .inl ⟨p, ys, rfl, .inl (SqL.of g1), fun l hl => k l _ F ys (new_lay e hl).1 hl (new_lay e hl (ys := ys)).2.1 upd_same g2⟩
  · cases hz
    cases rp with
    | cons h t =>
      cases t
      obtain ⟨p, ys, rfl, g1, g2⟩ := h.tup'
      exact .inl ⟨p, ys, rfl, .inr (Evl.ex_t e g1), fun l hl => k l _ F ys (new_lay e hl).1 hl (new_lay e hl (ys := ys)).2.1 upd_same g2⟩
  · split at hz
    · rename_i s hl
      cases hz
      cases rp with
      | cons h t =>
        cases t
        rw [h.str']
        exact .inr ⟨s, rfl, hl, fun l hl => k l _ F _ (new_lay e hl).1 hl (new_lay e hl (ys := chars s)).2.1 upd_same (chars_rep s)⟩
    · cases hz
  · cases hz
def tupleD : List D → Option D
  | [.lst ds] => some (.tup ds)
  | [.tup ds] => some (.tup ds)
  | _ => none
def rTupG (K : PySem.W.Frag) : List V → Hp → VK → Prop := fun xs H Q => ∃ p ys, xs = [.ref p] ∧ ((SqL K H p ys ∧ ∀ l, H l = none → Q (.ref l) (upd H l (.tup ys))) ∨ (SqT K H p ys ∧ Q (.ref p) H))
theorem cr_tuple : CallR X (.type "tuple") (rTupG X.K) := call_tuple_of
theorem cd_tuple : CallD K g (rTupG K) tupleD := fun c F H xs z vs Q' e nc rp hz k => by
  unfold tupleD at hz
  split at hz
  · cases hz
    cases rp with
    | cons h t =>
      cases t
      obtain ⟨p, ys, rfl, g1, g2, _⟩ := h
      refine ⟨p, ys, rfl, .inl ⟨SqL.of g1, fun l hl => ?_⟩⟩
      have n := New.fix (o := .tup ys) e hl
      exact k _ _ _ n (.tup (SqT.of upd_same) (g2.mono n.ff))
  · cases hz
    cases rp with
    | cons h t =>
      cases t
      obtain ⟨p, ys, rfl, g1, g2⟩ := h.tup'
      exact ⟨p, ys, rfl, .inr ⟨Evl.ex_t e g1, k _ H F (New.refl e) (.tup g1 g2)⟩⟩
  · cases hz
def D.lt (a b : D) : Bool := dataLt a.py b.py
def sortL (ds : List D) : List D := ds.mergeSort fun a b => !D.lt b a
def alikeL (ds : List D) : Bool := ds.all fun a => ds.all fun b => alike a.py b.py
def D.neT : D → Bool | .tup (_ :: _) => true | _ => false
def D.noT : D → Bool | .tup _ => false | .non => false | .dic _ => false | .web _ _ => false | .fn _ => false | .exc _ _ _ => false | .dit _ => false | _ => true
def sortOk (ds : List D) : Bool := alikeL ds && (ds.all D.neT || ds.all D.noT) && ds.all (·.okd 60) && decide (ds.length ≤ LL)
def sortedD : List D → Option (List D)
  | [.lst ds] => if sortOk ds then some (sortL ds) else none
  | [.str s] => if s.length ≤ LL then some (sortL (charsD s)) else none
  | _ => none
def rSortedG (K : PySem.W.Frag) : List V → Hp → VK → Prop := fun xs H Q => rSortG K xs H Q ∨ ∃ z : Str, xs = [.str z] ∧ z.length ≤ LL ∧ ∀ p, H p = none → Q (.ref p) (upd H p (.lst ((sortV ((z.cps.toList.map fun c => ((.str ⟨#[c]⟩ : V), PyData.str ⟨#[c]⟩)))).map (·.1))))
theorem cr_sorted' (hc : X.calm = true) (hu : X.A.units + 64 < cLine) : CallR X (.builtin "sorted") (rSortedG X.K) := (cr_sortG hu).or (cr_sortStr hc hu)
theorem sort_rep {F : Hp} {ds : List D} {xs : List V} (h : RepL K g F ds xs) : RepL K g F (sortL ds) ((sortV (xs.zip (ds.map D.py))).map (·.1)) := by
  have key : ∀ (ps : List (D × V)), (∀ p ∈ ps, Rep K g F p.1 p.2) → RepL K g F (ps.map (·.1)) (ps.map (·.2)) := by
    intro ps hp
    induction ps with
    | nil => exact .nil
    | cons p r ih => exact .cons (hp p (by simp)) (ih fun q hq => hp q (by simp [hq]))
  have all : ∀ {ds : List D} {xs : List V}, RepL K g F ds xs → ∀ p ∈ ds.zip xs, Rep K g F p.1 p.2 := by
    intro ds
    induction ds with
    | nil => intro xs _ p hp; simp at hp
    | cons d r ih =>
      intro xs h p hp
      cases h with
      | cons h1 t1 =>
        simp only [List.zip_cons_cons, List.mem_cons] at hp
        rcases hp with rfl | hp
        · exact h1
        · exact ih t1 p hp
  have hl := h.length
  let ps := (ds.zip xs).mergeSort fun a b => !D.lt b.1 a.1
  have e1 : ps.map (·.1) = sortL ds := by
    have := List.map_mergeSort (r := fun a b : D × V => !D.lt b.1 a.1) (s := fun a b : D => !D.lt b a) (f := Prod.fst) (l := ds.zip xs) (fun a _ b _ => rfl)
    rw [List.map_fst_zip (by omega)] at this
    exact this
  have e2 : ps.map (·.2) = (sortV (xs.zip (ds.map D.py))).map (·.1) := by
    have := List.map_mergeSort (r := fun a b : D × V => !D.lt b.1 a.1) (s := dataLe false fun p : V × PyData => p.2) (f := fun p : D × V => (p.2, p.1.py)) (l := ds.zip xs) (fun a _ b _ => rfl)
    have e3 : (ds.zip xs).map (fun p : D × V => (p.2, p.1.py)) = xs.zip (ds.map D.py) := by
      clear this e1 h
      induction ds generalizing xs with
      | nil => cases xs <;> rfl
      | cons d r ih =>
        cases xs with
        | nil => simp at hl
        | cons x t => simp only [List.zip_cons_cons, List.map_cons]; rw [ih (by simpa using hl)]
    rw [e3] at this
    unfold sortV
    rw [← this, List.map_map]
    rfl
  rw [← e1, ← e2]
  exact key ps fun p hp => all h p (List.mergeSort_perm _ _ |>.mem_iff.mp hp)
theorem cn_sorted : CallN K g (rSortedG K) sortedD := fun c F H xs ds vs Q' e nc rp hz k => by
  unfold sortedD at hz
  split at hz
  · rename_i es
    split at hz
    · rename_i ok
      cases hz
      unfold sortOk at ok
      simp only [Bool.and_eq_true, Bool.or_eq_true, decide_eq_true_eq] at ok
      obtain ⟨⟨⟨o1, o2⟩, o3⟩, o4⟩ := ok
      cases rp with
      | cons h t =>
        cases t
        obtain ⟨p, ys, rfl, g1, g2, _⟩ := h
        have hl := g2.length
        have z1 : (ys.zip (es.map D.py)).map (·.1) = ys := List.map_fst_zip (by rw [List.length_map]; omega)
        have z2 : (ys.zip (es.map D.py)).map (·.2) = es.map D.py := List.map_snd_zip (by rw [List.length_map]; omega)
        refine .inl ⟨p, ys.zip (es.map D.py), rfl, by rw [z1]; exact SqL.of g1, ?_, ?_, ?_, ?_, fun l hl' => ?_⟩
        · intro q hq
          have o3' := List.all_eq_true.mp o3
          clear z1 z2 o1 o2 o4 hl
          clear g1 k
          induction es generalizing ys with
          | nil => cases g2; simp at hq
          | cons d r ih =>
            cases g2 with
            | cons h1 t1 =>
              simp only [List.map_cons, List.zip_cons_cons, List.mem_cons] at hq
              rcases hq with rfl | hq
              · have od := o3' d (by simp)
                exact ⟨rep_dp e d 60 _ od h1, (okd_lay d 60 od).2⟩
              · exact ih (by simp only [List.all_cons, Bool.and_eq_true] at o3; exact o3.2) _ t1 hq fun x hx => o3' x (by simp [hx])
        · rw [z2]
          intro d hd d' hd'
          obtain ⟨a, ha, rfl⟩ := List.mem_map.mp hd
          obtain ⟨b, hb, rfl⟩ := List.mem_map.mp hd'
          unfold alikeL at o1
          exact List.all_eq_true.mp (List.all_eq_true.mp o1 a ha) b hb
        · rw [z2]
          rcases o2 with o2 | o2
          · refine .inl fun d hd => ?_
            obtain ⟨a, ha, rfl⟩ := List.mem_map.mp hd
            have := List.all_eq_true.mp o2 a ha
            cases a with
            | tup l => cases l with
              | nil => cases this
              | cons x r => exact ⟨x.py, pyL r, by simp only [D.py, pyL]⟩
            | _ => cases this
          · refine .inr fun d hd => ?_
            obtain ⟨a, ha, rfl⟩ := List.mem_map.mp hd
            have := List.all_eq_true.mp o2 a ha
            cases a with
            | non => cases this
            | tup l => cases this
            | dic l => cases this
            | web a b => cases this
            | fn a => cases this
            | exc _ _ _ => cases this
            | dit _ => cases this
            | bl b => simp only [D.py]; exact ⟨(fun z => nomatch z), fun _ z => nomatch z⟩
            | int b => simp only [D.py]; exact ⟨(fun z => nomatch z), fun _ z => nomatch z⟩
            | str b => simp only [D.py]; exact ⟨(fun z => nomatch z), fun _ z => nomatch z⟩
            | lst b => simp only [D.py]; exact ⟨(fun z => nomatch z), fun _ z => nomatch z⟩
        · rw [List.length_zip, List.length_map]; omega
        · exact k l _ F _ (new_lay e hl').1 hl' (new_lay e hl' (ys := (sortV (ys.zip (es.map D.py))).map (·.1))).2.1 upd_same (sort_rep g2)
    · cases hz
  · rename_i s
    split at hz
    · rename_i hl
      cases hz
      cases rp with
      | cons h t =>
        cases t
        rw [h.str']
        refine .inr ⟨s, rfl, hl, fun l hl' => ?_⟩
        have sr := sort_rep (chars_rep (K := K) (g := g) (F := F) s)
        have e3 : (chars s).zip ((charsD s).map D.py) = s.cps.toList.map fun c => ((.str ⟨#[c]⟩ : V), PyData.str ⟨#[c]⟩) := by
          unfold chars charsD
          rw [List.map_map]
          generalize s.cps.toList = cs
          induction cs with
          | nil => rfl
          | cons c r ih => simp only [List.map_cons, List.zip_cons_cons]; rw [ih]; rfl
        rw [e3] at sr
        exact k l _ F _ (new_lay e hl').1 hl' (new_lay e hl' (ys := [])).2.1 upd_same sr
    · cases hz
  · cases hz
end
end G
namespace G
open PySem L2
abbrev Spec := List Sl → Nat → (D → Nat → Prop) → Prop
def spOf (K : PySem.W.Frag) (g : Gp) (S : Spec) : Sp := fun vs H Q _ => ∃ c F as m Q', Ex F H ∧ ArgsR K g c F as vs ∧ Ck g c m F H ∧ S as m Q' ∧
  ∀ v H' F' m' x, Fresh c F H F' H' → Ck g c m' F' H' → Rep K g F' x v → Q' x m' → Q v H'
theorem ArgsR.length {K : PySem.W.Frag} {g : Gp} {c : Option Addr} {F : Hp} {as : List Sl} {vs : List V} (h : ArgsR K g c F as vs) : as.length = vs.length := Paired.length h
def dCall (S : Spec) (da : DA) : DE := fun env m Q => da env m fun as m1 => S as m1 Q
section
variable {g : Gp} {X : Cx} {CX : CXT} {k : Nat} {f C : Addr} {fd : FuncData} {ps : List Str} {S : Spec} {x : Str} {p pos : Pos} {e : Expr} {es : List Expr} {da : DA}
theorem call_weak : ∀ σ H Q, tD X.K g (dCall S da) σ H Q → tCall (spOf X.K g S) [] E0 (tAr X.K g da) σ H Q := fun σ H Q ⟨c, F, env, m, Q1, r, h, kk⟩ =>
  ⟨c, F, env, m, _, r, h, fun vs H1 F1 m1 as r1 f1 ar q => by
    refine ⟨c, F1, as, m1, Q1, r1.sub, by rw [List.append_nil]; exact ar, r1.ck, q, fun v H' F' m' y f' ck' rp q' => kk v H' F' m' y (r1.fresh f' ck') (f1.trans f') rp q'⟩⟩
theorem ge_call (F : FnOk X.prog X.w X.K X.mg X.base CX0 k f fd ps (spOf X.K g S)) (hr : Room k X.A) (hg : Gl X x) (hm : X.mg x = some (.ref f)) (hk : PySem.W.keepIn X.K (.ref f) = true) (hb : Binds X.K fd ps [])
    (ha : GA g X (e :: es) da) (hdb : (x == ("__debug__" : Str)) = false := by decide) (he : starEach (e :: es) X.env = (false, eval e X.env) :: starEach es X.env := by rfl) (hpl : (backTo pos (starEach es X.env)).any (·.1) = false := by rfl) :
    GE g X (.Call (.Name x p) (e :: es) [] pos) (dCall S da) := PE.weak (pe_call F hr hg hm hk hb .nil pass0 ha hdb he hpl) call_weak
def KB0 (K : PySem.W.Frag) (fd : FuncData) (ps ks : List Str) (pm : {α : Type} → List α → List α) : Prop :=
  ∀ (s : Shared) (ws : List Value), K.In s.heap → ws.length = ks.length → BindsTo s fd ⟨[], ks.zip ws⟩ (ps.zip (pm ws))
def tCallK0 (sp : Sp) (pm : List V → List V) (t : TA) : TE := fun σ H Q => t σ H fun vs H1 => sp (pm vs) H1 Q E0
theorem pe_callK0 {sp : Sp} {ks : List Str} {kws : List Keyword} {t : TA} {pm : {α : Type} → List α → List α} (F : FnOk X.prog X.w X.K X.mg X.base CX0 k f fd ps sp) (hr : Room k X.A) (hg : Gl X x) (hm : X.mg x = some (.ref f)) (hk : PySem.W.keepIn X.K (.ref f) = true) (hb : KB0 X.K fd ps ks pm)
    (hpm : ∀ (vs : List V) (us : List Value), Vals vs us → Vals (pm vs) (pm us)) (hkl : kws.length = ks.length) (hkw : PK X kws t) (hall : (backToKw pos (keywordEach kws X.env)).all (·.1.isSome) = true := by rfl) (hks : (backToKw pos (keywordEach kws X.env)).filterMap (·.1) = ks := by rfl)
    (hlen : ∀ (us : List Value), us.length = kws.length → us.length = ks.length := by intro us h; exact h)
    (hdb : (x == ("__debug__" : Str)) = false := by decide) (hpl : ((backTo pos (starEach [] X.env)).any (·.1) || (backToKw pos (keywordEach kws X.env)).any (·.1.isNone)) = false := by rfl)
    (hn : ∀ σ H Q, t σ H Q → t σ H fun vs H1 => vs.length = kws.length ∧ Q vs H1) :
    PE X (.Call (.Name x p) [] kws pos) (tCallK0 sp pm t) := by
  refine ⟨fun pins s σ H Q I h => ?_⟩
  refine wpAny_Call_Name_kw (ld_glob I hg hm ?_ hdb)
  refine PySem.W.callWith_KW0 (h₀ := X.base) I.ok.mod.kin hk hall (thn (hkw.run pos pins s σ H _ I (hn σ H _ h)) fun ws s1 ⟨zs, H1, I1, rz, hl, q⟩ => ⟨I1.kIn, ?_⟩) hpl
  rw [hks]
  have hw : ws.length = ks.length := by rw [← rz.length, hl, hkl]
  have r2 := hpm zs ws rz
  refine wpAny_call (codeAny_mono (F.run X.A X.stack s1 H1 ⟨[], ks.zip ws⟩ (pm ws) (pm zs) Q E0 hr I1.env0 (hb s1 ws I1.kIn hw) r2 q) fun r s' hq => ?_)
  cases r with
  | error e => exact hq.elim
  | ok fl =>
    cases fl with
    | ret u => exact I1.after hq
    | next => exact False.elim hq
    | brk => exact False.elim hq
    | cont => exact False.elim hq
def GK (g : Gp) (X : Cx) (kws : List Keyword) (d : DA) (n : Nat) : Prop := PK X kws (tAr X.K g d) ∧ ∀ env m Q, d env m Q → d env m fun as m1 => as.length = n ∧ Q as m1
theorem PK.weak {kws : List Keyword} {t t' : TA} (h : PK X kws t) (w : ∀ σ H Q, t' σ H Q → t σ H Q) : PK X kws t' := ⟨fun pos pins s σ H Q I q => h.run pos pins s σ H Q I (w σ H Q q)⟩
theorem gk_nil : GK g X [] dNilA 0 := ⟨PK.weak pk_nil fun σ H Q ⟨c, F, env, m, Q1, rl, hd, k⟩ => k [] H F m [] rl (Fresh.refl rl.sub rl.ck) .nil hd, fun env m Q h => ⟨rfl, h⟩⟩
theorem gk_cons {nm : Option Str} {kpos : Pos} {kws : List Keyword} {d : DE} {dr : DA} {n : Nat} (ha : GE g X e d) (mono : ∀ env m Q Q', (∀ y m', Q y m' → Q' y m') → d env m Q → d env m Q') (hr : GK g X kws dr n) : GK g X (⟨nm, e, kpos⟩ :: kws) (dConsA d dr) (n + 1) :=
  ⟨PK.weak (pk_cons ha hr.1) fun σ H Q ⟨c, F, env, m, Q1, rl, hd, k⟩ =>
    ⟨c, F, env, m, _, rl, hd, fun v H1 F1 m1 x r1 f1 rp q1 => ⟨c, F1, env, m1, _, r1, q1, fun vs H2 F2 m2 as r2 f2 rps q2 => k _ H2 F2 m2 _ r2 (f1.trans f2) (.cons (rp.mono f2.ff) rps) q2⟩⟩,
   fun env m Q h => mono env m _ _ (fun y m' q => by
     have := hr.2 env m' _ q
     exact (by
       refine (fun (h2 : dr env m' fun as m2 => as.length = n ∧ Q (.val y :: as) m2) => ?_) this
       have e : (fun (as : List Sl) m2 => as.length = n ∧ Q (.val y :: as) m2) = fun as m2 => (Sl.val y :: as).length = n + 1 ∧ Q (.val y :: as) m2 := by
         funext as m2
         rw [List.length_cons, Nat.add_right_cancel_iff]
       rw [e] at h2
       exact h2)) h⟩
def dCallK (S : Spec) (pm : List Sl → List Sl) (da : DA) : DE := fun env m Q => da env m fun as m1 => S (pm as) m1 Q
theorem ge_callK {ks : List Str} {kws : List Keyword} {n : Nat} {pm : {α : Type} → List α → List α} (F : FnOk X.prog X.w X.K X.mg X.base CX0 k f fd ps (spOf X.K g S)) (hr : Room k X.A) (hg : Gl X x) (hm : X.mg x = some (.ref f)) (hk : PySem.W.keepIn X.K (.ref f) = true) (hb : KB0 X.K fd ps ks pm)
    (hpm : ∀ {α β : Type} (R : α → β → Prop) (vs : List α) (us : List β), Paired R vs us → Paired R (pm vs) (pm us)) (hkl : kws.length = ks.length) (hkw : GK g X kws da n) (hn : kws.length = n) (hall : (backToKw pos (keywordEach kws X.env)).all (·.1.isSome) = true := by rfl) (hks : (backToKw pos (keywordEach kws X.env)).filterMap (·.1) = ks := by rfl)
    (hdb : (x == ("__debug__" : Str)) = false := by decide) (hpl : ((backTo pos (starEach [] X.env)).any (·.1) || (backToKw pos (keywordEach kws X.env)).any (·.1.isNone)) = false := by rfl) :
    GE g X (.Call (.Name x p) [] kws pos) (dCallK S pm da) := by
  refine PE.weak (pe_callK0 (t := tAr X.K g da) (pm := pm) F hr hg hm hk hb (fun vs us h => hpm RelV vs us h) hkl hkw.1 hall hks (fun us h => by rw [h, hkl]) hdb hpl (fun σ H Q ⟨c, F, env, m, Q1, r, h, kk⟩ => ?_)) fun σ H Q ⟨c, F, env, m, Q1, r, h, kk⟩ => ?_
  · exact ⟨c, F, env, m, _, r, hkw.2 env m Q1 h, fun vs H1 F1 m1 as r1 f1 ar ⟨hl, q⟩ => ⟨by rw [← ar.length, hl, hn], kk vs H1 F1 m1 as r1 f1 ar q⟩⟩
  · exact ⟨c, F, env, m, _, r, h, fun vs H1 F1 m1 as r1 f1 ar q => ⟨c, F1, pm as, m1, Q1, r1.sub, hpm _ as vs ar, r1.ck, q, fun v H' F' m' y f' ck' rp q' => kk v H' F' m' y (r1.fresh f' ck') (f1.trans f') rp q'⟩⟩
end
def pad (N : List Str) (as : List Sl) : Env' := as ++ List.replicate (N.length - as.length) .no
section
variable {P : Program} {w : World} {K : PySem.W.Frag} {mg : Str → Option Value} {base : Heap} {g : Gp}
theorem start_rel {N : List Str} {c : Option Addr} {F H : Hp} {as : List Sl} {vs : List V} {m : Nat} (e : Ex F H) (ar : ArgsR K g c F as vs) (ck : Ck g c m F H) : Rel K g c F (pad N as) m (L2.start N vs) H ∧ ∀ a, ¬ Own (pad N as) (L2.start N vs) a := by
  have hl := ar.length
  have get : ∀ (i : Nat) (s : Sl), (pad N as)[i]? = some s → s = .no ∨ ∃ v, (L2.start N vs)[i]? = some (some v) ∧ as[i]? = some s ∧ vs[i]? = some v := fun i s h => by
    unfold pad at h
    by_cases hi : i < as.length
    · rw [List.getElem?_append_left hi] at h
      refine .inr ⟨vs[i]'(by omega), ?_, h, List.getElem?_eq_getElem _⟩
      unfold L2.start
      rw [List.getElem?_append_left (by rw [List.length_map]; omega), List.getElem?_map, List.getElem?_eq_getElem (by omega)]
      rfl
    · rw [List.getElem?_append_right (by omega)] at h
      exact .inl (List.eq_of_mem_replicate (List.mem_of_getElem? h))
  have rel : ∀ {as : List Sl} {vs : List V}, ArgsR K g c F as vs → ∀ (i : Nat) (s : Sl) (v : V), as[i]? = some s → vs[i]? = some v → SlR K g c F H s (some (some v)) ∧ ∀ o, s.adr o = [] := by
    intro as vs ar
    induction ar with
    | nil => intro i s v h _; simp at h
    | cons h t ih =>
      intro i s v h1 h2
      cases i with
      | zero =>
        simp at h1 h2
        subst h1 h2
        rename_i s v _ _
        cases s with
        | val d => exact ⟨⟨v, rfl, h⟩, fun _ => rfl⟩
        | cask => obtain ⟨a, c1, rfl⟩ := h; exact ⟨⟨a, c1, rfl⟩, fun _ => rfl⟩
        | scr ns => obtain ⟨a, rfl, c1⟩ := h; exact ⟨⟨a, rfl, c1⟩, fun _ => rfl⟩
        | no => exact h.elim
        | ow ds => exact h.elim
        | tb qs rows => exact h.elim
      | succ i => exact ih i s v (by simpa using h1) (by simpa using h2)
  have noown : ∀ (i : Nat) (s : Sl) (o : Option (Option V)), (pad N as)[i]? = some s → s.adr o = [] := fun i s o h => by
    rcases get i _ h with z | ⟨v, _, h1, h2⟩
    · rw [z]; rfl
    · exact (rel ar i _ v h1 h2).2 o
  refine ⟨⟨e, ?_, fun i s h => ?_, fun i j si sj a h _ ha => by rw [noown i si _ h] at ha; simp at ha, ck⟩, fun a ⟨i, s, h, ha⟩ => by rw [noown i s _ h] at ha; simp at ha⟩
  · unfold pad L2.start
    simp only [List.length_append, List.length_map, List.length_replicate]
    omega
  · rcases get i s h with rfl | ⟨v, h0, h1, h2⟩
    · trivial
    · rw [h0]; exact (rel ar i s v h1 h2).1
theorem def_ok {x qual : Str} {st : Stmt} {f : Addr} {fd : FuncData} {N ps : List Str} {k : Nat} {S : Spec} (F : Fun K x qual st f fd) (SC : FnScope N ps (defScope st)) (len : ∀ as m Q, S as m Q → as.length = ps.length)
    (hbody : ∀ (cdv : Value) (A : Around) (outer : List Env) (s : Shared) (H : Hp) (E : XK), Room k (A.deeper (PyProof.Rows.envOfC qual (defScope st) s.heap.objs.size f cdv)) →
      ∃ d, GSs g (cxOf CX0 P w K mg base N qual (defScope st) f cdv A outer s H E).nox (defBody st) d ∧ ∀ as m Q, S as m Q → d (pad N as) m { nx := fun _ m' => Q .non m', rt := Q }) :
    FnOk P w K mg base CX0 (k + 1) f fd ps (spOf K g S) := by
  refine F.ok SC (fun vs H Q E h => ?_) (fun cdv A outer s H vs Q E hr h => ?_)
  · obtain ⟨c, F, as, m, Q', _, ar, _, hs, _⟩ := h
    rw [← ar.length]; exact len as m Q' hs
  · obtain ⟨c, F, as, m, Q', e, ar, ck, hs, kk⟩ := h
    obtain ⟨d, gs, hd⟩ := hbody cdv A outer s H E hr
    obtain ⟨rel, no⟩ := start_rel (N := N) e ar ck
    have toF : ∀ {O' : Addr → Prop} {F' H' : Hp}, Evo c (Own (pad N as) (L2.start N vs)) F H O' F' H' → Fresh c F H F' H' := fun v => ⟨v.ff, v.fh, fun a o h n => v.hk a o h n (no a), fun a o h => (v.new a o h).imp id fun z => z.elim id fun y => (no a y).elim, v.nc⟩
    refine ⟨_, gs, c, F, _, m, _, rel, hd as m Q' hs, ⟨fun σ' H' F' env' m' r' v q => ?_, fun _ _ _ _ _ _ _ q => q.elim, fun _ _ _ _ _ _ _ q => q.elim, fun v H' F' m' y ck' ev rp q => ?_⟩⟩
    · exact kk .non H' F' m' .non (toF v) r'.ck .non q
    · exact kk v H' F' m' y (toF ev) ck' rp q
end
section
variable {K : PySem.W.Frag} {g : Gp} {c : Option Addr} {F F' H H' : Hp} {env : Env'} {m : Nat} {σ : St}
theorem Rel.mutS {i : Nat} {s s' : Sl} {H' : Hp} (r : Rel K g c F env m σ H) (ho : env[i]? = some s) (ha : ∀ a, a ∈ s'.adr σ[i]? ↔ a ∈ s.adr σ[i]?) (hk : ∀ a, a ∉ s.adr σ[i]? → H' a = H a) (hs : SlR K g c F H' s' σ[i]?) :
    Rel K g c F (env.set i s') m σ H' ∧ Evo c (Own env σ) F H (Own (env.set i s') σ) F H' := by
  have hi : i < env.length := (List.getElem?_eq_some_iff.mp ho).1
  have sl := r.slot i s ho
  have np : ∀ a o, F a = some o → a ∉ s.adr σ[i]? := fun a o h z => by rw [(sl.at z).1] at h; cases h
  have sub : Ex F H' := fun a o h => by rw [hk a (np a o h)]; exact r.sub a o h
  have ck : Ck g c m F H' := ⟨fun a h => (by
    obtain ⟨b1, zs, b2, b3⟩ := r.ck a h
    exact ⟨b1, zs, by rw [hk a fun z => (sl.at z).2.1 h]; exact b2, b3⟩), TabF.keep r.ck.tb fun b o hb z => by
      rw [hk b fun y => ?_]
      · exact hb
      · obtain ⟨_, _, u, h1, h2, h3⟩ := sl.at' y
        rw [hb] at h1
        cases h1
        rcases z with z | ⟨c, q, z⟩
        · rw [h2] at z; cases z
        · exact h3 c q z⟩
  have at' : ∀ (j : Nat) (sj : Sl) (a : Addr), (env.set i s')[j]? = some sj → a ∈ sj.adr σ[j]? → ∃ sk, env[j]? = some sk ∧ a ∈ sk.adr σ[j]? := fun j sj a h hm => by
    by_cases q : i = j
    · subst q
      rw [List.getElem?_set_self hi] at h
      cases h
      exact ⟨s, ho, (ha a).mp hm⟩
    · rw [List.getElem?_set_ne q] at h; exact ⟨sj, h, hm⟩
  refine ⟨⟨sub, by rw [List.length_set]; exact r.len, fun j sj h => ?_, fun j k sj sk a e1 e2 e3 e4 => ?_, ck⟩, fun _ _ h => h, sub, fun a o h n no => ?_, fun a o h => .inl h, r.nc, fun a ⟨j, sj, e1, e2⟩ => ?_⟩
  · by_cases q : i = j
    · subst q
      rw [List.getElem?_set_self hi] at h
      cases h
      exact hs
    · rw [List.getElem?_set_ne q] at h
      have w := r.slot j sj h
      exact w.keep (fun _ _ z => z) fun a hm => ⟨(w.at hm).1, hk a fun z => q (r.sep i j s sj a ho h z hm)⟩
  · obtain ⟨s1, h1, m1⟩ := at' j sj a e1 e3
    obtain ⟨s2, h2, m2⟩ := at' k sk a e2 e4
    exact r.sep j k s1 s2 a h1 h2 m1 m2
  · rw [hk a fun z => no ⟨i, s, ho, z⟩]; exact .of h
  · obtain ⟨s1, h1, m1⟩ := at' j sj a e1 e2
    exact ⟨r.ownc a ⟨j, s1, h1, m1⟩, .inl ⟨j, s1, h1, m1⟩⟩
theorem Rel.mutW {i : Nat} {ds ds' : D} {p : Addr} {ys : HO} (r : Rel K g c F env m σ H) (ho : env[i]? = some (.ow ds)) (hs : σ[i]? = some (some (.ref p))) (rl : ObR K g F p ds' ys) :
    Rel K g c F (env.set i (.ow ds')) m σ (upd H p ys) ∧ Evo c (Own env σ) F H (Own (env.set i (.ow ds')) σ) F (upd H p ys) := by
  obtain ⟨p', xs, e, h1, h2, h3, h4⟩ := r.slot i _ ho
  rw [hs] at e
  cases e
  refine r.mutS ho (fun a => by rw [hs]; rfl) (fun a ha => ?_) ?_
  · rw [hs, show (Sl.ow ds).adr (some (some (.ref p))) = [p] from rfl, List.mem_singleton] at ha
    exact upd_ne ha
  · rw [hs]; exact ⟨p, ys, rfl, h1, upd_same, rl, h4⟩
theorem Rel.mut {i : Nat} {ds ds' : List D} {p : Addr} {ys : List V} (r : Rel K g c F env m σ H) (ho : env[i]? = some (.own ds)) (hs : σ[i]? = some (some (.ref p))) (rl : RepL K g F ds' ys) :
    Rel K g c F (env.set i (.own ds')) m σ (upd H p (.lst ys)) ∧ Evo c (Own env σ) F H (Own (env.set i (.own ds')) σ) F (upd H p (.lst ys)) := r.mutW ho hs ⟨ys, rfl, rl⟩
end
section
variable {g : Gp} {X : Cx} {e : Expr} {d : DE} {pos p1 p2 p3 : Pos}
theorem own_at {K : PySem.W.Frag} {c : Option Addr} {F H : Hp} {env : Env'} {m : Nat} {σ : St} {i : Nat} {ds : List D} (r : Rel K g c F env m σ H) (ho : env[i]? = some (.own ds)) : ∃ p xs, σ[i]? = some (some (.ref p)) ∧ H p = some (.lst xs) ∧ RepL K g F ds xs ∧ c ≠ some p := by
  obtain ⟨p, xs, e, _, h2, h3, h4⟩ := (r.slot i _ ho).own'
  exact ⟨p, xs, e, h2, h3, h4⟩
def dApp (i : Nat) (d : DE) : DS := fun env m E => ∃ ds, env[i]? = some (.own ds) ∧ d env m fun x m1 => ds.length < LL ∧ E.nx (env.set i (.own (ds ++ [x]))) m1
theorem gs_append (i : Nat) {x : Str} (he : GE g X e d) (hN : X.N[i]? = some x := by rfl) (hv : Vis X.env.scope x := by first | exact Or.inl rfl | exact Or.inr (Or.inl rfl) | exact Or.inr (Or.inr rfl)) (hd : (x == ("__debug__" : Str)) = false := by decide)
    (hcd : (x == ("__classdict__" : Str)) = false := by decide) (hs : starEach [e] X.env = (false, eval e X.env) :: starEach [] X.env := by rfl) (hbase : attributeBase (.Name x p1) "append" X.env (eval (.Name x p1) X.env) = eval (.Name x p1) X.env := by rfl)
    (hfew : ((backTo p3 (starEach [e] X.env)).all (fun x => !x.1) && (backToKw p3 (keywordEach [] X.env)).all (fun x => x.1.isSome) && decide ([e].length + ([] : List Keyword).length + (if ([] : List Keyword).isEmpty then 0 else 1) < 30)) = true := by rfl)
    (hline : (p2.endLine == p3.line) = true := by rfl) (hsw : swapsWith (.Call (.Attribute (.Name x p1) "append" p2) [e] [] p3) none pos.line X.env = pure false := by rfl) :
    GS g X (.Expr (.Call (.Attribute (.Name x p1) "append" p2) [e] [] p3) pos) (dApp i d) :=
  PS.weak (ps_expr (pe_bm PySem.F.plainAttrs_list PySem.F.slot_list_append PySem.F.type_list_append mt_append (pe_var hN hv hd hcd) (pa_cons he pa_nil hs) hbase hfew hline hs rfl) hsw) fun D σ H ⟨c, F, env, m, E, r, ⟨ds, ho, q⟩, o⟩ => by
    obtain ⟨p, xs, es, hp, rl, nc⟩ := own_at r ho
    refine ⟨.ref p, es, .inl ⟨rfl, xs, SqL.of hp⟩, c, F, env, m, _, r, q, fun v H1 F1 m1 y r1 f1 rp ⟨hl, q1⟩ => ?_⟩
    obtain ⟨p', xs', es', hp', rl', nc'⟩ := own_at r1 ho
    rw [es] at es'
    cases es'
    obtain ⟨r2, v2⟩ := r1.mut ho es (rl'.append (.cons rp .nil))
    exact ⟨p, xs', v, rfl, rfl, hp', ll' (by rw [rl'.length]; exact hl), o.nx σ _ F1 _ m1 r2 ((r.evo f1).trans v2) q1⟩
def dAppPop (i j : Nat) (d : DE) : DS := fun env m E => ∃ ds es, env[i]? = some (.own ds) ∧ env[j]? = some (.own es) ∧ i ≠ j ∧ d env m fun x m1 => ∃ (k : Nat) (y : D), x = .int k ∧ es[k]? = some y ∧ es.length ≤ LL ∧ ds.length < LL ∧ E.nx ((env.set j (.own (es.eraseIdx k))).set i (.own (ds ++ [y]))) m1
theorem gs_appendPop (i j : Nat) {x y : Str} {q1 q2 q3 : Pos} (he : GE g X e d) (hN : X.N[i]? = some x := by rfl) (hv : Vis X.env.scope x := by first | exact Or.inl rfl | exact Or.inr (Or.inl rfl) | exact Or.inr (Or.inr rfl)) (hd : (x == ("__debug__" : Str)) = false := by decide)
    (hcd : (x == ("__classdict__" : Str)) = false := by decide) (hN2 : X.N[j]? = some y := by rfl) (hv2 : Vis X.env.scope y := by first | exact Or.inl rfl | exact Or.inr (Or.inl rfl) | exact Or.inr (Or.inr rfl)) (hd2 : (y == ("__debug__" : Str)) = false := by decide)
    (hcd2 : (y == ("__classdict__" : Str)) = false := by decide) (hs : starEach [e] X.env = (false, eval e X.env) :: starEach [] X.env := by rfl)
    (hb2 : attributeBase (.Name y q1) "pop" X.env (eval (.Name y q1) X.env) = eval (.Name y q1) X.env := by rfl) (hl2 : (q2.endLine == q3.line) = true := by rfl)
    (hf2 : ((backTo q3 (starEach [e] X.env)).all (fun x => !x.1) && (backToKw q3 (keywordEach [] X.env)).all (fun x => x.1.isSome) && decide ([e].length + ([] : List Keyword).length + (if ([] : List Keyword).isEmpty then 0 else 1) < 30)) = true := by rfl)
    (hs1 : starEach [.Call (.Attribute (.Name y q1) "pop" q2) [e] [] q3] X.env = (false, eval (.Call (.Attribute (.Name y q1) "pop" q2) [e] [] q3) X.env) :: starEach [] X.env := by rfl)
    (hbase : attributeBase (.Name x p1) "append" X.env (eval (.Name x p1) X.env) = eval (.Name x p1) X.env := by rfl)
    (hfew : ((backTo p3 (starEach [.Call (.Attribute (.Name y q1) "pop" q2) [e] [] q3] X.env)).all (fun x => !x.1) && (backToKw p3 (keywordEach [] X.env)).all (fun x => x.1.isSome) && decide ([(.Call (.Attribute (.Name y q1) "pop" q2) [e] [] q3 : Expr)].length + ([] : List Keyword).length + (if ([] : List Keyword).isEmpty then 0 else 1) < 30)) = true := by rfl)
    (hline : (p2.endLine == p3.line) = true := by rfl) (hsw : swapsWith (.Call (.Attribute (.Name x p1) "append" p2) [.Call (.Attribute (.Name y q1) "pop" q2) [e] [] q3] [] p3) none pos.line X.env = pure false := by rfl) :
    GS g X (.Expr (.Call (.Attribute (.Name x p1) "append" p2) [.Call (.Attribute (.Name y q1) "pop" q2) [e] [] q3] [] p3) pos) (dAppPop i j d) :=
  PS.weak (ps_expr (pe_bm PySem.F.plainAttrs_list PySem.F.slot_list_append PySem.F.type_list_append mt_append (pe_var hN hv hd hcd) (pa_cons (pe_bm PySem.F.plainAttrs_list PySem.F.slot_list_pop PySem.F.type_list_pop mt_popAt (pe_var hN2 hv2 hd2 hcd2) (pa_cons he pa_nil hs) hb2 hf2 hl2 hs rfl) pa_nil hs1) hbase hfew hline hs1 rfl) hsw) fun D σ H ⟨c, F, env, m, E, r, ⟨ds, es, ho, ho2, hij, q⟩, o⟩ => by
    obtain ⟨p, xs, e1, hp, rl, nc⟩ := own_at r ho
    obtain ⟨p', xs', e2, hp', rl', nc'⟩ := own_at r ho2
    refine ⟨.ref p, e1, .inl ⟨rfl, xs, SqL.of hp⟩, .ref p', e2, .inl ⟨rfl, xs', SqL.of hp'⟩, c, F, env, m, _, r, q, fun v H1 F1 m1 w r1 f1 rp ⟨k, y, ew, hy, hl, hl2, q1⟩ => ?_⟩
    subst ew
    cases rp
    obtain ⟨pa, xa, ea, ha, ra, na⟩ := own_at r1 ho2
    rw [e2] at ea
    cases ea
    obtain ⟨u, hu, ru⟩ := ra.get hy
    have hk : k < xa.length := (List.getElem?_eq_some_iff.mp hu).1
    have hxl : xa.length ≤ LL := by rw [ra.length]; exact hl
    obtain ⟨r2, v2⟩ := r1.mut ho2 e2 (ra.eraseIdx k)
    have ho' : (env.set j (.own (es.eraseIdx k)))[i]? = some (.own ds) := by rw [List.getElem?_set_ne (Ne.symm hij)]; exact ho
    obtain ⟨pb, xb, eb, hb, rb, nb⟩ := own_at r2 ho'
    rw [e1] at eb
    cases eb
    obtain ⟨r3, v3⟩ := r2.mut ho' e1 (rb.append (.cons ru .nil))
    have hk2 : (k : Int) < 2 ^ 63 := by
      have : k < 100000 := Nat.lt_of_lt_of_le hk hxl
      omega
    refine ⟨p', xa, (k : Int), k, u, rfl, rfl, ha, by omega, hk2, PySem.seqIndex_of (by omega) (by omega), hu, p, xb, u, rfl, rfl, hb, ll' (by rw [rb.length]; exact hl2), o.nx σ _ F1 _ m1 r3 (((r.evo f1).trans v2).trans v3) q1⟩
end
end G
namespace G
open PySem L2
def D.isL : D → Bool | .lst _ => true | _ => false
def D.isS : D → Bool | .str _ => true | _ => false
def MtD (K : PySem.W.Frag) (g : Gp) (r : V → List V → Hp → VK → Prop) (f : D → List D → Option D) : Prop := ∀ (c : Option Addr) (F H : Hp) (x : D) (xs : List D) (z : D) (v : V) (vs : List V) (Q' : VK), Ex F H → (∀ a, c = some a → F a = none) →
  RepT K g c F H x v → RepTs K g c F H xs vs → f x xs = some z → (∀ v' H' F', New F H F' H' → Rep K g F' z v' → Q' v' H') → r v vs H Q'
def dMt (p : D → Bool) (f : D → List D → Option D) (d : DE) (dl : DL) : DE := fun env m Q => d env m fun x m1 => p x = true ∧ dl env m1 fun xs m2 => ∃ z, f x xs = some z ∧ Q z m2
section
variable {K : PySem.W.Frag} {g : Gp} {X : Cx} {e o : Expr} {es : List Expr} {dl : DL} {d : DE} {pos apos cpos p : Pos} {x : Str}
theorem mt_weak {T : String} {P : D → Bool} {r : V → List V → Hp → VK → Prop} {f : D → List D → Option D} (md : MtD X.K g r f) (ty : ∀ (c : Option Addr) (F H : Hp) (x : D) (v : V), P x = true → RepT X.K g c F H x v → tyV X.K T v H) :
    ∀ σ H Q, tD X.K g (dMt P f d dl) σ H Q → tBM X.K T r (tB X.K g d) (tAb X.K g dl) σ H Q := fun σ H Q ⟨c, F, env, m, Q1, rl, hd, k⟩ =>
  ⟨c, F, env, m, _, rl, hd, fun v H1 F1 m1 x r1 f1 rp ⟨hp, q1⟩ => ⟨ty c F1 H1 x v hp rp, c, F1, env, m1, _, r1, q1, fun vs H2 F2 m2 xs r2 f2 rps ⟨z, hz, q2⟩ =>
    md c F2 H2 x xs z v vs Q r2.sub r2.nc (rp.mono f2) rps hz fun v' H' F' n rp' => k v' H' F' m2 z (r2.new n) ((f1.trans f2).trans (n.fresh r2.ck)) rp' q2⟩⟩
theorem ty_str {c : Option Addr} {F H : Hp} {x : D} {v : V} (h : x.isS = true) (r : RepT K g c F H x v) : tyV K "str" v H := by
  cases x with
  | str s => rw [r.str']; exact rfl
  | _ => cases h
theorem ge_mtS {name : Str} {id : String} {r : V → List V → Hp → VK → Prop} {f : D → List D → Option D} (slot : Slot "str" name id) (hty : typeOf (.builtin id) = pure (.type "method_descriptor")) (hm : MtR X id r) (md : MtD X.K g r f) (ho : GB g X o d) (ha : GAb g X (e :: es) dl)
    (hbase : attributeBase o name X.env (eval o X.env) = eval o X.env := by rfl)
    (hfew : ((backTo cpos (starEach (e :: es) X.env)).all (fun x => !x.1) && (backToKw cpos (keywordEach [] X.env)).all (fun x => x.1.isSome) && decide ((e :: es).length + ([] : List Keyword).length + (if ([] : List Keyword).isEmpty then 0 else 1) < 30)) = true := by rfl)
    (hline : (apos.endLine == cpos.line) = true := by rfl) (hs : starEach (e :: es) X.env = (false, eval e X.env) :: starEach es X.env := by rfl) (hplain : (backTo cpos (starEach es X.env)).any (·.1) = false := by rfl) :
    GE g X (.Call (.Attribute o name apos) (e :: es) [] cpos) (dMt D.isS f d dl) := PE.weak (pe_bm PySem.F.plainAttrs_str slot hty hm ho ha hbase hfew hline hs hplain) (mt_weak md fun _ _ _ _ _ => ty_str)
def strsD : List D → Option (List Str)
  | [] => some []
  | .str s :: r => (strsD r).map (s :: ·)
  | _ :: _ => none
theorem strsD_map : ∀ {ds : List D} {bs : List Str}, strsD ds = some bs → ds = bs.map D.str
  | [], _, h => by cases h; rfl
  | .str b :: r, bs, h => by
    obtain ⟨cs, h1, rfl⟩ := Option.map_eq_some_iff.mp h
    rw [strsD_map h1]; rfl
  | .non :: _, _, h => by cases h
  | .int _ :: _, _, h => by cases h
  | .bl _ :: _, _, h => by cases h
  | .tup _ :: _, _, h => by cases h
  | .lst _ :: _, _, h => by cases h
  | .dic _ :: _, _, h => by cases h
  | .web _ _ :: _, _, h => by cases h
  | .fn _ :: _, _, h => by cases h
  | .exc _ _ _ :: _, _, h => by cases h
  | .dit _ :: _, _, h => by cases h
theorem strsD_of (bs : List Str) : strsD (bs.map D.str) = some bs := by
  induction bs with
  | nil => rfl
  | cons b r ih => rw [List.map_cons]; unfold strsD; rw [ih]; rfl
def joinOk (a : Str) (ys : List Str) : Bool := decide ((ys.map (·.length)).sum + ys.length * a.length ≤ 16777216)
def joinD : D → List D → Option D
  | .str a, [.lst ds] => (strsD ds).bind fun ys => if joinOk a ys then some (.str (Txt.join a ys)) else none
  | .str a, [.tup ds] => (strsD ds).bind fun ys => if joinOk a ys then some (.str (Txt.join a ys)) else none
  | _, _ => none
theorem md_join : MtD K g (fun x xs H Q => ∃ a p, ∃ ys : List Str, x = .str a ∧ xs = [.ref p] ∧ (SqL K H p (ys.map V.str) ∨ SqT K H p (ys.map V.str)) ∧
    (ys.map (·.length)).sum + ys.length * a.length ≤ 16777216 ∧ Q (.str (Txt.join a ys)) H) joinD := fun c F H x xs z v vs Q' e nc rx rs hz k => by
  unfold joinD at hz
  split at hz
  · obtain ⟨ys, h1, h2⟩ := Option.bind_eq_some_iff.mp hz
    split at h2
    · rename_i ok
      cases h2
      have := strsD_map h1
      subst this
      cases rs with
      | cons h t =>
        cases t
        obtain ⟨p, ws, rfl, g1, g2, _⟩ := h
        have := repL_strs g2
        subst this
        exact ⟨_, p, ys, rx.str', rfl, .inl (SqL.of g1), of_decide_eq_true ok, k _ H F (New.refl e) (.str _)⟩
    · cases h2
  · obtain ⟨ys, h1, h2⟩ := Option.bind_eq_some_iff.mp hz
    split at h2
    · rename_i ok
      cases h2
      have := strsD_map h1
      subst this
      cases rs with
      | cons h t =>
        cases t
        obtain ⟨p, ws, rfl, g1, g2⟩ := h.tup'
        have := repL_strs g2
        subst this
        exact ⟨_, p, ys, rx.str', rfl, .inr (Evl.ex_t e g1), of_decide_eq_true ok, k _ H F (New.refl e) (.str _)⟩
    · cases h2
  · cases hz
def D.fv : D → Option V | .non => some .non | .bl b => some (.bl b) | .int i => some (.int i) | .str s => some (.str s) | _ => none
def flats : List D → Option (List V)
  | [] => some []
  | d :: r => d.fv.bind fun v => (flats r).map (v :: ·)
def indexD : D → List D → Option D
  | .lst ds, [x] => (flats ds).bind fun vs => x.fv.bind fun v => (vs.findIdx? fun z => eqV z v).map fun (i : Nat) => .int i
  | _, _ => none
def dPl (d : DE) : DE := fun env m Q => d env m fun x m1 => ∃ pl ts, x = .web pl ts ∧ Q (.str pl) m1
def dTs (d : DE) : DE := fun env m Q => d env m fun x m1 => ∃ pl ts, x = .web pl ts ∧ Q (.tup (ts.map D.str)) m1
theorem ge_places (hc : Cls X.K g.Cw) (hn : NoAttr X.K g.Cw "places") (he : GE g X e d) (hb : attributeBase e "places" X.env (eval e X.env) = eval e X.env := by rfl) : GE g X (.Attribute e "places" pos) (dPl d) :=
  PE.weak (pe_fld he hb) fun σ H Q ⟨c, F, env, m, Q1, rl, hd, k⟩ => ⟨c, F, env, m, _, rl, hd, fun v H1 F1 m1 x r1 f1 rp ⟨pl, ts, ex, q⟩ => by
    subst ex
    cases rp with
    | web h1 h2 => exact ⟨_, _, _, _, _, rfl, r1.sub _ _ h1, hc, hn, rfl, k _ H1 F1 m1 _ r1 f1 (.str _) q⟩⟩
theorem ge_ties (hc : Cls X.K g.Cw) (hn : NoAttr X.K g.Cw "ties") (he : GE g X e d) (hb : attributeBase e "ties" X.env (eval e X.env) = eval e X.env := by rfl) : GE g X (.Attribute e "ties" pos) (dTs d) :=
  PE.weak (pe_fld he hb) fun σ H Q ⟨c, F, env, m, Q1, rl, hd, k⟩ => ⟨c, F, env, m, _, rl, hd, fun v H1 F1 m1 x r1 f1 rp ⟨pl, ts, ex, q⟩ => by
    subst ex
    cases rp with
    | web h1 h2 => exact ⟨_, _, _, _, _, rfl, r1.sub _ _ h1, hc, hn, rfl, k _ H1 F1 m1 _ r1 f1 (.tup h2 (repL_of_strs _)) q⟩⟩
def tyD (g : Gp) : D → Value
  | .non => .type "NoneType" | .bl _ => .type "bool" | .int _ => .type "int" | .str _ => .type "str" | .tup _ => .type "tuple" | .lst _ => .type "list" | .dic _ => .type "dict" | .web _ _ => .ref g.Cw | .fn _ => .type "function" | .exc n _ _ => .ref (g.ex n) | .dit _ => .none
structure WebTy (K : PySem.W.Frag) (g : Gp) : Prop where
  cls : Cls K g.Cw
  ha : PySem.W.findIn K (.ref g.Cw) "__class__" = some (some (.builtin "object.__class__"))
  hn : PySem.W.specialIn K (.builtin "object.__class__") "__get__" = some (some (.builtin "getset_descriptor.__get__"))
  htk : PySem.W.takesIn K (.builtin "object.__class__") = true
  hm : PySem.W.mroIn K g.Cw (.type "object") = some true
theorem tyx_tup {H : Hp} {a : Addr} {xs : List V} (h : SqT K H a xs) : TyX K H (.ref a) (.type "tuple") := by
  rcases h with (h | ⟨o, h⟩) | ⟨o, its, n, h1, h2, _⟩
  · exact .base (.tup h)
  · exact .fTuple h
  · exact .kTuple h1 h2
theorem tyx_of (W : WebTy K g) {c : Option Addr} {F H : Hp} {x : D} {v : V} (e : Ex F H) (r : RepT K g c F H x v) (nf : (∀ L, x ≠ .fn L) ∧ (∀ n f d, x ≠ .exc n f d) ∧ ∀ k, x ≠ .dit k) : TyX K H v (tyD g x) := by
  cases x with
  | fn L => exact absurd rfl (nf.1 L)
  | exc n f d => exact absurd rfl (nf.2.1 n f d)
  | dit k => exact absurd rfl (nf.2.2 k)
  | non => rw [r.non']; exact .base .non
  | bl b => rw [r.bl']; exact .base (.bl b)
  | int b => rw [r.int']; exact .base (.int b)
  | str b => rw [r.str']; exact .base (.str b)
  | tup ds => obtain ⟨a, xs, rfl, h1, _⟩ := r.tup'; exact tyx_tup (Evl.ex_t e h1)
  | lst ds => obtain ⟨a, xs, rfl, h1, _⟩ := r; exact .base (.lst h1)
  | dic ds => obtain ⟨a, xs, rfl, h1, _⟩ := r.dic'; exact .base (.dK h1)
  | web p t => obtain ⟨a, _, _, rfl, h1, _⟩ := r.web'; exact .base (.ins (e _ _ h1) W.cls W.ha W.hn W.htk W.hm)
def dIsi (f : D → Option Bool) (d : DE) : DE := fun env m Q => d env m fun x m1 => ∃ b, f x = some b ∧ Q (.bl b) m1
theorem ge_isi {cx : Expr} {cv : V} {u : Value} {f : D → Option Bool} (W : WebTy X.K g) (cl : ClsV cv u) (hcx : PE X cx (tC cv)) (hf : ∀ x b, f x = some b → PySem.W.kitOne X.K (tyD g x) u = some b) (hg : Gl X "isinstance") (hm : X.mg "isinstance" = none)
    (he : GB g X e d) (hnf : (∀ L, f (.fn L) = none) ∧ (∀ n u d, f (.exc n u d) = none) ∧ ∀ k, f (.dit k) = none := by exact ⟨fun _ => rfl, fun _ _ _ => rfl, fun _ => rfl⟩) (hs : starEach [e, cx] X.env = (false, eval e X.env) :: starEach [cx] X.env := by rfl) (hs2 : starEach [cx] X.env = (false, eval cx X.env) :: starEach [] X.env := by rfl) :
    GE g X (.Call (.Name "isinstance" p) [e, cx] [] pos) (dIsi f d) :=
  PE.weak (pe_callB call_isi hg hm rfl (pa_cons he (pa_cons hcx pa_nil hs2) hs) (by decide) (by decide) hs (by rw [hs2]; rfl)) fun σ H Q ⟨c, F, env, m, Q1, rl, hd, k⟩ =>
    ⟨c, F, env, m, _, rl, hd, fun v H1 F1 m1 x r1 f1 rp ⟨b, hb, q⟩ => ⟨v, cv, _, u, b, rfl, cl, tyx_of W r1.sub rp ⟨fun L z => (by rw [z, hnf.1] at hb; cases hb), fun n u d z => (by rw [z, hnf.2.1] at hb; cases hb), fun k z => (by rw [z, hnf.2.2] at hb; cases hb)⟩, hf x b hb, k _ H1 F1 m1 _ r1 f1 (.bl b) q⟩⟩
def isStrD : D → Option Bool | .str _ => some true | _ => none
def isTupD : D → Option Bool | .tup _ => some true | _ => none
def isWebD : D → Option Bool | .web _ _ => some true | _ => none
theorem sIx_nat (n i : Nat) : HT.sIx n 0 (some (i : Int)) = min i n := by
  unfold HT.sIx
  simp
  omega
def intsD : List D → Option (List Int)
  | [] => some []
  | .int i :: r => (intsD r).map (i :: ·)
  | _ :: _ => none
end
end G
namespace G
open PySem L2
section
variable {g : Gp} {X : Cx} {a b : Expr} {d : DE} {dl dl2 : DL} {pos : Pos}
theorem not_own {K : PySem.W.Frag} {c : Option Addr} {F H : Hp} {env : Env'} {m : Nat} {σ : St} {p : Addr} (r : Rel K g c F env m σ H) (h : H p = none) : ¬ Own env σ p := fun z => by
  obtain ⟨_, _, y⟩ := r.ownH z
  rw [h] at y; cases y
end
def spLen (K : PySem.W.Frag) (g : Gp) : Sp := fun vs H Q _ => ∃ (a dx t : Addr) (pl : Str) (ts : List Str), vs = [.ref a] ∧ H a = some (.ins g.Cw dx [("places", .str pl), ("ties", .ref t)]) ∧ SqT K H t (ts.map V.str) ∧ Q (.int (ts.length : Nat)) H
section
variable {g : Gp} {X : Cx} {k : Nat} {f : Addr} {fd : FuncData} {ps : List Str}
theorem cr_lenW (F : FnOk X.prog X.w X.K X.mg X.base CX0 k f fd ps (spLen X.K g)) (hr : Room (k + 1) X.A) (hs : PySem.W.findIn X.K (.ref g.Cw) "__len__" = some (some (.ref f))) (hf : PySem.W.isFn X.K (.ref f) = true) (hb : Binds X.K fd ps []) : CallR X (.builtin "len") (rLenW X.K g.Cw) := by
  intro pins s σ H xs us Q I r h
  obtain ⟨a, dx, t, pl, ts, rfl, ha, ht, q⟩ := h
  obtain ⟨u, rfl, ru⟩ := vals1 r
  cases ru
  obtain ⟨mA, J, _⟩ := ins_get I.hok ha
  obtain ⟨od, J, _⟩ := J.look
  obtain ⟨m, hF⟩ := I.fr
  obtain ⟨its, rv, _, hz⟩ := I.tuple ht
  rw [List.length_map] at hz
  refine PySem.W.len_K hF I.ok.mod.kin J hs hf ?_
  have hsp : spLen X.K g [.ref a] H (fun v H' => v = .int (ts.length : Nat) ∧ Ex H H') E0 := ⟨a, dx, t, pl, ts, rfl, ha, ht, rfl, fun _ _ h => h⟩
  have e0 : Env0 X.prog X.w X.K X.mg X.base X.A.in1 X.stack s H := by
    have e := I.env0
    exact ⟨e.frames, e.mod, e.bs, e.bsz, e.funs, e.frf, e.hok, e.bare⟩
  have hl := F.len _ _ _ _ hsp
  have r2 : Vals [V.ref a] [Value.ref a] := .cons rfl .nil
  refine wpAny_call (codeAny_mono (F.run X.A.in1 X.stack s H ⟨[.ref a], []⟩ [.ref a] [.ref a] _ E0 hr.in1 e0 (by
    have := hb s [.ref a] I.kIn (by simpa using hl)
    simpa using this) r2 hsp) fun r s' hq => ?_)
  cases r with
  | error e => exact hq.elim
  | ok fl =>
    cases fl with
    | ret w =>
      obtain ⟨z, H', I', rz, ez, ex⟩ := I.after hq
      subst ez
      obtain ⟨tk, rfl⟩ := rz
      refine ⟨⟨by omega, ?_⟩, .int (ts.length : Nat), H', I'.tok _, ⟨_, rfl⟩, q H' ex⟩
      have hh := sizeLine_eq
      omega
    | next => exact False.elim hq
    | brk => exact False.elim hq
    | cont => exact False.elim hq
theorem cr_len : CallR X (.builtin "len") (rLen X.K) := call_len
end
end G
namespace G
open PySem L2
def D.key : D → Option Key | .int i => some (.inl i) | .str s => some (.inr s) | _ => none
def putKey (ks : List Key) (k : Key) : List Key := if (ks.any fun x => decide (x = k)) = true then ks else ks ++ [k]
theorem putK_keys (kvs : List (Key × V)) (k : Key) (v : V) : (putK kvs k v).map (·.1) = putKey (kvs.map (·.1)) k := by
  unfold putK putKey
  have e : ((kvs.map (·.1)).any fun x => decide (x = k)) = (kvs.any fun kv => decide (kv.1 = k)) := by rw [List.any_map]; rfl
  rw [e]
  split
  · rw [List.map_map]
    refine List.map_congr_left fun p _ => ?_
    show (if p.1 = k then (p.1, v) else p).1 = p.1
    split <;> rfl
  · rw [List.map_append]; rfl
def DkR (f : D → Env' → Option Env') (dk dv : DE) (env : Env') : List D → Nat → List Key → (List Key → Nat → Prop) → Prop
  | [], m, ks, Q => Q ks m
  | d :: ds, m, ks, Q => ∃ env2, f d env = some env2 ∧ dk env2 m fun x m1 => dv env2 m1 fun _ m2 => ∃ k, x.key = some k ∧ DkR f dk dv env ds m2 (putKey ks k) Q
def dLenDc (di : DL) (f : D → Env' → Option Env') (dk dv : DE) (vs : List Nat) : DE := fun env m Q => di env m fun its m1 => its.length ≤ LL ∧ DkR f dk dv (wipeE env vs) its m1 [] fun ks m2 => Q (.int (ks.length : Nat)) m2
section
variable {g : Gp} {X : Cx} {kx vx tg iter : Expr} {scope : Scope} {own : List (Str × Nat)} {pos p dpos : Pos} {di : DL} {T : TG} {f : D → Env' → Option Env'} {js : List Nat} {dk dv : DE}
theorem key_rep {K : PySem.W.Frag} {F : Hp} {x : D} {v : V} {k : Key} (h : x.key = some k) (r : Rep K g F x v) : v = kV k := by
  cases x <;> simp only [D.key] at h <;> first | (cases h; cases r; rfl) | cases h
theorem dc_weak (vs : List Nat) (hj : ∀ j ∈ js, j ∈ vs) (hg : ∀ (c : Option Addr) (F : Hp) (env : Env') (m : Nat) (σ : St) (H : Hp) (d : D) (v : V) (env2 : Env') (Q : St → Hp → Prop), Rel X.K g c F env m σ H → Rep X.K g F d v → f d env = some env2 →
    (∀ σ2, Rel X.K g c F env2 m σ2 H → (∀ a, Own env2 σ2 a → Own env σ a) → σ2.length = σ.length → (∀ i, i ∉ js → σ2[i]? = σ[i]?) → Q σ2 H) → T v σ H Q) :
    ∀ σ H Q, tD X.K g (dLenDc di f dk dv vs) σ H Q → tCB (fun xs H Q => ∃ a kvs, xs = [V.ref a] ∧ H a = some (.dK kvs) ∧ Q (.int kvs.length) H) (tCons (tDc (tI X.K g true di) T (tT X.K g dYes) (tD X.K g dk) (tD X.K g dv) vs) tNil) σ H Q := fun σ H Q ⟨c, F, env, m, Q1, r, h, k⟩ =>
  ⟨c, F, env, m, _, r, h, fun J H1 F1 m1 its lk r1 f1 _ hk w ⟨hz, q⟩ => fun Dl hD => by
    have nD : F1 Dl = none := ex_none r1.sub hD
    have cD : c ≠ some Dl := fun z => by obtain ⟨_, xs, e, _⟩ := r1.ck Dl z; rw [hD] at e; cases e
    refine ⟨fun i kk H' => ∃ F' m' kvs, kk = its.length - i ∧ i ≤ its.length ∧ Fresh c F1 H1 F' H' ∧ Ck g c m' F' H' ∧ F' Dl = none ∧ H' Dl = some (.dK kvs) ∧ kvs.length ≤ i ∧ DkR f dk dv (wipeE env vs) (its.drop i) m' (kvs.map (·.1)) (fun ks m3 => Q1 (.int (ks.length : Nat)) m3), ⟨its.length, F1, m1, [], rfl, Nat.zero_le _, ?_, ?_, nD, upd_same, Nat.le_refl _, q⟩, ?_⟩
    · have n := New.lay (F := F1) (o := .dK []) r1.sub hD
      exact n.fresh r1.ck
    · exact r1.ck.new (New.lay r1.sub hD)
    · rintro i kk H' ⟨F', m', kvs, rfl, hi, fr, ck, nF, hA, lA, q'⟩
      have r' := r1.fresh fr ck
      have lk' : ∀ p ∈ lk, H' p.1 = some p.2 := fun p hp => fr.hh p.1 p.2 (hk p hp).1 (hk p hp).2.1 (hk p hp).2.2
      obtain ⟨go, stop⟩ := w i F' H' fr.ff r'.sub lk'
      by_cases hlt : i < its.length
      · have hd : its[i]? = some its[i] := List.getElem?_eq_getElem hlt
        rw [List.drop_eq_getElem_cons hlt] at q'
        obtain ⟨g1, g2⟩ := go _ hd
        obtain ⟨env2, e2, q2⟩ := q'
        refine .inr ⟨g1, fun H2 => ∃ F2 m2 kvs2, Fresh c F1 H1 F2 H2 ∧ Ck g c m2 F2 H2 ∧ F2 Dl = none ∧ H2 Dl = some (.dK kvs2) ∧ kvs2.length ≤ i + 1 ∧ DkR f dk dv (wipeE env vs) (its.drop (i + 1)) m2 (kvs2.map (·.1)) (fun ks m3 => Q1 (.int (ks.length : Nat)) m3), fun H2 ⟨F2, m2, kvs2, a1, a2, a3, a4, a6, a7⟩ => ⟨its.length - (i + 1), by omega, F2, m2, kvs2, rfl, by omega, a1, a2, a3, a4, a6, a7⟩, fun x H3 y => ?_⟩
        obtain ⟨F3, n3, rp3⟩ := g2 x H3 y
        have r3 := (r'.wipe vs).new n3
        have fr3 := fr.trans (n3.fresh ck)
        have ck3 := ck.new n3
        refine hg c F3 _ m' _ H3 _ x env2 _ r3 rp3 e2 fun σ4 r4 o4 l4 a4 => ⟨?_, ?_⟩
        · refine Eq.trans (wipe_same l4 fun j hj' => a4 j fun z => hj' (hj j z)) (wipe_wipe σ vs)
        · have keep : ∀ {F5 H5 : Hp}, Fresh c F3 H3 F5 H5 → F5 Dl = none ∧ H5 Dl = some (.dK kvs) := fun {F5 H5} f5 => by
            have h3 : H3 Dl = some (.dK kvs) := n3.hh _ _ hA
            refine ⟨?_, f5.hh _ _ h3 cD⟩
            cases z : F5 Dl with
            | none => rfl
            | some o =>
              rcases f5.new Dl o z with y | y
              · rcases n3.new Dl o y with u | u
                · rw [nF] at u; cases u
                · rw [hA] at u; cases u
              · rw [h3] at y; cases y
          refine ⟨c, F3, env2, m', _, r4, (show dYes env2 m' fun b m5 => b = true ∧ dk env2 m5 fun x m1 => dv env2 m1 fun _ m2 => ∃ k, x.key = some k ∧ DkR f dk dv (wipeE env vs) (its.drop (i + 1)) m2 (putKey (kvs.map (·.1)) k) (fun ks m3 => Q1 (.int (ks.length : Nat)) m3) from ⟨rfl, q2⟩), fun b H5 F5 m5 r5 f5 ⟨hb, q5⟩ => ?_⟩
          subst hb
          refine ⟨c, F5, env2, m5, _, r5, q5, fun v6 H6 F6 m6 y6 r6 f6 rp6 q6 => ⟨c, F6, env2, m6, _, r6, q6, fun v7 H7 F7 m7 y7 r7 f7 rp7 ⟨key, hkey, q7⟩ => ?_⟩⟩
          obtain ⟨k1, k2⟩ := keep ((f5.trans f6).trans f7)
          have fr6 := ((fr3.trans f5).trans f6).trans f7
          refine ⟨kvs, key, key_rep hkey rp6, k2, ll' (by omega), F7, m7, putK kvs key v7, ⟨fr6.ff, fun a o z => ?_, fun a o z n => ?_, fr6.new, fr6.nc⟩, ⟨fun a z => ?_, TabF.upd r7.ck.tb k2 rfl no_code⟩, k1, upd_same, ?_, ?_⟩
          · have : a ≠ Dl := fun e => by subst e; rw [k1] at z; cases z
            rw [upd_ne this]; exact fr6.fh a o z
          · have : a ≠ Dl := fun e => by subst e; rw [hD] at z; cases z
            rw [upd_ne this]; exact fr6.hk a o z n
          · have : a ≠ Dl := fun e => by subst e; exact cD z
            obtain ⟨b1, xs, b2, b3⟩ := r7.ck a z
            exact ⟨b1, xs, by rw [upd_ne this]; exact b2, b3⟩
          · have e1 := congrArg List.length (putK_keys kvs key v7)
            rw [List.length_map] at e1
            rw [e1]
            unfold putKey
            split
            · rw [List.length_map]; omega
            · rw [List.length_append, List.length_map, List.length_singleton]; omega
          · rw [putK_keys]; exact q7
      · have hi' : i = its.length := by omega
        rw [List.drop_eq_nil_of_le (by omega)] at q'
        have q'' : Q1 (.int ((kvs.map (·.1)).length : Nat)) m' := q'
        rw [List.length_map] at q''
        exact .inl ⟨stop hi', Dl, kvs, rfl, hA, k _ H' F' m' _ r' (f1.trans fr) (.int _) q''⟩⟩
theorem ge_lenDc (hc : X.calm = true) (hN : X.N.Nodup) (hi : GI true g X tg iter di) (ok : BlkOk X.N X.env.scope scope own)
    (hg : ∀ (s : Shared) (H : Hp) (C : Addr) (cl : List (Str × Addr)) (fp : List Addr), GG g (X.blk s H scope (compEnvC scope cl C X.env) fp) tg T f js)
    (hk : ∀ (s : Shared) (H : Hp) (C : Addr) (cl : List (Str × Addr)) (fp : List Addr), GE g (X.blk s H scope (compEnvC scope cl C X.env) fp) kx dk) (he : ∀ (s : Shared) (H : Hp) (C : Addr) (cl : List (Str × Addr)) (fp : List Addr), GE g (X.blk s H scope (compEnvC scope cl C X.env) fp) vx dv)
    (hgl : Gl X "len") (hm : X.mg "len" = none) (hj : ∀ j ∈ js, j ∈ own.map (·.2) := by decide) (hs : ∀ x, foldedSetIterable iter X.env x = pure x := by intro _; rfl)
    (hs1 : starEach [.DictComp kx vx [⟨tg, iter, [], 0⟩] scope dpos] X.env = (false, eval (.DictComp kx vx [⟨tg, iter, [], 0⟩] scope dpos) X.env) :: starEach [] X.env := by rfl) :
    GE g X (.Call (.Name "len" p) [.DictComp kx vx [⟨tg, iter, [], 0⟩] scope dpos] [] pos) (dLenDc di f dk dv (own.map (·.2))) :=
  ⟨fun pins s σ H Q I q => (pe_callB call_lenD hgl hm PySem.boot_len (pa_cons (pe_dc (wi := tI X.K g true di) (g := T) (tt := tT X.K g dYes) (tk := tD X.K g dk) (tv := tD X.K g dv) hc hN hi ok (fun s H C cl fp => (hg s H C cl fp).pg) (fun s H C cl fp => gts_nil) (fun s H C cl fp => hk s H C cl fp) (fun s H C cl fp => he s H C cl fp) hs) pa_nil hs1) (by decide) (by decide) hs1 rfl).run pins s σ H Q I (dc_weak (T := T) _ hj (hg s H 0 [] []).ok σ H Q q)⟩
end
end G
namespace G
open PySem L2
section
variable {g : Gp} {X : Cx} {a b e : Expr} {d : DE} {dl dl2 : DL} {pos : Pos}
def revS (z : Str) : Str := ⟨z.cps.toList.reverse.toArray⟩
def dRev (d : DE) : DE := fun env m Q => d env m fun x m1 => ∃ z, x = .str z ∧ z.length ≤ LL ∧ Q (.str (revS z)) m1
theorem ge_rev {k : Nat} {p1 p2 p3 : Pos} (he : GE g X e d) : GE g X (.Subscript e (.Slice none none (some (.UnaryOp .USub (.Constant (.int 1) k p1) p2)) p3) pos) (dRev d) := PE.weak (pe_revS he) fun σ H Q ⟨c, F, env, m, Q1, rl, hd, kk⟩ =>
  ⟨c, F, env, m, _, rl, hd, fun v H1 F1 m1 x r1 f1 rp ⟨z, ex, hz, q⟩ => by
    subst ex
    cases rp
    exact ⟨z, rfl, hz, kk _ H1 F1 m1 _ r1 f1 (.str _) q⟩⟩
theorem kit_same {K : PySem.W.Frag} {C : Addr} : PySem.W.kitOne K (.ref C) (.ref C) = some true := by
  unfold PySem.W.kitOne
  rw [if_pos]
  simp
end
end G
namespace G
open PySem L2
section
variable {g : Gp} {X : Cx} {pos p1 : Pos}
theorem ge_negI {i : Int} {k : Nat} : GE g X (.UnaryOp .USub (.Constant (.int i) k p1) pos) (dC (.int (-i))) := PE.weak (pe_un un_neg pe_int) fun σ H Q ⟨c, F, env, m, Q1, r, q, kk⟩ => ⟨i, rfl, kk _ H F m _ r (Fresh.refl r.sub r.ck) (.int _) q⟩
theorem mono_var (i : Nat) : ∀ env m Q Q', (∀ y m', Q y m' → Q' y m') → dVar i env m Q → dVar i env m Q' := fun _ _ _ _ h ⟨d, hd, q⟩ => ⟨d, hd, h _ _ q⟩
end
end G
namespace G
open PySem L2
section
variable {g : Gp} {X : Cx} {elt kx vx tg iter : Expr} {ifs : List Expr} {scope : Scope} {own : List (Str × Nat)} {pos p dpos : Pos} {di : DL} {T : TG} {f : D → Env' → Option Env'} {js vs : List Nat} {dt : DT} {de dk dv : DE}
abbrev AllB (X : Cx) (scope : Scope) (Z : Cx → Prop) : Prop := ∀ (s : Shared) (H : Hp) (C : Addr) (cl : List (Str × Addr)) (fp : List Addr), Z (X.blk s H scope (compEnvC scope cl C X.env) fp)
theorem gn_lc' (hc : X.calm = true) (hN : X.N.Nodup) (hi : GI true g X tg iter di) (ok : BlkOk X.N X.env.scope scope own) (hg : AllB X scope fun Y => GG g Y tg T f js) (ht : AllB X scope fun Y => GTs g Y ifs dt) (he : AllB X scope fun Y => GE g Y elt de)
    (hv : own.map (·.2) = vs := by rfl) (hj : ∀ j ∈ js, j ∈ own.map (·.2) := by decide) (hs : ∀ x, foldedSetIterable iter X.env x = pure x := by intro _; rfl) : GN g X (.ListComp elt [⟨tg, iter, ifs, 0⟩] scope pos) (dLc di f dt de vs) := by
  subst hv; exact gn_lc hc hN hi ok hg ht he hj hs
theorem gs_setLc' {i : Nat} {y : Str} {py spos : Pos} (hc : X.calm = true) (hN : X.N.Nodup) (hy : X.N[i]? = some y) (hyl : X.env.scope.names.lookup y = some .local)
    (hsw : swapsWith (.ListComp elt [⟨tg, iter, ifs, 0⟩] scope pos) (some (.Name y py)) spos.line X.env = pure true) (hi : GI true g X tg iter di) (ok : BlkOk X.N X.env.scope scope own) (hg : AllB X scope fun Y => GG g Y tg T f js) (ht : AllB X scope fun Y => GTs g Y ifs dt) (he : AllB X scope fun Y => GE g Y elt de)
    (hv : own.map (·.2) = vs := by rfl) (hj : ∀ j ∈ js, j ∈ own.map (·.2) := by decide) (hs : ∀ x, foldedSetIterable iter X.env x = pure x := by intro _; rfl) : GS g X (.Assign [.Name y py] (.ListComp elt [⟨tg, iter, ifs, 0⟩] scope pos) spos) (dAsg i (dNew (dLc di f dt de vs))) := by
  subst hv; exact gs_setLc hc hN hy hyl hsw hi ok hg ht he hj hs
theorem ge_lenDc' (hc : X.calm = true) (hN : X.N.Nodup) (hi : GI true g X tg iter di) (ok : BlkOk X.N X.env.scope scope own) (hg : AllB X scope fun Y => GG g Y tg T f js) (hk : AllB X scope fun Y => GE g Y kx dk) (he : AllB X scope fun Y => GE g Y vx dv)
    (hgl : Gl X "len") (hm : X.mg "len" = none) (hv : own.map (·.2) = vs := by rfl) (hj : ∀ j ∈ js, j ∈ own.map (·.2) := by decide) (hs : ∀ x, foldedSetIterable iter X.env x = pure x := by intro _; rfl)
    (hs1 : starEach [.DictComp kx vx [⟨tg, iter, [], 0⟩] scope dpos] X.env = (false, eval (.DictComp kx vx [⟨tg, iter, [], 0⟩] scope dpos) X.env) :: starEach [] X.env := by rfl) :
    GE g X (.Call (.Name "len" p) [.DictComp kx vx [⟨tg, iter, [], 0⟩] scope dpos] [] pos) (dLenDc di f dk dv vs) := by
  subst hv; exact ge_lenDc hc hN hi ok hg hk he hgl hm hj hs hs1
end
end G
namespace G
open PySem L2
theorem gg_tupK {g : Gp} {X : Cx} {pos : Pos} (K : PySem.W.Frag) {tgs : List Expr} {Gs : TGs} {fs : List D → Env' → Option Env'} {js : List Nat} {k n : Nat} (hc : X.calm = true) (h : GGs g X tgs Gs fs js) (hK : X.K = K := by rfl) (hn : (assignEach tgs X.env).length = n := by rfl) (hst : (assignEach tgs X.env).findIdx? (·.1) = none := by rfl) :
    GG g X (.Tuple tgs k pos) (gTup K n Gs) (tgT fs n) js := by subst hK; exact gg_tup hc h hn hst
end G
namespace G
open PySem L2
section
variable {prog : Program} {w : World} {A : Around} {E : Value → Shared → Prop}
theorem draw_walk {it : Addr} {fp wr : List Addr} {N : Nat} {Pv : Nat → Value → Prop} {St : Nat → Heap → Prop} (W : Walks prog w A it fp wr N Pv St) : ∀ (n i : Nat) (s : Shared) (Q : List Value → Shared → Prop), i + n ≤ N → St i s.heap →
    (∀ vs h' tk, vs.length = n → (∀ (j : Nat) (v : Value), vs[j]? = some v → Pv (i + j) v) → St (i + n) h' → (∀ b o, b ∉ wr → s.heap.get? b = some o → h'.get? b = some o) → Q vs { s with heap := h', toks := tk }) →
    wpAny (model prog w) A (draw (.ref it) n) Q E s
  | 0, i, s, Q, _, st, hQ => by
    have q0 := hQ [] s.heap s.toks rfl (fun j v h => by simp at h) st (fun _ _ _ h => h)
    unfold draw
    exact wpAny_pure q0
  | n + 1, i, s, Q, hi, st, hQ => by
    unfold draw
    refine wpAny_bind (W.item i s _ _ (by omega) st fun v h' tk hP st' hk => ?_)
    refine wpAny_bind (wpAny_holding (draw_walk W n (i + 1) { s with heap := h', toks := tk } _ (by omega) st' fun vs h2 tk2 hl hv st2 hk2 => wpAny_pure ?_))
    refine hQ (v :: vs) h2 tk2 (by rw [List.length_cons, hl]) (fun j u hj => ?_) (by rw [show i + (n + 1) = i + 1 + n by omega]; exact st2) (fun b o nb e => hk2 b o nb (hk b o nb e))
    cases j with
    | zero => simp at hj; subst hj; exact hP
    | succ j =>
      have := hv j u (by simpa using hj)
      rw [show i + (j + 1) = i + 1 + j by omega]; exact this
theorem walks_text (hh : A.handled = none) (it : Addr) (x : Str) (t : Tok) : Walks prog w A it [it] [it] x.cps.size (SignAt x) (fun i h => h.IsStrIter it (strIterType x) x t i) := by
  cases ha : x.cps.all (· < 128)
  · simp only [strIterType, ha, Bool.false_eq_true, if_false]
    exact .strWide hh it x t
  · simp only [strIterType, ha, if_true]
    exact .strAscii hh it x t
theorem unpack_text {s : Shared} {x : Str} {t : Tok} {Q : List Value → Shared → Prop} (hh : A.handled = none)
    (hQ : ∀ vs h' tk, vs.length = x.length → (∀ (j : Nat) (v : Value), vs[j]? = some v → SignAt x j v) → (∀ b o, s.heap.get? b = some o → h'.get? b = some o) → Q vs { s with heap := h', toks := tk }) : wpAny (model prog w) A (unpackItems (.str x t) x.length none) Q E s := by
  unfold unpackItems
  refine wpAny_bind ?_
  unfold notIterableAtAll
  refine wpAny_bind (wpAny_specialOf (typeIs_str _ _ _) PySem.F.slot_str_iter.lookup ?_)
  refine wpAny_pure ?_
  simp only [Bool.false_eq_true, if_false]
  refine wpAny_bind (wpAny_holding (wpAny_pyIter_strU ?_))
  have W := walks_text (prog := prog) (w := w) hh s.heap.objs.size x t
  refine wpAny_bind (wpAny_holding (draw_walk W x.length 0 _ _ (by show 0 + x.cps.size ≤ x.cps.size; omega) ⟨_, Heap.get?_push_size _ rfl, rfl, rfl⟩ fun vs h1 tk1 hl hv st hk => ?_))
  rw [if_neg (by omega)]
  have st' : h1.IsStrIter s.heap.objs.size (strIterType x) x t x.cps.size := by
    have : 0 + x.length = x.cps.size := by show 0 + x.cps.size = _; omega
    rw [this] at st; exact st
  refine wpAny_bind (wpAny_holding (W.done _ _ _ st' fun h2 tk2 hk2 => ?_))
  simp only [Option.isSome_none, Bool.false_eq_true, if_false]
  refine wpAny_pure (hQ vs h2 tk2 hl (fun j v h => by have := hv j v h; rwa [Nat.zero_add] at this) fun b o e => ?_)
  have nb : b ∉ [s.heap.objs.size] := by
    simp
    exact Nat.ne_of_lt (Heap.lt_size e)
  exact hk2 b o nb (hk b o nb (Heap.get?_push_of_some _ e))
end
def gTupS (n : Nat) (t : TGs) : TG := fun v σ H Q => ∃ z : Str, v = .str z ∧ z.length = n ∧ t (chars z) σ H Q
theorem pg_tupS {X : Cx} {es : List Expr} {k n : Nat} {t : TGs} {pos : Pos} (hc : X.calm = true) (h : PGs X es t) (hn : (assignEach es X.env).length = n := by rfl) (hst : (assignEach es X.env).findIdx? (·.1) = none := by rfl) : PG X (.Tuple es k pos) (gTupS n t) := by
  refine ⟨fun pins s σ H v u Q I r hw => ?_⟩
  obtain ⟨z, rfl, hz, hw⟩ := hw
  obtain ⟨tk, rfl⟩ := r
  rw [arm_assign_Tuple]
  refine wpAny_bind (wpAny_standAt ?_)
  unfold unpack
  rw [hst, hn, ← hz]
  refine wpAny_bind (wpAny_holding (unpack_text (I.ok.hd hc) fun vs h' tk' hl hv hk => ?_))
  have I1 : Inv X pins σ H { s with heap := h', toks := tk' } := I.kept hk
  refine h.run pins _ σ H (chars z) vs Q I1 ?_ hw
  have := vals_chars (x := z) (acc := vs.toArray) ⟨by rw [List.size_toArray, hl]; rfl, fun j v e => hv j v (by simpa using e)⟩
  simpa using this
def tgTS (fs : List D → Env' → Option Env') (n : Nat) : D → Env' → Option Env' := fun d env => match d with | .str z => if z.length = n then fs (charsD z) env else none | _ => none
theorem gg_tupS {g : Gp} {X : Cx} {pos : Pos} {tgs : List Expr} {Gs : TGs} {fs : List D → Env' → Option Env'} {js : List Nat} {k n : Nat} (hc : X.calm = true) (h : GGs g X tgs Gs fs js) (hn : (assignEach tgs X.env).length = n := by rfl) (hst : (assignEach tgs X.env).findIdx? (·.1) = none := by rfl) :
    GG g X (.Tuple tgs k pos) (gTupS n Gs) (tgTS fs n) js := ⟨pg_tupS hc h.pg hn hst, fun c F env m σ H d v env2 Q r rp e kk => by
  cases d with
  | str z =>
    simp only [tgTS] at e
    split at e
    · rename_i hl
      cases rp
      exact ⟨z, rfl, hl, h.ok c F env m σ H (charsD z) (chars z) env2 Q r (chars_rep z) e kk⟩
    · cases e
  | _ => cases e⟩
end G
namespace G
open PySem L2
abbrev DO := Env' → Nat → (Option Int → Nat → Prop) → Prop
def dNoP : DO := fun _ m Q => Q none m
def dP (d : DE) : DO := fun env m Q => d env m fun x m1 => ∃ i, x = .int i ∧ Q (some i) m1
def tOd (K : PySem.W.Frag) (g : Gp) (d : DO) : TO := fun σ H Q' => ∃ c F env m Q, Rel K g c F env m σ H ∧ d env m Q ∧ ∀ o H' F' m', Rel K g c F' env m' σ H' → Fresh c F H F' H' → Q o m' → Q' o H'
def GO (g : Gp) (X : Cx) (e : Option Expr) (d : DO) : Prop := PO X e (tOd X.K g d)
def cutL {α : Type} (xs : List α) (lo hi : Option Int) : List α := (xs.drop (HT.sIx xs.length 0 lo)).take (HT.sIx xs.length xs.length hi - HT.sIx xs.length 0 lo)
def sliceD : D → Option Int → Option Int → Option D
  | .str z, lo, hi => if z.length ≤ LL then some (.str (cutS z lo hi)) else none
  | .tup ds, lo, hi => some (.tup (cutL ds lo hi))
  | .lst ds, lo, hi => some (.lst (cutL ds lo hi))
  | _, _, _ => none
def dSlice (d : DE) (dl dh : DO) : DE := fun env m Q => d env m fun x m1 => dl env m1 fun lo m2 => dh env m2 fun hi m3 => ∃ z, sliceD x lo hi = some z ∧ Q z m3
section
variable {K : PySem.W.Frag} {g : Gp} {X : Cx} {e : Expr} {d : DE} {lo hi : Option Expr} {dl dh : DO} {pos p2 : Pos}
theorem PO.weak {t t' : TO} (h : PO X lo t) (w : ∀ σ H Q, t' σ H Q → t σ H Q) : PO X lo t' := ⟨fun pins s σ H Q I q => h.run pins s σ H Q I (w σ H Q q)⟩
theorem go_none : GO g X none dNoP := PO.weak po_none fun σ H Q ⟨c, F, env, m, Q1, r, h, k⟩ => k none H F m r (Fresh.refl r.sub r.ck) h
theorem go_some (he : GE g X e d) : GO g X (some e) (dP d) := PO.weak (po_some he) fun σ H Q ⟨c, F, env, m, Q1, r, h, k⟩ => ⟨c, F, env, m, _, r, h, fun v H1 F1 m1 x r1 f1 rp ⟨i, ex, q⟩ => by
  subst ex
  cases rp
  exact ⟨i, rfl, k _ H1 F1 m1 r1 f1 q⟩⟩
theorem RepL.cut {F : Hp} {ds : List D} {xs : List V} (h : RepL K g F ds xs) (lo hi : Option Int) : RepL K g F (cutL ds lo hi) (cutV xs lo hi) := by
  unfold cutL cutV
  rw [h.length]
  exact (h.drop _).take _
theorem cutL_whole {α : Type} {xs : List α} {lo hi : Option Int} (h1 : HT.sIx xs.length 0 lo = 0) (h2 : HT.sIx xs.length xs.length hi = xs.length) : cutL xs lo hi = xs := by
  unfold cutL
  rw [h1, h2, List.drop_zero, Nat.sub_zero, List.take_length]
theorem ge_slice (he : GB g X e d) (hl : GO g X lo dl) (hh : GO g X hi dh) : GE g X (.Subscript e (.Slice lo hi none p2) pos) (dSlice d dl dh) :=
  PE.weak (pe_slice (SlR.or sl_str (SlR.or sl_tupA sl_list)) he hl hh) fun σ H Q ⟨c, F, env, m, Q1, r, h, k⟩ =>
    ⟨c, F, env, m, _, r, h, fun v H1 F1 m1 x r1 f1 rp q1 => ⟨c, F1, env, m1, _, r1, q1, fun l H2 F2 m2 r2 f2 q2 => ⟨c, F2, env, m2, _, r2, q2, fun u H3 F3 m3 r3 f3 ⟨z, hz, q3⟩ => by
      have rp3 := (rp.mono f2).mono f3
      have fr := (f1.trans f2).trans f3
      cases x with
      | str s =>
        simp only [sliceD] at hz
        split at hz
        · rename_i hs
          cases hz
          rw [rp3.str']
          exact .inl ⟨s, rfl, ll hs, k _ H3 F3 m3 _ r3 fr (.str _) q3⟩
        · cases hz
      | tup ds =>
        cases hz
        obtain ⟨a, xs, rfl, h1, h2⟩ := rp3.tup'
        refine .inr (.inl ⟨a, xs, rfl, Evl.ex_t r3.sub h1, fun ⟨w1, w2⟩ => ?_, fun _ p hp => ?_⟩)
        · rw [h2.length] at w1 w2
          rw [cutL_whole w1 w2] at q3
          exact k _ H3 F3 m3 _ r3 fr (.tup h1 h2) q3
        · have n := New.fix (o := .tup (cutV xs l u)) r3.sub hp
          exact k _ _ _ m3 _ (r3.new n) (fr.trans (n.fresh r3.ck)) (.tup (SqT.of upd_same) ((h2.cut l u).mono n.ff)) q3
      | lst ds =>
        cases hz
        obtain ⟨a, xs, rfl, h1, h2, _⟩ := rp3
        refine .inr (.inr ⟨a, xs, rfl, SqL.of h1, fun p hp => ?_⟩)
        have n := New.fix (o := .lst (cutV xs l u)) r3.sub hp
        exact k _ _ _ m3 _ (r3.new n) (fr.trans (n.fresh r3.ck)) (.lst upd_same ((h2.cut l u).mono n.ff)) q3
      | _ => cases hz⟩⟩⟩
theorem ObR.fix {F F' : Hp} {d : D} {u : HO} {p : Addr} (h : ObR K g F p d u) (hp : F' p = some u) (e : Ex F F') : Rep K g F' d (.ref p) := by
  cases d with
  | lst ds => obtain ⟨xs, rfl, h2⟩ := h; exact .lst hp (RepL.mono e h2)
  | dic kds => obtain ⟨kvs, rfl, h2, h3⟩ := h; exact .dic hp h2 (RepL.mono e h3)
  | dit kds => obtain ⟨o, xs, rfl, h1, h2, h3, h4⟩ := h; exact .dit hp h1 h2 (fun x hx => Evl.ex_t e (h3 x hx)) (RepL.mono e h4)
  | _ => exact h.elim
theorem Rel.holdS {c : Option Addr} {F H F' : Hp} {env : Env'} {m : Nat} {σ : St} {i : Nat} {s : Sl} {d : D} {v : V} (r : Rel K g c F env m σ H) (ho : env[i]? = some s) (ex : Ex F F') (sub : Ex F' H) (hF : ∀ a u, F' a = some u → F a = some u ∨ a ∈ s.adr σ[i]?) (hv : σ[i]? = some (some v)) (rp : Rep K g F' d v) :
    Rel K g c F' (env.set i (.val d)) m σ H ∧ Evo c (Own env σ) F H (Own (env.set i (.val d)) σ) F' H := by
  have hi : i < env.length := (List.getElem?_eq_some_iff.mp ho).1
  have sl := r.slot i s ho
  have none' : ∀ {a : Addr}, F a = none → a ∉ s.adr σ[i]? → F' a = none := fun {a} h1 h2 => by
    cases q : F' a with
    | none => rfl
    | some u =>
      rcases hF a u q with z | z
      · rw [h1] at z; cases z
      · exact absurd z h2
  have nc : ∀ a, c = some a → F' a = none := fun a z => none' (r.nc a z) fun y => (sl.at y).2.1 z
  have ne_own : ∀ (j : Nat) (sj : Sl) (a : Addr), (env.set i (.val d))[j]? = some sj → a ∈ sj.adr σ[j]? → i ≠ j ∧ env[j]? = some sj := fun j sj a h hm => by
    by_cases q : i = j
    · subst q; rw [List.getElem?_set_self hi] at h; cases h; simp [Sl.adr] at hm
    · rw [List.getElem?_set_ne q] at h; exact ⟨q, h⟩
  refine ⟨⟨sub, by rw [List.length_set]; exact r.len, fun j sj h => ?_, fun j k sj sk a e1 e2 e3 e4 => r.sep j k sj sk a (ne_own j sj a e1 e3).2 (ne_own k sk a e2 e4).2 e3 e4, ⟨fun a z => ?_, r.ck.tb.mono ex fun p hp => none' (r.ck.tb.nf p hp) fun y => (by
      obtain ⟨_, _, u, h1, h2, _⟩ := sl.at' y
      obtain ⟨ps, h3⟩ := r.ck.tb.at hp
      rw [h1] at h3
      cases h3
      cases h2)⟩⟩, ex, sub, fun a o h _ _ => .of h, fun a o z => ?_, nc, fun a ⟨j, sj, e1, e2⟩ => ?_⟩
  · by_cases q : i = j
    · subst q
      rw [List.getElem?_set_self hi] at h
      cases h
      exact ⟨v, hv, rp⟩
    · rw [List.getElem?_set_ne q] at h
      have w := r.slot j sj h
      exact w.keep ex fun a hm => ⟨none' (w.at hm).1 fun z => q (r.sep i j s sj a ho h z hm), rfl⟩
  · obtain ⟨b1, ys, b2, b3⟩ := r.ck a z
    exact ⟨nc a z, ys, b2, b3⟩
  · rcases hF a o z with y | y
    · exact .inl y
    · exact .inr (.inr ⟨i, s, ho, y⟩)
  · obtain ⟨q, h⟩ := ne_own j sj a e1 e2
    exact ⟨r.ownc a ⟨j, sj, h, e2⟩, .inl ⟨j, sj, h, e2⟩⟩
theorem Rel.freezeW {c : Option Addr} {F H : Hp} {env : Env'} {m : Nat} {σ : St} {i : Nat} {ds : D} (r : Rel K g c F env m σ H) (ho : env[i]? = some (.ow ds)) :
    ∃ F', Rel K g c F' (env.set i (.val ds)) m σ H ∧ Evo c (Own env σ) F H (Own (env.set i (.val ds)) σ) F' H := by
  obtain ⟨p, xs, hs, h1, h2, h3, h4⟩ := r.slot i _ ho
  refine ⟨upd F p xs, r.holdS ho (Evl.Ex.new h1) (fun a o z => ?_) (fun a u z => ?_) hs (h3.fix upd_same (Evl.Ex.new h1))⟩
  · by_cases y : a = p
    · subst y; rw [upd_same] at z; rw [← z]; exact h2
    · rw [upd_ne y] at z; exact r.sub a o z
  · by_cases y : a = p
    · subst y; exact .inr (by rw [hs]; simp [Sl.adr])
    · rw [upd_ne y] at z; exact .inl z
theorem Rel.freeze {c : Option Addr} {F H : Hp} {env : Env'} {m : Nat} {σ : St} {i : Nat} {ds : List D} (r : Rel K g c F env m σ H) (ho : env[i]? = some (.own ds)) :
    ∃ F', Rel K g c F' (env.set i (.val (.lst ds))) m σ H ∧ Evo c (Own env σ) F H (Own (env.set i (.val (.lst ds))) σ) F' H := r.freezeW ho
def dFreeze (i : Nat) (s : DS) : DS := fun env m E => ∃ ds, env[i]? = some (.own ds) ∧ s (env.set i (.val (.lst ds))) m E
theorem fr_weak {i : Nat} {s : DS} : ∀ D σ H, tSD K g (dFreeze i s) D σ H → tSD K g s D σ H := fun D σ H ⟨c, F, env, m, E, r, ⟨ds, ho, h⟩, o⟩ => by
  obtain ⟨F', r', v⟩ := r.freeze ho
  exact ⟨c, F', _, m, E, r', h, o.shift v⟩
theorem gs_freeze (i : Nat) {st : Stmt} {s : DS} (h : GS g X st s) : GS g X st (dFreeze i s) := PS.weak h fr_weak
end
end G
namespace G
open PySem L2
abbrev Calm (A : Around) : Prop := A.guards = some []
structure FnG (P : Program) (w : World) (K : PySem.W.Frag) (mg : Str → Option Value) (base : Heap) (k : Nat) (f : Addr) (fd : FuncData) (ps : List Str) (sp : Sp) : Prop where
  len : ∀ vs H Q E, sp vs H Q E → vs.length = ps.length
  run : ∀ (A : Around) (outer : List Env) (s : Shared) (H : Hp) (args : Args) (us : List Value) (vs : List V) (Q : VK) (E : XK), Room k A → Calm A → Env0 P w K mg base A outer s H → BindsTo s fd args (ps.zip us) → Vals vs us → sp vs H Q E →
    codeAny (model P w) A (.call (.ref f) args) (CR CX0 outer P w H s Q E) s
theorem FnG.of {P : Program} {w : World} {K : PySem.W.Frag} {mg : Str → Option Value} {base : Heap} {k : Nat} {f : Addr} {fd : FuncData} {ps : List Str} {sp : Sp} (F : FnOk P w K mg base CX0 k f fd ps sp) : FnG P w K mg base k f fd ps sp :=
  ⟨F.len, fun A outer s H args us vs Q E hr _ => F.run A outer s H args us vs Q E hr⟩
section
variable {P : Program} {w : World} {K : PySem.W.Frag} {mg : Str → Option Value} {base : Heap} {g : Gp}
theorem fng_ok {x qual : Str} {st : Stmt} {f : Addr} {fd : FuncData} {N ps : List Str} {k : Nat} {sp : Sp} (F : Fun K x qual st f fd) (SC : FnScope N ps (defScope st)) (len : ∀ vs H Q E, sp vs H Q E → vs.length = ps.length)
    (body : ∀ (cdv : Value) (A : Around) (outer : List Env) (s : Shared) (H : Hp) (vs : List V) (Q : VK) (E : XK), Room k (A.deeper (PyProof.Rows.envOfC qual (defScope st) s.heap.objs.size f cdv)) → Calm (A.deeper (PyProof.Rows.envOfC qual (defScope st) s.heap.objs.size f cdv)) → sp vs H Q E →
      ∃ t, PSs (cxOf CX0 P w K mg base N qual (defScope st) f cdv A outer s H E).nox (defBody st) t ∧ t { nx := fun _ H' => Q .non H', rt := Q } (L2.start N vs) H) : FnG P w K mg base (k + 1) f fd ps sp := by
  obtain ⟨oc, od, kV, doc, pm, an, cdv, ct, osl, rfl, lk, hcd⟩ := F.ex
  refine ⟨len, fun A outer s H args us vs Q E room calm env0 bind vals want => ?_⟩
  have l0 := len _ _ _ _ want
  have kin : K.In s.heap := env0.mod.kin.keeps fun b o z => (env0.bs b o z).1
  have nolim : s.heap.NoLimit := env0.mod.nolimit.keeps fun b o z => (env0.bs b o z).1
  have kinds : ∀ y ∈ ps.zip us, (defScope st).names.lookup y.1 = some .local ∨ ((defScope st).names.lookup y.1 = some .cell ∧ ((cellsFrom (s.heap.objs.size + 1) (defScope st).names []).lookup y.1).isSome = true) := by
    rintro ⟨n, v⟩ hy
    exact (SC.par n (List.of_mem_zip hy).1).imp id fun c => ⟨c, PySem.W.cellsFrom_some _ _ _ (.inl c)⟩
  refine codeAny_call_function room.depth (kin _ _ lk) rfl SC.co SC.gen rfl (PySem.W.codeRec_of kin hcd) (bind _ _ _ _ ?_)
  refine wpAny_newFunctionEnv_cells SC.kind kinds fun env he s1 inside => ?_
  subst he
  refine ⟨nolim.keeps inside.toInCall.keep, codeAny_func ?_⟩
  obtain ⟨t, ht, good⟩ := body cdv A outer s H vs Q E (room.deeper _) calm want
  have I0 : Inv (cxOf CX0 P w K mg base N qual (defScope st) f cdv A outer s H E) [] (L2.start N vs) H s1 := inv_start SC room.hd env0 l0 vals inside
  refine wpAny_mono (ht.nox.run [] s1 (L2.start N vs) H _ I0 good) (fun fl s' res => ?_) fun e s' res => res
  cases fl with
  | ret u =>
    obtain ⟨v, σ', H', J, rv, q⟩ := res
    exact ⟨v, H', J.os, J.bare, J.base, J.hok, rv, q⟩
  | next =>
    obtain ⟨σ', H', J, q⟩ := res
    exact ⟨.non, H', J.os, J.bare, J.base, J.hok, rfl, q⟩
  | brk => exact res.choose_spec.choose_spec.2.elim
  | cont => exact res.choose_spec.choose_spec.2.elim
end
end G
namespace G
open PySem L2
end G
namespace G
open PySem L2
section
variable {g : Gp} {X : Cx} {k : Nat} {f : Addr} {fd : FuncData} {ps : List Str} {S : Spec} {x : Str} {p pos : Pos} {e : Expr} {es : List Expr} {da : DA}
theorem pe_callG {sp : Sp} {t : TA} (F : FnG X.prog X.w X.K X.mg X.base k f fd ps sp) (hr : Room k X.A) (hc : Calm X.A) (hg : Gl X x) (hm : X.mg x = some (.ref f)) (hk : PySem.W.keepIn X.K (.ref f) = true) (hb : Binds X.K fd ps []) (ha : PA X (e :: es) t)
    (hdb : (x == ("__debug__" : Str)) = false := by decide) (he : starEach (e :: es) X.env = (false, eval e X.env) :: starEach es X.env := by rfl) (hpl : (backTo pos (starEach es X.env)).any (·.1) = false := by rfl) :
    PE X (.Call (.Name x p) (e :: es) [] pos) (tCall sp [] E0 t) := by
  refine ⟨fun pins s σ H Q I h => ?_⟩
  refine wpAny_Call_Name_kw (ld_glob I hg hm ?_ hdb)
  refine PySem.W.callWith_K (h₀ := X.base) I.ok.mod.kin hk (thn (ha.run pos pins s σ H _ I h) fun us s1 ⟨vs, H1, I1, rv, q⟩ => ⟨I1.kIn, ?_⟩) he hpl
  have q : sp (vs ++ []) H1 Q E0 := q
  rw [List.append_nil] at q
  have hl : us.length = ps.length := by rw [← rv.length]; exact F.len _ _ _ _ q
  have hb' := hb s1 us I1.kIn (by simpa using hl)
  rw [List.append_nil] at hb'
  refine wpAny_call (codeAny_mono (F.run X.A X.stack s1 H1 ⟨us, []⟩ us vs Q E0 hr hc I1.env0 hb' rv q) fun r s' res => ?_)
  cases r with
  | error z => exact res.elim
  | ok fl =>
    cases fl with
    | ret u => exact I1.after res
    | next => exact False.elim res
    | brk => exact False.elim res
    | cont => exact False.elim res
end
end G
namespace G
open PySem L2
end G
namespace G
open PySem L2
section
variable {P : Program} {w : World} {K : PySem.W.Frag} {mg : Str → Option Value} {base : Heap} {g : Gp}
theorem def_okG {x qual : Str} {st : Stmt} {f : Addr} {fd : FuncData} {N ps : List Str} {k : Nat} {S : Spec} (F : Fun K x qual st f fd) (SC : FnScope N ps (defScope st)) (len : ∀ as m Q, S as m Q → as.length = ps.length)
    (body : ∀ (cdv : Value) (A : Around) (outer : List Env) (s : Shared) (H : Hp) (E : XK), Room k (A.deeper (PyProof.Rows.envOfC qual (defScope st) s.heap.objs.size f cdv)) → Calm (A.deeper (PyProof.Rows.envOfC qual (defScope st) s.heap.objs.size f cdv)) →
      ∃ d, GSs g (cxOf CX0 P w K mg base N qual (defScope st) f cdv A outer s H E).nox (defBody st) d ∧ ∀ as m Q, S as m Q → d (pad N as) m { nx := fun _ m' => Q .non m', rt := Q }) :
    FnG P w K mg base (k + 1) f fd ps (spOf K g S) := by
  refine fng_ok F SC (fun vs H Q E h => ?_) (fun cdv A outer s H vs Q E hr calm h => ?_)
  · obtain ⟨c, F1, as, m, Q', _, ar, _, hs, _⟩ := h
    rw [← ar.length]; exact len as m Q' hs
  · obtain ⟨c, F1, as, m, Q', ex, ar, ck, hs, kk⟩ := h
    obtain ⟨d, gs, hd⟩ := body cdv A outer s H E hr calm
    obtain ⟨rel, no⟩ := start_rel (N := N) ex ar ck
    have toF : ∀ {O' : Addr → Prop} {F' H' : Hp}, Evo c (Own (pad N as) (L2.start N vs)) F1 H O' F' H' → Fresh c F1 H F' H' := fun v => ⟨v.ff, v.fh, fun a o h n => v.hk a o h n (no a), fun a o h => (v.new a o h).imp id fun z => z.elim id fun y => (no a y).elim, v.nc⟩
    refine ⟨_, gs, c, F1, _, m, _, rel, hd as m Q' hs, ⟨fun σ' H' F' env' m' r' v q => kk .non H' F' m' .non (toF v) r'.ck .non q, fun _ _ _ _ _ _ _ q => q.elim, fun _ _ _ _ _ _ _ q => q.elim, fun v H' F' m' y ck' ev rp q => kk v H' F' m' y (toF ev) ck' rp q⟩⟩
end
end G
namespace G
open PySem L2
open PySem.W (dataLe AllAlike Sortable EachIs dataLt alike alikeAll)
def D.isT : D → Bool | .tup _ => true | _ => false
theorem zip_dp {K : PySem.W.Frag} {g : Gp} {F H : Hp} (e : Ex F H) : ∀ {es : List D} {ys : List V}, RepL K g F es ys → es.all (·.okd 60) = true → ∀ q ∈ ys.zip (es.map D.py), Dp K H q.1 q.2 ∧ q.2.depth ≤ 60
  | _, _, .nil, _, q, hq => by simp at hq
  | d :: r, _, .cons h1 t1, o, q, hq => by
    simp only [List.all_cons, Bool.and_eq_true] at o
    simp only [List.map_cons, List.zip_cons_cons, List.mem_cons] at hq
    rcases hq with rfl | hq
    · exact ⟨rep_dp e d 60 _ o.1 h1, (okd_lay d 60 o.1).2⟩
    · exact zip_dp e t1 o.2 q hq
end G
namespace G
open PySem L2
def tNw (K : PySem.W.Frag) (g : Gp) (d : DE) : TE := fun σ H Q' => ∃ c F env m Q, Rel K g c F env m σ H ∧ d env m Q ∧
  ∀ p H' F' m' x u, Rel K g c F' env m' σ H' → Fresh c F H F' H' → H p = none → F' p = none → c ≠ some p → H' p = some u → ObR K g F' p x u → Q x m' → Q' (.ref p) H'
def GNw (g : Gp) (X : Cx) (e : Expr) (d : DE) : Prop := PE X e (tNw X.K g d)
section
variable {g : Gp} {X : Cx} {a b e : Expr} {es : List Expr} {d : DE} {dl : DL} {dr : DA} {pos : Pos}
theorem gnw_n (h : GN g X e dl) : GNw g X e (dNew dl) := PE.weak h fun σ H Q ⟨c, F, env, m, Q1, r, hd, k⟩ => ⟨c, F, env, m, _, r, hd, fun p H' F' m' ds xs r' f h0 hp hc h1 h2 q => k p H' F' m' (.lst ds) _ r' f h0 hp hc h1 (show ObR X.K g F' p (.lst ds) (.lst xs) from ⟨xs, rfl, h2⟩) q⟩
def ownA : List Sl → List V → List Addr
  | s :: ss, v :: vs => s.adr (some (some v)) ++ ownA ss vs
  | _, _ => []
inductive ItR (K : PySem.W.Frag) (g : Gp) (c : Option Addr) (H0 F H : Hp) : List Sl → List V → Prop
  | nil : ItR K g c H0 F H [] []
  | cons {s : Sl} {v : V} {ss : List Sl} {vs : List V} : SlR K g c F H s (some (some v)) → (∀ a ∈ s.adr (some (some v)), H0 a = none ∧ a ∉ ownA ss vs) → ItR K g c H0 F H ss vs → ItR K g c H0 F H (s :: ss) (v :: vs)
theorem ItR.own {K : PySem.W.Frag} {c : Option Addr} {H0 F H : Hp} : ∀ {ss : List Sl} {vs : List V}, ItR K g c H0 F H ss vs → ∀ p ∈ ownA ss vs, H0 p = none ∧ c ≠ some p
  | _, _, .nil, p, h => by simp [ownA] at h
  | _, _, .cons h1 h2 t, p, h => by
    simp only [ownA, List.mem_append] at h
    rcases h with h | h
    · exact ⟨(h2 p h).1, (h1.at h).2.1⟩
    · exact t.own p h
theorem ItR.length {K : PySem.W.Frag} {c : Option Addr} {H0 F H : Hp} : ∀ {ss : List Sl} {vs : List V}, ItR K g c H0 F H ss vs → vs.length = ss.length
  | _, _, .nil => rfl
  | _, _, .cons _ _ t => by rw [List.length_cons, List.length_cons, t.length]
theorem len2 {α : Type} {l : List α} (h : l.length = 2) : ∃ a b, l = [a, b] := by
  match l, h with
  | [a, b], _ => exact ⟨a, b, rfl⟩
theorem len3 {α : Type} {l : List α} (h : l.length = 3) : ∃ a b c, l = [a, b, c] := by
  match l, h with
  | [a, b, c], _ => exact ⟨a, b, c, rfl⟩
theorem ItR.lower {K : PySem.W.Frag} {c : Option Addr} {H0 H1 F H : Hp} (k : ∀ p, H1 p = none → c ≠ some p → H0 p = none) : ∀ {ss : List Sl} {vs : List V}, ItR K g c H1 F H ss vs → ItR K g c H0 F H ss vs
  | _, _, .nil => .nil
  | _, _, .cons h1 h2 t => .cons h1 (fun a ha => ⟨k a (h2 a ha).1 (h1.at ha).2.1, (h2 a ha).2⟩) (t.lower k)
theorem ItR.up {K : PySem.W.Frag} {c : Option Addr} {H0 F H H' : Hp} (e : Ex H H') : ∀ {ss : List Sl} {vs : List V}, ItR K g c H0 F H ss vs → ItR K g c H0 F H' ss vs
  | _, _, .nil => .nil
  | _, _, .cons h1 h2 t => .cons (h1.keep (fun _ _ z => z) fun a ha => by
      obtain ⟨q1, _, u, q2⟩ := h1.at ha
      exact ⟨q1, by rw [q2, e a u q2]⟩) h2 (t.up e)
def tMx (K : PySem.W.Frag) (g : Gp) (d : DA) : TA := fun σ H Q' => ∃ c F env m Q, Rel K g c F env m σ H ∧ d env m Q ∧
  ∀ vs H' F' m' ss, Rel K g c F' env m' σ H' → Fresh c F H F' H' → ItR K g c H F' H' ss vs → Q ss m' → Q' vs H'
def GMx (g : Gp) (X : Cx) (es : List Expr) (d : DA) : Prop := PA X es (tMx X.K g d)
def dConsW (d : DE) (r : DA) : DA := fun env m Q => d env m fun x m1 => r env m1 fun as m2 => Q (.ow x :: as) m2
theorem fresh_back {c : Option Addr} {F H F' H' : Hp} (f : Fresh c F H F' H') : ∀ p, H' p = none → c ≠ some p → H p = none := fun p h hc => by
  cases y : H p with
  | none => rfl
  | some u => exact (f.sm y hc h).elim
theorem gmx_nil : GMx g X [] dNilA := PA.weak pa_nil fun σ H Q ⟨c, F, env, m, Q1, rl, hd, k⟩ => k [] H F m [] rl (Fresh.refl rl.sub rl.ck) .nil hd
theorem gmx_val (ha : GE g X e d) (hr : GMx g X es dr) (hs : starEach (e :: es) X.env = (false, eval e X.env) :: starEach es X.env := by rfl) : GMx g X (e :: es) (dConsA d dr) := PA.weak (pa_cons ha hr hs) fun σ H Q ⟨c, F, env, m, Q1, rl, hd, k⟩ =>
  ⟨c, F, env, m, _, rl, hd, fun v H1 F1 m1 x r1 f1 rp q1 => ⟨c, F1, env, m1, _, r1, q1, fun vs H2 F2 m2 as r2 f2 it q2 => k _ H2 F2 m2 _ r2 (f1.trans f2) (.cons (s := .val x) ⟨v, rfl, rp.mono f2.ff⟩ (fun a ha => by simp [Sl.adr] at ha) (it.lower (fresh_back f1))) q2⟩⟩
theorem gmx_new (ha : GNw g X e d) (hr : GMx g X es dr) (hs : starEach (e :: es) X.env = (false, eval e X.env) :: starEach es X.env := by rfl) : GMx g X (e :: es) (dConsW d dr) := PA.weak (pa_cons ha hr hs) fun σ H Q ⟨c, F, env, m, Q1, rl, hd, k⟩ =>
  ⟨c, F, env, m, _, rl, hd, fun p H1 F1 m1 x u r1 f1 h0 hp hc hu ob q1 => ⟨c, F1, env, m1, _, r1, q1, fun vs H2 F2 m2 as r2 f2 it q2 => by
    have nF : F2 p = none := by
      cases z : F2 p with
      | none => rfl
      | some o =>
        rcases f2.new p o z with y | y
        · rw [hp] at y; cases y
        · rw [hu] at y; cases y
    exact k _ H2 F2 m2 _ r2 (f1.trans f2) (.cons (s := .ow x) ⟨p, u, rfl, nF, f2.hh _ _ hu hc ob.nt, ob.mono f2.ff, hc⟩ (fun a ha => by
      rw [show (Sl.ow x).adr (some (some (.ref p))) = [p] from rfl, List.mem_singleton] at ha
      subst ha
      exact ⟨h0, fun z => by rw [(it.own a z).1] at hu; cases hu⟩) (it.lower (fresh_back f1))) q2⟩⟩
def setE : Env' → List Nat → List Sl → Env'
  | env, i :: is, s :: ss => setE (env.set i s) is ss
  | env, _, _ => env
def setS : St → List Nat → List V → St
  | σ, i :: is, v :: vs => setS (σ.set i (some v)) is vs
  | σ, _, _ => σ
theorem items_set {K : PySem.W.Frag} {c : Option Addr} {H0 F H : Hp} {m : Nat} : ∀ {ss : List Sl} {vs : List V} (is : List Nat) {env : Env'} {σ : St}, ItR K g c H0 F H ss vs → Rel K g c F env m σ H → (∀ p ∈ ownA ss vs, ¬ Own env σ p) →
    Rel K g c F (setE env is ss) m (setS σ is vs) H ∧ ∀ a, Own (setE env is ss) (setS σ is vs) a → Own env σ a ∨ a ∈ ownA ss vs
  | _, _, [], env, σ, it, r, _ => by
    cases it <;> exact ⟨by simpa [setE, setS] using r, fun a h => .inl (by simpa [setE, setS] using h)⟩
  | _, _, i :: is, env, σ, .nil, r, _ => ⟨r, fun a h => .inl h⟩
  | _, _, i :: is, env, σ, .cons hs h2 t, r, no => by
    have r1 := r.setS (i := i) (fun a ha => no a (by simp [ownA, ha])) hs
    obtain ⟨h1, h3⟩ := items_set is t r1 fun q hq z => by
      rcases own_set1 r.len z with z | z
      · exact (h2 q z).2 hq
      · exact no q (by simp [ownA, hq]) z
    refine ⟨h1, fun a h => ?_⟩
    rcases h3 a h with z | z
    · rcases own_set1 r.len z with z | z
      · exact .inr (by simp [ownA, z])
      · exact .inl z
    · exact .inr (by simp [ownA, z])
theorem items_end {K : PySem.W.Frag} {c : Option Addr} {F H F1 H1 : Hp} {m m1 : Nat} {env : Env'} {σ : St} {ss : List Sl} {vs : List V} (is : List Nat) (r : Rel K g c F env m σ H) (r1 : Rel K g c F1 env m1 σ H1) (f1 : Fresh c F H F1 H1) (it : ItR K g c H F1 H1 ss vs) :
    Rel K g c F1 (setE env is ss) m1 (setS σ is vs) H1 ∧ Evo c (Own env σ) F H (Own (setE env is ss) (setS σ is vs)) F1 H1 := by
  obtain ⟨h1, h2⟩ := items_set is it r1 fun p hp => not_own r (it.own p hp).1
  have v := r.evo f1
  refine ⟨h1, v.ff, v.fh, v.hk, v.new, v.nc, fun a z => ?_⟩
  rcases h2 a z with y | y
  · exact v.own a y
  · exact ⟨(it.own a y).2, .inr (it.own a y).1⟩
def dMix (is : List Nat) (d : DA) : DS := fun env m E => d env m fun ss m1 => ss.length = is.length ∧ E.nx (setE env is ss) m1
theorem gs_mix2 {i j : Nat} {x y : Str} {px py pt : Pos} {kt k2 pt2} (hc : X.calm = true) (hN : X.N.Nodup) (hi : X.N[i]? = some x) (hj : X.N[j]? = some y) (hij : i ≠ j)
    (hx : X.env.scope.names.lookup x = some .local) (hy : X.env.scope.names.lookup y = some .local) (ha : GMx g X [a, b] dr)
    (hw : swappedStores [.Tuple [.Name x px, .Name y py] kt pt] (.Tuple [a, b] k2 pt2) X.env = pure (some [x, y]))
    (hs : swapsWithSole [.Tuple [.Name x px, .Name y py] kt pt] (.Tuple [a, b] k2 pt2) pos.line X.env = pure false := by rfl) :
    GS g X (.Assign [.Tuple [.Name x px, .Name y py] kt pt] (.Tuple [a, b] k2 pt2) pos) (dMix [i, j] dr) := PS.weak (ps_par hc hN hi hj hij hx hy ha hw hs) fun D σ H ⟨c, F, env, m, E, r, h, o⟩ =>
  ⟨c, F, env, m, _, r, h, fun vs H1 F1 m1 ss r1 f1 it ⟨hl, q⟩ => by
    obtain ⟨ra, ev⟩ := items_end [i, j] r r1 f1 it
    obtain ⟨v1, v2, rfl⟩ := len2 (it.length.trans hl)
    obtain ⟨s1, s2, rfl⟩ := len2 hl
    exact ⟨v1, v2, rfl, o.nx _ H1 F1 _ m1 ra ev q⟩⟩
theorem gs_mix3 {cc : Expr} {i j l : Nat} {x y z : Str} {px py pz pt : Pos} {kt k2 pt2} (hc : X.calm = true) (hN : X.N.Nodup) (hi : X.N[i]? = some x) (hj : X.N[j]? = some y) (hl : X.N[l]? = some z) (hij : i ≠ j) (hil : i ≠ l) (hjl : j ≠ l)
    (hx : X.env.scope.names.lookup x = some .local) (hy : X.env.scope.names.lookup y = some .local) (hz : X.env.scope.names.lookup z = some .local) (ha : GMx g X [a, b, cc] dr)
    (hw : swappedStores [.Tuple [.Name x px, .Name y py, .Name z pz] kt pt] (.Tuple [a, b, cc] k2 pt2) X.env = pure (some [x, y, z]))
    (hs : swapsWithSole [.Tuple [.Name x px, .Name y py, .Name z pz] kt pt] (.Tuple [a, b, cc] k2 pt2) pos.line X.env = pure false := by rfl) :
    GS g X (.Assign [.Tuple [.Name x px, .Name y py, .Name z pz] kt pt] (.Tuple [a, b, cc] k2 pt2) pos) (dMix [i, j, l] dr) := PS.weak (ps_par3 hc hN hi hj hl hij hil hjl hx hy hz ha hw hs) fun D σ H ⟨c, F, env, m, E, r, h, o⟩ =>
  ⟨c, F, env, m, _, r, h, fun vs H1 F1 m1 ss r1 f1 it ⟨hl, q⟩ => by
    obtain ⟨ra, ev⟩ := items_end [i, j, l] r r1 f1 it
    obtain ⟨v1, v2, v3, rfl⟩ := len3 (it.length.trans hl)
    obtain ⟨s1, s2, s3, rfl⟩ := len3 hl
    exact ⟨v1, v2, v3, rfl, o.nx _ H1 F1 _ m1 ra ev q⟩⟩
theorem gs_mixT3 {cc : Expr} {i j l : Nat} {x y z : Str} {px py pz pt : Pos} {kt k2 pt2} (hc : X.calm = true) (hN : X.N.Nodup) (hi : X.N[i]? = some x) (hj : X.N[j]? = some y) (hl : X.N[l]? = some z)
    (hx : Loc X.env.scope x) (hy : Loc X.env.scope y) (hz : Loc X.env.scope z) (ha : GMx g X [a, b, cc] dr)
    (hs : swapsWithSole [.Tuple [.Name x px, .Name y py, .Name z pz] kt pt] (.Tuple [a, b, cc] k2 pt2) pos.line X.env = pure false := by rfl) (hw : swappedStores [.Tuple [.Name x px, .Name y py, .Name z pz] kt pt] (.Tuple [a, b, cc] k2 pt2) X.env = pure none := by rfl)
    (hh : (assignEach [.Tuple [.Name x px, .Name y py, .Name z pz] kt pt] X.env).map (·.2) = [assign (.Tuple [.Name x px, .Name y py, .Name z pz] kt pt) X.env] := by rfl)
    (hf : X.fn x = true ∨ X.env.scope.names.lookup x = some .local := by first | exact .inl rfl | exact .inr rfl | assumption) (hf2 : X.fn y = true ∨ X.env.scope.names.lookup y = some .local := by first | exact .inl rfl | exact .inr rfl | assumption) (hf3 : X.fn z = true ∨ X.env.scope.names.lookup z = some .local := by first | exact .inl rfl | exact .inr rfl | assumption)
    (hn : (assignEach [.Name x px, .Name y py, .Name z pz] X.env).length = 3 := by rfl) (hst : (assignEach [.Name x px, .Name y py, .Name z pz] X.env).findIdx? (·.1) = none := by rfl)
    (he1 : (assignEach [.Name x px, .Name y py, .Name z pz] X.env).map (·.2) = assign (.Name x px) X.env :: (assignEach [.Name y py, .Name z pz] X.env).map (·.2) := by rfl) (he2 : (assignEach [.Name y py, .Name z pz] X.env).map (·.2) = assign (.Name y py) X.env :: (assignEach [.Name z pz] X.env).map (·.2) := by rfl) (he3 : (assignEach [.Name z pz] X.env).map (·.2) = assign (.Name z pz) X.env :: (assignEach [] X.env).map (·.2) := by rfl) :
    GS g X (.Assign [.Tuple [.Name x px, .Name y py, .Name z pz] kt pt] (.Tuple [a, b, cc] k2 pt2) pos) (dMix [i, j, l] dr) :=
  PS.weak (ps_asg (pe_tup ha) (pg_tup hc (pgs_cons (pg_name hN hi hx hf) (pgs_cons (pg_name hN hj hy hf2) (pgs_cons (pg_name hN hl hz hf3) pgs_nil he3) he2) he1) hn hst) hs hw hh) fun D σ H ⟨c, F, env, m, E, r, h, o⟩ =>
  ⟨c, F, env, m, _, r, h, fun vs H1 F1 m1 ss r1 f1 it ⟨hl, q⟩ => by
    obtain ⟨v1, v2, v3, rfl⟩ := len3 (it.length.trans hl)
    refine ⟨ll (show 3 ≤ LL by decide), fun t ht => ⟨t, _, rfl, SqT.of upd_same, rfl, v1, _, rfl, v2, _, rfl, v3, _, rfl, rfl, ?_⟩⟩
    have n := New.lay (F := F1) (o := .tup [v1, v2, v3]) r1.sub ht
    have it2 : ItR X.K g c H F1 (upd H1 t (.tup [v1, v2, v3])) ss [v1, v2, v3] := it.up n.hh
    obtain ⟨ra, ev⟩ := items_end [i, j, l] r (r1.new n) (f1.trans (n.fresh r1.ck)) it2
    obtain ⟨s1, s2, s3, rfl⟩ := len3 hl
    exact o.nx _ _ F1 _ m1 ra ev q⟩
end
end G
namespace G
open PySem L2
def kvGet (kds : List (Key × D)) (k : Key) : Option D := (kds.find? fun kv => decide (kv.1 = k)).map (·.2)
def kvPut (kds : List (Key × D)) (k : Key) (d : D) : List (Key × D) := if (kds.any fun kv => decide (kv.1 = k)) = true then kds.map (fun kv => if kv.1 = k then (kv.1, d) else kv) else kds ++ [(k, d)]
inductive KvR (K : PySem.W.Frag) (g : Gp) (F : Hp) : List (Key × D) → List (Key × V) → Prop
  | nil : KvR K g F [] []
  | cons {k : Key} {d : D} {v : V} {kds : List (Key × D)} {kvs : List (Key × V)} : Rep K g F d v → KvR K g F kds kvs → KvR K g F ((k, d) :: kds) ((k, v) :: kvs)
section
variable {K : PySem.W.Frag} {g : Gp} {F F' H : Hp}
theorem KvR.of : ∀ {kds : List (Key × D)} {kvs : List (Key × V)}, kvs.map (·.1) = kds.map (·.1) → RepL K g F (kds.map (·.2)) (kvs.map (·.2)) → KvR K g F kds kvs
  | [], [], _, _ => .nil
  | [], _ :: _, h, _ => by simp at h
  | _ :: _, [], h, _ => by simp at h
  | (k, d) :: kds, (k', v) :: kvs, h, r => by
    simp only [List.map_cons, List.cons.injEq] at h
    obtain ⟨rfl, h⟩ := h
    cases r with
    | cons r t => exact .cons r (KvR.of h t)
theorem KvR.to : ∀ {kds : List (Key × D)} {kvs : List (Key × V)}, KvR K g F kds kvs → kvs.map (·.1) = kds.map (·.1) ∧ RepL K g F (kds.map (·.2)) (kvs.map (·.2))
  | _, _, .nil => ⟨rfl, .nil⟩
  | _, _, .cons r t => ⟨by simp [t.to.1], .cons r t.to.2⟩
theorem KvR.length {kds : List (Key × D)} {kvs : List (Key × V)} (h : KvR K g F kds kvs) : kvs.length = kds.length := by
  have := congrArg List.length h.to.1
  simpa using this
theorem KvR.mono (e : Ex F F') : ∀ {kds : List (Key × D)} {kvs : List (Key × V)}, KvR K g F kds kvs → KvR K g F' kds kvs
  | _, _, .nil => .nil
  | _, _, .cons r t => .cons (r.mono e) (t.mono e)
theorem KvR.get {k : Key} {d : D} : ∀ {kds : List (Key × D)} {kvs : List (Key × V)}, KvR K g F kds kvs → kvGet kds k = some d → ∃ v, valV kvs k = some v ∧ Rep K g F d v
  | _, _, .nil, h => by simp [kvGet] at h
  | (k', d') :: kds, (_, v') :: kvs, .cons r t, h => by
    by_cases e : k' = k
    · subst e
      simp [kvGet, List.find?_cons] at h
      subst h
      exact ⟨v', valV_pos rfl, r⟩
    · have h' : kvGet kds k = some d := by simpa [kvGet, List.find?_cons, e] using h
      obtain ⟨v, h1, h2⟩ := t.get h'
      exact ⟨v, by rw [valV_neg e]; exact h1, h2⟩
theorem KvR.getN {k : Key} : ∀ {kds : List (Key × D)} {kvs : List (Key × V)}, KvR K g F kds kvs → kvGet kds k = none → valV kvs k = none
  | _, _, .nil, h => valV_nil
  | (k', d') :: kds, (_, v') :: kvs, .cons r t, h => by
    by_cases e : k' = k
    · subst e
      simp [kvGet, List.find?_cons] at h
    · have h' : kvGet kds k = none := by simpa [kvGet, List.find?_cons, e] using h
      rw [valV_neg e]; exact t.getN h'
theorem KvR.any (k : Key) : ∀ {kds : List (Key × D)} {kvs : List (Key × V)}, KvR K g F kds kvs → (kvs.any fun kv => decide (kv.1 = k)) = kds.any fun kv => decide (kv.1 = k)
  | _, _, .nil => rfl
  | _, _, .cons _ t => by simp only [List.any_cons, t.any k]
theorem KvR.snoc {k : Key} {d : D} {v : V} (r : Rep K g F d v) : ∀ {kds : List (Key × D)} {kvs : List (Key × V)}, KvR K g F kds kvs → KvR K g F (kds ++ [(k, d)]) (kvs ++ [(k, v)])
  | _, _, .nil => .cons r .nil
  | _, _, .cons r' t => .cons r' (t.snoc r)
theorem KvR.repl {k : Key} {d : D} {v : V} (r : Rep K g F d v) : ∀ {kds : List (Key × D)} {kvs : List (Key × V)}, KvR K g F kds kvs → KvR K g F (kds.map fun kv => if kv.1 = k then (kv.1, d) else kv) (kvs.map fun kv => if kv.1 = k then (kv.1, v) else kv)
  | _, _, .nil => .nil
  | (k', d') :: _, _, .cons r' t => by
    simp only [List.map_cons]
    by_cases e : k' = k
    · rw [if_pos e, if_pos e]; exact .cons r (t.repl r)
    · rw [if_neg e, if_neg e]; exact .cons r' (t.repl r)
theorem KvR.put {k : Key} {d : D} {v : V} (r : Rep K g F d v) {kds : List (Key × D)} {kvs : List (Key × V)} (h : KvR K g F kds kvs) : KvR K g F (kvPut kds k d) (putK kvs k v) := by
  unfold kvPut putK
  rw [h.any k]
  split
  · exact h.repl r
  · exact h.snoc r
end
section
variable {g : Gp} {X : Cx} {a b e : Expr} {es : List Expr} {d da db dv dk : DE} {dl : DL} {dr : DA} {pos : Pos}
def dixD : D → D → Option D
  | .dic kds, k => k.key.bind (kvGet kds)
  | _, _ => none
theorem ge_dix (hu : X.A.units + 64 < cLine) (ha : GB g X a da) (hb : GE g X b db) (hs : NoSl b := by exact fun _ _ => rfl) : GE g X (.Subscript a b pos) (dOp dixD da db) := PE.weak (pe_dget (by omega) ha hb hs) fun σ H Q ⟨c, F, env, m, Q1, rl, hd, k⟩ =>
  ⟨c, F, env, m, _, rl, hd, fun v H1 F1 m1 x r1 f1 rp1 q1 => ⟨c, F1, env, m1, _, r1, q1, fun w H2 F2 m2 y r2 f2 rp2 ⟨z, hz, q2⟩ => by
    cases x with
    | dic kds =>
      obtain ⟨key, hk, hg⟩ := Option.bind_eq_some_iff.mp hz
      obtain ⟨p, kvs, rfl, h1, h2, h3, h4⟩ := (rp1.mono f2).dic'
      obtain ⟨v', e1, e2⟩ := (KvR.of h2 h3).get hg
      rw [key_rep hk rp2]
      exact ⟨p, v', rfl, by rw [← e1]; exact DGet.k h1, k v' H2 F2 m2 z r2 (f1.trans f2) e2 q2⟩
    | _ => exact nomatch (show (none : Option D) = some z from hz)⟩⟩
def dSetD (i : Nat) (dv dk : DE) : DS := fun env m E => dv env m fun x m1 => ∃ kds, env[i]? = some (.ow (.dic kds)) ∧ dk env m1 fun k m2 => ∃ key, k.key = some key ∧ kds.length < LL ∧ E.nx (env.set i (.ow (.dic (kvPut kds key x)))) m2
theorem owd_at {K : PySem.W.Frag} {c : Option Addr} {F H : Hp} {env : Env'} {m : Nat} {σ : St} {i : Nat} {kds : List (Key × D)} (r : Rel K g c F env m σ H) (ho : env[i]? = some (.ow (.dic kds))) : ∃ p kvs, σ[i]? = some (some (.ref p)) ∧ H p = some (.dK kvs) ∧ KvR K g F kds kvs ∧ c ≠ some p := by
  obtain ⟨p, kvs, e, _, h2, h3, h4, h5⟩ := (r.slot i _ ho).owd'
  exact ⟨p, kvs, e, h2, KvR.of h3 h4, h5⟩
theorem gs_setD (hu : X.A.units + 64 < cLine) (i : Nat) {x : Str} {v k : Expr} {p1 ps : Pos} (hv' : GE g X v dv) (hk : GE g X k dk) (hN : X.N[i]? = some x := by rfl) (hv : Vis X.env.scope x := by first | exact Or.inl rfl | exact Or.inr (Or.inl rfl) | exact Or.inr (Or.inr rfl)) (hd : (x == ("__debug__" : Str)) = false := by decide)
    (hcd : (x == ("__classdict__" : Str)) = false := by decide) (ha : ∀ w, assign (.Subscript (.Name x p1) k ps) X.env w = (do
      let ov ← holding [w] (eval (.Name x p1) X.env)
      let iv ← holding [w, ov] (eval k X.env)
      standAt ps
      holding [w, ov, iv] (setItem ov iv w)
      release [w, ov, iv] []) := by intro _; rfl) (hs : swapsWithSole [.Subscript (.Name x p1) k ps] v pos.line X.env = pure false := by rfl) (hw : swappedStores [.Subscript (.Name x p1) k ps] v X.env = pure none := by rfl)
    (h1 : (assignEach [.Subscript (.Name x p1) k ps] X.env).map (·.2) = [assign (.Subscript (.Name x p1) k ps) X.env] := by rfl) : GS g X (.Assign [.Subscript (.Name x p1) k ps] v pos) (dSetD i dv dk) :=
  PS.weak (ps_asg hv' (pg_sub (pe_var hN hv hd hcd) hk (set_dict (by omega)) ha) hs hw h1) fun D σ H ⟨c, F, env, m, E, r, h, o⟩ => ⟨c, F, env, m, _, r, h, fun u H1 F1 m1 y r1 f1 rp ⟨kds, ho, q1⟩ => by
    obtain ⟨p, kvs, es, hp, kr, nc⟩ := owd_at r1 ho
    refine ⟨.ref p, es, c, F1, env, m1, _, r1, q1, fun iv H2 F2 m2 k' r2 f2 rk ⟨key, ek, hl, q2⟩ => ?_⟩
    obtain ⟨p', kvs', es', hp', kr', nc'⟩ := owd_at r2 ho
    rw [es] at es'
    cases es'
    rw [key_rep ek rk]
    have kp := kr'.put (k := key) (rp.mono f2.ff)
    obtain ⟨r3, v3⟩ := r2.mutW (ds' := .dic (kvPut kds key y)) (ys := .dK (putK kvs' key u)) ho es (show ObR X.K g F2 _ (.dic _) (.dK _) from ⟨_, rfl, kp.to⟩)
    exact ⟨p, _, rfl, DPut.k hp' (ll' (by rw [kr'.length]; exact hl)), o.nx σ _ F2 _ m2 r3 ((r.evo (f1.trans f2)).trans v3) q2⟩⟩
end
end G
namespace G
open PySem L2
end G
namespace G
open PySem L2
def showD : D → Bool := fun d => d.okd 60 && d.py.showable && !d.py.hasDict
def reprD : List D → Option D
  | [.lst ds] => if showD (.lst ds) = true ∧ (D.lst ds).py.shown.length ≤ LL then some (.str (D.lst ds).py.shown) else none
  | [.tup ds] => if showD (.tup ds) = true ∧ (D.tup ds).py.shown.length ≤ LL then some (.str (D.tup ds).py.shown) else none
  | _ => none
def dTupRg (d : DE) : DE := fun env m Q => d env m fun x m1 => ∃ n : Nat, x = .int (n : Nat) ∧ n ≤ LL ∧ Q (.tup (rangeD 0 (n : Nat))) m1
theorem rg_rep {K : PySem.W.Frag} {g : Gp} {F : Hp} (a b : Int) : RepL K g F (rangeD a b) (rgV a b) := by
  unfold rangeD rgV
  induction List.range (b - a).toNat with
  | nil => exact .nil
  | cons i r ih => exact .cons (.int _) ih
theorem ge_tupRg {g : Gp} {X : Cx} {e : Expr} {d : DE} {p p2 pos pos2 : Pos} (hc : X.calm = true) (hg : Gl X "tuple") (hm : X.mg "tuple" = none) (hg2 : Gl X "range") (hm2 : X.mg "range" = none) (he : GE g X e d) (na : starEach [e] X.env = (false, eval e X.env) :: starEach [] X.env := by rfl)
    (nb : starEach [.Call (.Name "range" p2) [e] [] pos2] X.env = (false, eval (.Call (.Name "range" p2) [e] [] pos2) X.env) :: starEach [] X.env := by rfl) : GE g X (.Call (.Name "tuple" p) [.Call (.Name "range" p2) [e] [] pos2] [] pos) (dTupRg d) :=
  PE.weak (pe_tupRg hc hg hm (prg_1 hg2 hm2 he na) nb) fun σ H Q ⟨c, F, env, m, Q1, rl, hd, k⟩ => ⟨c, F, env, m, _, rl, hd, fun v H1 F1 m1 x r1 f1 rp ⟨n, ex, hn, q⟩ => by
    subst ex
    cases rp
    have hn' : n ≤ 100000 := hn
    refine ⟨(n : Nat), rfl, RgOk.of_le (by omega) (by omega) (by omega) (by omega), fun p0 hp => ?_⟩
    have n1 := New.fix (F := F1) (o := .tup (rgV 0 (n : Nat))) r1.sub hp
    exact k _ _ _ m1 _ (r1.new n1) (f1.trans (n1.fresh r1.ck)) (.tup (SqT.of upd_same) (rg_rep 0 _)) q⟩
end G
namespace G
open PySem L2
open PySem.W (dataLe AllAlike Sortable EachIs dataLt alike alikeAll)
def rSortTp (K : PySem.W.Frag) : List V → Hp → VK → Prop := fun vs H Q => ∃ (a : Addr) (ps : List (V × PyData)), vs = [.ref a] ∧ SqT K H a (ps.map (·.1)) ∧ (∀ p ∈ ps, Dp K H p.1 p.2 ∧ p.2.depth ≤ 60) ∧ AllAlike (ps.map (·.2)) ∧ Sortable (ps.map (·.2)) ∧ ps.length ≤ LL ∧
  ∀ p, H p = none → Q (.ref p) (upd H p (.lst ((sortV ps).map (·.1))))
theorem cr_sortTp {X : Cx} (hu : X.A.units + 64 < cLine) : CallR X (.builtin "sorted") (rSortTp X.K) := by
  intro pins s σ H vs us Q I r h
  obtain ⟨a, ps, rfl, hs, hd, ha, hk2, hl, q⟩ := h
  obtain ⟨its, rv, pl, _⟩ := I.tuple hs
  rw [Vals.ref1 r]
  have lp : its.length = ps.length := by rw [← rv.length, List.length_map]
  have hlen : its.length ≤ sizeLine := by rw [lp]; exact ll hl
  obtain ⟨ob, hob, hcl, n0, hdat⟩ := id pl
  refine PySem.Calls.call_function_entry PyProof.Rows.kind_sorted PyProof.Rows.plain_sorted PyProof.Rows.entry_sorted (PyProof.Rows.args_sorted1 _) ?_
  unfold Builtin.«sorted»
  refine wpAny_bind (m := checkCount "sorted" 1 1 _) (wpAny_pure ?_)
  refine wpAny_bind (wpAny_collect_seq (A := X.A.in1) a (T := "tuple") (.inr rfl) hob hcl hdat (fun h' hk => ?_) (by simpa using hlen))
  show wpAny _ _ (newList its.toArray.toList >>= _) _ _ _
  rw [List.toList_toArray]
  refine wpAny_bind (wpAny_newList ?_ hlen)
  have e1 : EachIs (fun u (b : V × PyData) => RelV b.1 u) its ps := each_of_vals (f := fun p : V × PyData => p.1) rv fun b _ u h => h
  have er0 : ∀ h2 : Heap, (∀ b o, s.heap.get? b = some o → h2.get? b = some o) → EachIs (fun u (b : V × PyData) => ∃ as, Reads h2 u b.2 as) its ps := fun h2 k2 => each_of_vals (f := fun p : V × PyData => p.1) rv fun b hb u h => by
    obtain ⟨as, ra⟩ := Dp.reads I b.2 b.1 u (hd b hb).1 h
    exact ⟨as, PyProof.Rows.Reads.keeps k2 ra⟩
  have hdp : ∀ d ∈ ps.map (·.2), X.A.in1.in1.units + d.depth < cLine := fun d hd' => by
    obtain ⟨b, hb, rfl⟩ := List.mem_map.mp hd'
    have z := (hd b hb).2
    show X.A.units + 1 + 1 + b.2.depth < cLine
    omega
  let sB : Shared := { s with heap := h'.push { cls := .type "list", data := .seq its.toArray } }
  have oa : sB.heap.get? h'.objs.size = some (PyProof.Rows.seqObj "list" its.toArray 0) := Heap.get?_push_size _ rfl
  have kB : ∀ b o, s.heap.get? b = some o → (PySem.W.sortingHeap sB.heap h'.objs.size its).get? b = some o := fun b o e => by
    have e' := hk b o e
    exact PySem.W.sortingHeap_old (Nat.ne_of_lt (Heap.lt_size e')) (Heap.get?_push_of_some _ e')
  refine wpAny_bind (wpAny_holding (wpAny_call_entry PyProof.Rows.slot_list_sort ⟨_, oa, rfl⟩ PyProof.Rows.entry_list_sort ?body (PyProof.Rows.args_list_sort _)))
  case body =>
    refine PySem.W.list_sort_vals oa (PySem.W.SortsAt.data (PySem.W.each_map (R := fun v d => ∃ as, Reads _ v d as) (fun p : V × PyData => p.2) (er0 _ kB)) ha hk2 hdp) hlen ?_
    refine ⟨_, rfl, wpAny_pure ⟨_, rfl, ?_⟩⟩
    have eo := PySem.W.sortVals_data (h' := PySem.W.sortingHeap sB.heap h'.objs.size its) (enc := fun p : V × PyData => p.2) false e1 (er0 _ kB) ha
    generalize hout : PySem.W.sortVals (PySem.W.dataKind (PySem.W.sortingHeap sB.heap h'.objs.size its) (ps.map (·.2))) false its its = out at eo
    obtain ⟨ep, he⟩ := PyProof.Rows.sortedHeap_at (out := out.toArray) oa
    have old : ∀ b o, s.heap.get? b = some o → (PyProof.Rows.sortedHeap sB.heap h'.objs.size its out.toArray).get? b = some o := fun b o e => by
      have e' := hk b o e
      have hlt := Heap.lt_size e'
      rw [PyProof.Rows.sortedHeap_old (Nat.ne_of_lt hlt) (by show b < (h'.push _).objs.size; rw [Heap.size_push]; exact Nat.lt_succ_of_lt hlt)]
      exact Heap.get?_push_of_some _ e'
    have hp : ∀ u, s.heap.get? h'.objs.size ≠ some u := fun u e => absurd (Heap.lt_size (hk _ u e)) (Nat.lt_irrefl _)
    have hL : ((sortV ps).map (·.1)).length ≤ sizeLine := by
      unfold sortV
      rw [List.length_map, List.length_mergeSort, ← lp]
      exact hlen
    obtain ⟨hn, J⟩ := laidN (o := .lst ((sortV ps).map (·.1))) (t' := s.toks) (g' := s.gens) (d' := s.drawn) I old hp I.bare ⟨hL, _, ep, vals_of_each (f := fun p : V × PyData => p.1) eo, he⟩
    exact ⟨.ref _, _, J, rfl, q _ hn⟩
theorem sortable_of {es : List D} (o2 : es.all D.neT = true ∨ es.all D.noT = true) : Sortable (es.map D.py) := by
  rcases o2 with o2 | o2
  · refine .inl fun d hd => ?_
    obtain ⟨a, ha, rfl⟩ := List.mem_map.mp hd
    have := List.all_eq_true.mp o2 a ha
    cases a with
    | tup l => cases l with
      | nil => cases this
      | cons x r => exact ⟨x.py, pyL r, by simp only [D.py, pyL]⟩
    | _ => cases this
  · refine .inr fun d hd => ?_
    obtain ⟨a, ha, rfl⟩ := List.mem_map.mp hd
    have := List.all_eq_true.mp o2 a ha
    cases a with
    | non => cases this
    | tup l => cases this
    | dic l => cases this
    | web a b => cases this
    | fn a => cases this
    | exc _ _ _ => cases this
    | dit _ => cases this
    | _ => simp only [D.py]; exact ⟨(fun z => nomatch z), fun _ z => nomatch z⟩
def sortedTD : List D → Option (List D)
  | [.tup ds] => if sortOk ds then some (sortL ds) else none
  | _ => none
theorem cn_sortedT {K : PySem.W.Frag} {g : Gp} : CallN K g (rSortTp K) sortedTD := fun c F H xs ds vs Q' e nc rp hz k => by
  unfold sortedTD at hz
  split at hz
  · rename_i es
    split at hz
    · rename_i ok
      cases hz
      unfold sortOk at ok
      simp only [Bool.and_eq_true, Bool.or_eq_true, decide_eq_true_eq] at ok
      obtain ⟨⟨⟨o1, o2⟩, o3⟩, o4⟩ := ok
      cases rp with
      | cons h t =>
        cases t
        obtain ⟨p, ys, rfl, g1, g2⟩ := RepT.tup' h
        have hl := g2.length
        have z1 : (ys.zip (es.map D.py)).map (·.1) = ys := List.map_fst_zip (by rw [List.length_map]; omega)
        have z2 : (ys.zip (es.map D.py)).map (·.2) = es.map D.py := List.map_snd_zip (by rw [List.length_map]; omega)
        refine ⟨p, ys.zip (es.map D.py), rfl, by rw [z1]; exact Evl.ex_t e g1, zip_dp e g2 o3, ?_, ?_, ?_, fun l hl' => ?_⟩
        · rw [z2]
          intro d hd d' hd'
          obtain ⟨a, ha, rfl⟩ := List.mem_map.mp hd
          obtain ⟨b, hb, rfl⟩ := List.mem_map.mp hd'
          unfold alikeL at o1
          exact List.all_eq_true.mp (List.all_eq_true.mp o1 a ha) b hb
        · rw [z2]
          exact sortable_of o2
        · rw [List.length_zip, List.length_map]; omega
        · exact k l _ F _ (new_lay e hl').1 hl' (new_lay e hl' (ys := (sortV (ys.zip (es.map D.py))).map (·.1))).2.1 upd_same (sort_rep g2)
    · cases hz
  · cases hz
end G
namespace G
open PySem L2
theorem FnG.imp {P : Program} {w : World} {K : PySem.W.Frag} {mg : Str → Option Value} {base : Heap} {k : Nat} {f : Addr} {fd : FuncData} {ps : List Str} {sp sp' : Sp} (F : FnG P w K mg base k f fd ps sp) (h : ∀ vs H Q E, sp' vs H Q E → sp vs H Q E) : FnG P w K mg base k f fd ps sp' :=
  ⟨fun vs H Q E q => F.len vs H Q E (h vs H Q E q), fun A outer s H args us vs Q E hr c e b v q => F.run A outer s H args us vs Q E hr c e b v (h vs H Q E q)⟩
end G
namespace G
open PySem L2
section
variable {f : D → Env' → Option Env'} {dt : DT} {de : DE} {env : Env'}
theorem lcR_fm {α : Type} (e : α → D) (p : α → Bool) (v : α → D) : ∀ (xs : List α) (m : Nat) (Q : List D → Nat → Prop), (∀ a ∈ xs, ∃ env2, f (e a) env = some env2 ∧ (∀ m Q, Q (p a) m → dt env2 m Q) ∧ (p a = true → ∀ m Q, Q (v a) m → de env2 m Q)) →
    Q ((xs.filter p).map v) m → LcR f dt de env (xs.map e) m Q
  | [], m, Q, _, q => q
  | a :: r, m, Q, h, q => by
    obtain ⟨env2, e1, h1, h2⟩ := h a (by simp)
    refine ⟨env2, e1, h1 m _ ?_⟩
    have hr := fun (Q' : List D → Nat → Prop) (q' : Q' ((r.filter p).map v) m) => lcR_fm e p v r m Q' (fun b hb => h b (by simp [hb])) q'
    cases hp : p a with
    | true =>
      rw [if_pos rfl]
      refine h2 hp m _ (hr _ ?_)
      rw [List.filter_cons_of_pos hp] at q
      exact q
    | false =>
      rw [if_neg (by decide)]
      refine hr _ ?_
      rw [List.filter_cons_of_neg (by rw [hp]; decide)] at q
      exact q
theorem lcR_m {α : Type} (e : α → D) (v : α → D) (xs : List α) (m : Nat) (Q : List D → Nat → Prop) (h : ∀ a ∈ xs, ∃ env2, f (e a) env = some env2 ∧ (∀ m Q, Q (v a) m → de env2 m Q)) (q : Q (xs.map v) m) : LcR f dYes de env (xs.map e) m Q :=
  lcR_fm e (fun _ => true) v xs m Q (fun a ha => by obtain ⟨env2, h1, h2⟩ := h a ha; exact ⟨env2, h1, fun _ _ q => q, fun _ => h2⟩) (by rw [List.filter_eq_self.mpr (fun _ _ => rfl)]; exact q)
end
theorem forR_ind {f : D → Env' → Option Env'} {body : DS} {E : DEnds} (I : List D → Env' → Nat → Prop) (h0 : ∀ env m, I [] env m → E.nx env m)
    (hs : ∀ d ds env m, I (d :: ds) env m → ∃ env2, f d env = some env2 ∧ ∀ K : Env' → Nat → Prop, (∀ e' m', I ds e' m' → K e' m') → body env2 m { E with nx := K, ct := K, bk := E.nx }) :
    ∀ its env m, I its env m → ForR f body its env m E
  | [], env, m, h => h0 env m h
  | d :: ds, env, m, h => by
    obtain ⟨env2, e, hb⟩ := hs d ds env m h
    exact ⟨env2, e, hb _ fun e' m' hi => forR_ind I h0 hs ds e' m' hi⟩
theorem rangeD_nat (n : Nat) : rangeD 0 (n : Int) = (List.range n).map fun i => D.int (i : Nat) := by
  unfold rangeD
  simp
theorem eqB_int (a b : Int) : eqB (.int a) (.int b) = some (decide (a = b)) := rfl
theorem eqD_str (a b : Str) : eqD (.str a) (.str b) = some (.bl (decide (a = b))) := rfl
theorem eqD_int (a b : Int) : eqD (.int a) (.int b) = some (.bl (decide (a = b))) := rfl
end G
namespace T
inductive Conn (E : List (Nat × Nat)) : Nat → Nat → Prop
  | refl (a : Nat) : Conn E a a
  | tie {p : Nat × Nat} : p ∈ E → Conn E p.1 p.2
  | symm {a b : Nat} : Conn E a b → Conn E b a
  | trans {a b c : Nat} : Conn E a b → Conn E b c → Conn E a c
theorem Conn.mono {E F : List (Nat × Nat)} (h : ∀ p ∈ E, Conn F p.1 p.2) {a b : Nat} (c : Conn E a b) : Conn F a b := by
  induction c with
  | refl a => exact .refl a
  | tie m => exact h _ m
  | symm _ ih => exact ih.symm
  | trans _ _ i1 i2 => exact i1.trans i2
theorem Conn.sub {E F : List (Nat × Nat)} (h : ∀ p ∈ E, p ∈ F) {a b : Nat} (c : Conn E a b) : Conn F a b := c.mono fun p m => .tie (h p m)
theorem Conn.nil {a b : Nat} (c : Conn [] a b) : a = b := by
  induction c with
  | refl a => rfl
  | tie m => cases m
  | symm _ ih => exact ih.symm
  | trans _ _ i1 i2 => exact i1.trans i2
theorem conn_add {E : List (Nat × Nat)} {u v a b : Nat} (c : Conn (E ++ [(u, v)]) a b) : Conn E a b ∨ (Conn E a u ∧ Conn E v b) ∨ (Conn E a v ∧ Conn E u b) := by
  induction c with
  | refl a => exact .inl (.refl a)
  | @tie p m =>
    rcases List.mem_append.mp m with m | m
    · exact .inl (.tie m)
    · rw [List.mem_singleton] at m
      subst m
      exact .inr (.inl ⟨.refl _, .refl _⟩)
  | symm _ ih =>
    rcases ih with h | ⟨h1, h2⟩ | ⟨h1, h2⟩
    · exact .inl h.symm
    · exact .inr (.inr ⟨h2.symm, h1.symm⟩)
    · exact .inr (.inl ⟨h2.symm, h1.symm⟩)
  | trans _ _ i1 i2 =>
    rcases i1 with h | ⟨h1, h2⟩ | ⟨h1, h2⟩ <;> rcases i2 with k | ⟨k1, k2⟩ | ⟨k1, k2⟩
    · exact .inl (h.trans k)
    · exact .inr (.inl ⟨h.trans k1, k2⟩)
    · exact .inr (.inr ⟨h.trans k1, k2⟩)
    · exact .inr (.inl ⟨h1, h2.trans k⟩)
    · exact .inr (.inl ⟨h1, k2⟩)
    · exact .inl (h1.trans k2)
    · exact .inr (.inr ⟨h1, h2.trans k⟩)
    · exact .inl (h1.trans k2)
    · exact .inr (.inr ⟨h1, k2⟩)
theorem conn_of_add {E : List (Nat × Nat)} {u v a b : Nat} (h : Conn E a b ∨ (Conn E a u ∧ Conn E v b) ∨ (Conn E a v ∧ Conn E u b)) : Conn (E ++ [(u, v)]) a b := by
  have up : ∀ {x y : Nat}, Conn E x y → Conn (E ++ [(u, v)]) x y := fun c => c.sub fun p m => List.mem_append_left _ m
  have uv : Conn (E ++ [(u, v)]) u v := .tie (p := (u, v)) (by simp)
  rcases h with h | ⟨h1, h2⟩ | ⟨h1, h2⟩
  · exact up h
  · exact (up h1).trans (uv.trans (up h2))
  · exact (up h1).trans (uv.symm.trans (up h2))
theorem conn_skip {E : List (Nat × Nat)} {u v a b : Nat} (c : Conn E u v) : Conn (E ++ [(u, v)]) a b ↔ Conn E a b := by
  constructor
  · intro h
    rcases conn_add h with h | ⟨h1, h2⟩ | ⟨h1, h2⟩
    · exact h
    · exact h1.trans (c.trans h2)
    · exact h1.trans (c.symm.trans h2)
  · exact fun h => conn_of_add (.inl h)
theorem len_le_of_sub {α : Type} [DecidableEq α] : ∀ {l m : List α}, l.Nodup → (∀ a ∈ l, a ∈ m) → l.length ≤ m.length
  | [], _, _, _ => Nat.zero_le _
  | a :: r, m, nd, h => by
    obtain ⟨n1, n2⟩ := List.nodup_cons.mp nd
    have hm := h a (by simp)
    have ih := len_le_of_sub (l := r) (m := m.erase a) n2 fun b hb => (List.mem_erase_of_ne (fun z => n1 (by rw [← z]; exact hb))).mpr (h b (by simp [hb]))
    rw [List.length_erase_of_mem hm] at ih
    have := List.length_pos_of_mem hm
    rw [List.length_cons]
    omega
theorem len_eq_of_same {α : Type} [DecidableEq α] {l m : List α} (h1 : l.Nodup) (h2 : m.Nodup) (h : ∀ a, a ∈ l ↔ a ∈ m) : l.length = m.length :=
  Nat.le_antisymm (len_le_of_sub h1 fun a ha => (h a).mp ha) (len_le_of_sub h2 fun a ha => (h a).mpr ha)
open Classical in
noncomputable def leasts (P : List Nat) (E : List (Nat × Nat)) : List Nat := P.filter fun a => decide (∀ b ∈ P, b < a → ¬ Conn E a b)
noncomputable def nc (P : List Nat) (E : List (Nat × Nat)) : Nat := (leasts P E).length
open Classical in
theorem mem_leasts {P : List Nat} {E : List (Nat × Nat)} {a : Nat} : a ∈ leasts P E ↔ a ∈ P ∧ ∀ b ∈ P, b < a → ¬ Conn E a b := by
  unfold leasts
  rw [List.mem_filter]
  constructor
  · exact fun h => ⟨h.1, of_decide_eq_true h.2⟩
  · exact fun h => ⟨h.1, decide_eq_true h.2⟩
theorem leasts_nd {P : List Nat} {E : List (Nat × Nat)} (h : P.Nodup) : (leasts P E).Nodup := h.filter _
theorem least_of {P : List Nat} {E : List (Nat × Nat)} : ∀ (n a : Nat), a ≤ n → a ∈ P → ∃ l ∈ leasts P E, Conn E a l
  | n, a, hn, ha => by
    by_cases h : ∀ b ∈ P, b < a → ¬ Conn E a b
    · exact ⟨a, mem_leasts.mpr ⟨ha, h⟩, .refl a⟩
    · obtain ⟨b, hb⟩ := Classical.not_forall.mp h
      obtain ⟨h1, hb⟩ := Classical.not_imp.mp hb
      obtain ⟨h2, h3⟩ := Classical.not_imp.mp hb
      have h3 := Classical.not_not.mp h3
      match n with
      | 0 => omega
      | n + 1 =>
        obtain ⟨l, l1, l2⟩ := least_of n b (by omega) h1
        exact ⟨l, l1, h3.trans l2⟩
theorem least_one {P : List Nat} {E : List (Nat × Nat)} {a b : Nat} (ha : a ∈ leasts P E) (hb : b ∈ leasts P E) (c : Conn E a b) : a = b := by
  obtain ⟨a1, a2⟩ := mem_leasts.mp ha
  obtain ⟨b1, b2⟩ := mem_leasts.mp hb
  rcases Nat.lt_trichotomy a b with h | h | h
  · exact absurd c.symm (b2 a a1 h)
  · exact h
  · exact absurd c (a2 b b1 h)
theorem nc_of {β : Type} [DecidableEq β] {P : List Nat} {E : List (Nat × Nat)} (nd : P.Nodup) (f : Nat → β) (hf : ∀ a ∈ P, ∀ b ∈ P, f a = f b ↔ Conn E a b) {vs : List β} (hv : vs.Nodup) (hm : ∀ x, x ∈ vs ↔ ∃ a ∈ P, f a = x) : vs.length = nc P E := by
  unfold nc
  rw [← List.length_map (f := f) (as := leasts P E)]
  refine len_eq_of_same hv ?_ fun x => ?_
  · rw [List.Nodup, List.pairwise_map]
    refine (leasts_nd nd).imp_of_mem fun {a b} ha hb hne e => hne ?_
    exact least_one ha hb ((hf a (mem_leasts.mp ha).1 b (mem_leasts.mp hb).1).mp e)
  · rw [hm, List.mem_map]
    constructor
    · rintro ⟨a, ha, rfl⟩
      obtain ⟨l, l1, l2⟩ := least_of (E := E) a a (Nat.le_refl _) ha
      exact ⟨l, l1, ((hf a ha l (mem_leasts.mp l1).1).mpr l2).symm⟩
    · rintro ⟨a, ha, rfl⟩
      exact ⟨a, (mem_leasts.mp ha).1, rfl⟩
open Classical in
theorem nc_congr {P : List Nat} {E F : List (Nat × Nat)} (h : ∀ a b, Conn E a b ↔ Conn F a b) : nc P E = nc P F := by
  unfold nc leasts
  congr 1
  apply List.filter_congr
  intro a _
  have e : (∀ b ∈ P, b < a → ¬ Conn E a b) ↔ ∀ b ∈ P, b < a → ¬ Conn F a b := ⟨fun k b hb lt c => k b hb lt ((h a b).mpr c), fun k b hb lt c => k b hb lt ((h a b).mp c)⟩
  by_cases q : ∀ b ∈ P, b < a → ¬ Conn E a b
  · rw [decide_eq_true q, decide_eq_true (e.mp q)]
  · rw [decide_eq_false q, decide_eq_false fun z => q (e.mpr z)]
theorem nc_le (P : List Nat) (E : List (Nat × Nat)) : nc P E ≤ P.length := List.length_filter_le _ _
open Classical in
theorem nc_nil (P : List Nat) : nc P [] = P.length := by
  unfold nc leasts
  rw [List.filter_eq_self.mpr]
  intro a _
  exact decide_eq_true fun b _ lt c => by have := c.nil; omega
theorem nc_join {P : List Nat} {E : List (Nat × Nat)} {u v : Nat} (nd : P.Nodup) (hu : u ∈ P) (hv : v ∈ P) (h : ¬ Conn E u v) : nc P (E ++ [(u, v)]) + 1 = nc P E := by
  obtain ⟨lu, u1, u2⟩ := least_of (E := E) u u (Nat.le_refl _) hu
  obtain ⟨lv, v1, v2⟩ := least_of (E := E) v v (Nat.le_refl _) hv
  have ne : lu ≠ lv := fun e => h (u2.trans (e ▸ v2.symm))
  have key : ∀ x y, x ∈ leasts P E → y ∈ leasts P E → x < y → (∀ a b, Conn (E ++ [(u, v)]) a b ↔ Conn E a b ∨ (Conn E a x ∧ Conn E y b) ∨ (Conn E a y ∧ Conn E x b)) → nc P (E ++ [(u, v)]) + 1 = nc P E := by
    intro x y hx hy lt cc
    obtain ⟨x1, x2⟩ := mem_leasts.mp hx
    obtain ⟨y1, y2⟩ := mem_leasts.mp hy
    have hlen : (leasts P E).length = (y :: leasts P (E ++ [(u, v)])).length := by
      refine len_eq_of_same (leasts_nd nd) (List.nodup_cons.mpr ⟨fun z => ?_, leasts_nd nd⟩) fun a => ?_
      · exact (mem_leasts.mp z).2 x x1 lt ((cc y x).mpr (.inr (.inr ⟨.refl _, .refl _⟩)))
      · rw [List.mem_cons]
        constructor
        · intro ha
          by_cases e : a = y
          · exact .inl e
          · refine .inr (mem_leasts.mpr ⟨(mem_leasts.mp ha).1, fun b hb l2 c => ?_⟩)
            rcases (cc a b).mp c with c | ⟨c1, c2⟩ | ⟨c1, c2⟩
            · exact (mem_leasts.mp ha).2 b hb l2 c
            · have := least_one ha hx c1
              subst this
              exact y2 b hb (by omega) c2
            · exact e (least_one ha hy c1)
        · rintro (rfl | ha)
          · exact hy
          · obtain ⟨a1, a2⟩ := mem_leasts.mp ha
            exact mem_leasts.mpr ⟨a1, fun b hb l2 c => a2 b hb l2 ((cc a b).mpr (.inl c))⟩
    unfold nc
    rw [hlen, List.length_cons]
  rcases Nat.lt_or_gt_of_ne ne with lt | lt
  · refine key lu lv u1 v1 lt fun a b => ⟨fun c => ?_, fun c => conn_of_add ?_⟩
    · rcases conn_add c with c | ⟨c1, c2⟩ | ⟨c1, c2⟩
      · exact .inl c
      · exact .inr (.inl ⟨c1.trans u2, v2.symm.trans c2⟩)
      · exact .inr (.inr ⟨c1.trans v2, u2.symm.trans c2⟩)
    · rcases c with c | ⟨c1, c2⟩ | ⟨c1, c2⟩
      · exact .inl c
      · exact .inr (.inl ⟨c1.trans u2.symm, v2.trans c2⟩)
      · exact .inr (.inr ⟨c1.trans v2.symm, u2.trans c2⟩)
  · refine key lv lu v1 u1 lt fun a b => ⟨fun c => ?_, fun c => conn_of_add ?_⟩
    · rcases conn_add c with c | ⟨c1, c2⟩ | ⟨c1, c2⟩
      · exact .inl c
      · exact .inr (.inr ⟨c1.trans u2, v2.symm.trans c2⟩)
      · exact .inr (.inl ⟨c1.trans v2, u2.symm.trans c2⟩)
    · rcases c with c | ⟨c1, c2⟩ | ⟨c1, c2⟩
      · exact .inl c
      · exact .inr (.inr ⟨c1.trans v2.symm, u2.trans c2⟩)
      · exact .inr (.inl ⟨c1.trans u2.symm, v2.trans c2⟩)
end T
namespace T
noncomputable def rk (P : List Nat) (E : List (Nat × Nat)) : Nat := P.length - nc P E
def Ok (P : List Nat) (E : List (Nat × Nat)) : Prop := ∀ p ∈ E, p.1 ∈ P ∧ p.2 ∈ P
def tl (T : List (Nat × Nat)) (L : List Nat) : List (Nat × Nat) := L.map fun i => T.getD i (0, 0)
structure Lot (n : Nat) (L : List Nat) : Prop where
  inc : L.Pairwise (· < ·)
  inb : ∀ i ∈ L, i < n
structure Tree (P : List Nat) (T : List (Nat × Nat)) (L : List Nat) : Prop where
  lot : Lot T.length L
  size : L.length = rk P T
  full : rk P (tl T L) = rk P T
def srt (l : List Nat) : List Nat := l.mergeSort fun a b => decide (a ≤ b)
theorem srt_perm (l : List Nat) : (srt l).Perm l := List.mergeSort_perm l _
theorem srt_mem {l : List Nat} {a : Nat} : a ∈ srt l ↔ a ∈ l := (srt_perm l).mem_iff
theorem srt_inc {l : List Nat} (nd : l.Nodup) : (srt l).Pairwise (· < ·) := by
  have h1 : (srt l).Pairwise fun a b => decide (a ≤ b) = true := List.pairwise_mergeSort (fun a b c h1 h2 => by simp at *; omega) (fun a b => by simp; omega) l
  have h2 : (srt l).Nodup := (srt_perm l).nodup_iff.mpr nd
  have h3 := h1.and h2
  exact h3.imp fun {a b} h => by
    have := of_decide_eq_true h.1
    have := h.2
    omega
def out (L : List Nat) (o : Nat) : List Nat := L.filter fun k => decide (k ≠ o)
def put (L : List Nat) (o i : Nat) : List Nat := srt (out L o ++ [i])
theorem mem_out {L : List Nat} {o a : Nat} : a ∈ out L o ↔ a ∈ L ∧ a ≠ o := by unfold out; rw [List.mem_filter, decide_eq_true_eq]
theorem Lot.nd {n : Nat} {L : List Nat} (h : Lot n L) : L.Nodup := h.inc.imp fun a => Nat.ne_of_lt a
theorem out_nd {L : List Nat} {o : Nat} (h : L.Nodup) : (out L o).Nodup := h.filter _
theorem out_len : ∀ {L : List Nat} {o : Nat}, L.Nodup → o ∈ L → (out L o).length + 1 = L.length
  | [], _, _, h => by cases h
  | a :: r, o, nd, h => by
    obtain ⟨n1, n2⟩ := List.nodup_cons.mp nd
    unfold out
    by_cases e : a = o
    · subst e
      rw [List.filter_cons_of_neg (by simp), List.filter_eq_self.mpr, List.length_cons]
      intro b hb
      exact decide_eq_true fun z => n1 (z ▸ hb)
    · rw [List.filter_cons_of_pos (by simp [e]), List.length_cons, List.length_cons]
      have := out_len n2 (o := o) (by rcases List.mem_cons.mp h with z | z; exact absurd z.symm e; exact z)
      unfold out at this
      omega
theorem lot_eq : ∀ {A B : List Nat}, A.Pairwise (· < ·) → B.Pairwise (· < ·) → (∀ a, a ∈ A ↔ a ∈ B) → A = B
  | [], [], _, _, _ => rfl
  | [], b :: _, _, _, h => absurd ((h b).mpr (by simp)) (by simp)
  | a :: _, [], _, _, h => absurd ((h a).mp (by simp)) (by simp)
  | a :: A, b :: B, hA, hB, h => by
    obtain ⟨a1, a2⟩ := List.pairwise_cons.mp hA
    obtain ⟨b1, b2⟩ := List.pairwise_cons.mp hB
    have e : a = b := by
      rcases List.mem_cons.mp ((h a).mp (by simp)) with z | z
      · exact z
      · rcases List.mem_cons.mp ((h b).mpr (by simp)) with y | y
        · exact y.symm
        · have := b1 a z; have := a1 b y; omega
    subst e
    rw [lot_eq a2 b2 fun x => ?_]
    have := h x
    simp only [List.mem_cons] at this
    constructor
    · intro hx
      rcases this.mp (.inr hx) with z | z
      · subst z; exact absurd (a1 x hx) (Nat.lt_irrefl _)
      · exact z
    · intro hx
      rcases this.mpr (.inr hx) with z | z
      · subst z; exact absurd (b1 x hx) (Nat.lt_irrefl _)
      · exact z
end T
namespace T
open PySem L2 G
def c1 (a : Nat) : Str := ⟨#[a]⟩
def tS (p : Nat × Nat) : Str := ⟨#[p.1, p.2]⟩
def plS (P : List Nat) : Str := ⟨P.toArray⟩
abbrev plD (P : List Nat) : D := .str (plS P)
def wayD (p : Nat × Nat) : D := .str (tS p)
def natD (i : Nat) : D := .int (i : Nat)
def lotD (l : List Nat) : D := .tup (l.map natD)
def webD (P : List Nat) (T : List (Nat × Nat)) : D := .web (plS P) (T.map tS)
structure PlOk (P : List Nat) : Prop where
  inc : P.Pairwise (· < ·)
  let8 : ∀ a ∈ P, 97 ≤ a ∧ a ≤ 104
  pos : 0 < P.length
  few : P.length ≤ 7
structure WbOk (P : List Nat) (T : List (Nat × Nat)) : Prop where
  pl : PlOk P
  few : T.length ≤ 11
  ties : ∀ p ∈ T, p.1 ∈ P ∧ p.2 ∈ P ∧ p.1 ≤ p.2
theorem WbOk.ok {P : List Nat} {T : List (Nat × Nat)} (h : WbOk P T) : Ok P T := fun p hp => ⟨(h.ties p hp).1, (h.ties p hp).2.1⟩
theorem PlOk.nd {P : List Nat} (h : PlOk P) : P.Nodup := h.inc.imp fun a => Nat.ne_of_lt a
structure Herds (P : List Nat) (E : List (Nat × Nat)) (hs : List (List Nat)) : Prop where
  nd : hs.Nodup
  ne : ∀ h ∈ hs, h ≠ []
  inc : ∀ h ∈ hs, h.Pairwise (· < ·)
  cov : ∀ a ∈ P, ∃ h ∈ hs, a ∈ h
  inP : ∀ h ∈ hs, ∀ a ∈ h, a ∈ P
  cls : ∀ h ∈ hs, ∀ a ∈ h, ∀ b ∈ P, b ∈ h ↔ Conn E a b
def S_are_letters : G.Spec := fun as m Q => ∃ P, PlOk P ∧ as = [.val (plD P)] ∧ Q (.bl true) m
def S_are_places : G.Spec := S_are_letters
def S_is_tie : G.Spec := fun as m Q => ∃ (P : List Nat) (p : Nat × Nat), P.length ≤ 100 ∧ p.1 ∈ P ∧ p.2 ∈ P ∧ p.1 ≤ p.2 ∧ as = [.val (plD P), .val (wayD p)] ∧ Q (.bl true) m
def S_wrong_tie : G.Spec := fun as m Q => ∃ P T, WbOk P T ∧ as = [.val (plD P), .val (.tup (T.map wayD))] ∧ Q .non m
def S_check_web : G.Spec := fun as m Q => ∃ P T, as = [.val (webD P T)] ∧ Q .non m
def S_every_tie : G.Spec := fun as m Q => ∃ P T, T.length ≤ 11 ∧ as = [.val (webD P T)] ∧ Q (lotD (List.range T.length)) m
def Exc (P : List Nat) (T : List (Nat × Nat)) (L : List Nat) (k j : Nat) : Prop := (k ∈ L ∧ j ∉ L ∧ Tree P T (put L k j)) ∨ (k ∉ L ∧ j ∈ L ∧ Tree P T (put L j k))
open Classical in
noncomputable def exs (P : List Nat) (T : List (Nat × Nat)) (L : List Nat) (k : Nat) : List Nat := (List.range T.length).filter fun j => decide (Exc P T L k j)
def gen : Nat → List (List Nat)
  | 0 => [[]]
  | n + 1 => gen n ++ (gen n).map fun l => l ++ [n]
def ckOk : Nat → List V → Prop := fun _ xs => ∃ f s t : Int, xs = [.int f, .int s, .int t] ∧ 0 ≤ f ∧ 0 ≤ s ∧ s < 2147483629 ∧ 0 ≤ t ∧ t < 2147480009
def dMake (da : DA) : DE := fun env m Q => da env m fun as m1 => ∃ P T, WbOk P T ∧ as = [.val (plD P), .val (.tup (T.map wayD))] ∧ Q (webD P T) m1
theorem S_are_letters_len : ∀ as m Q, S_are_letters as m Q → as.length = 1 := by rintro as m Q ⟨_, _, rfl, _⟩; rfl
theorem S_are_places_len : ∀ as m Q, S_are_places as m Q → as.length = 1 := S_are_letters_len
theorem S_is_tie_len : ∀ as m Q, S_is_tie as m Q → as.length = 2 := by rintro as m Q ⟨_, _, _, _, _, _, rfl, _⟩; rfl
theorem S_wrong_tie_len : ∀ as m Q, S_wrong_tie as m Q → as.length = 2 := by rintro as m Q ⟨_, _, _, rfl, _⟩; rfl
theorem S_check_web_len : ∀ as m Q, S_check_web as m Q → as.length = 1 := by rintro as m Q ⟨_, _, rfl, _⟩; rfl
theorem S_every_tie_len : ∀ as m Q, S_every_tie as m Q → as.length = 1 := by rintro as m Q ⟨_, _, _, rfl, _⟩; rfl
abbrev padn (n : Nat) (as : List Sl) : Env' := as ++ List.replicate (n - as.length) .no
abbrev fin (Q : D → Nat → Prop) : DEnds := { nx := fun _ m => Q .non m, rt := Q }
end T
namespace T
open PySem L2 G
def d_are_letters : DS := (dSeq (dIf (dOr (dNot (dTest (dIsi isStrD (dVarB 0)))) (dTest (dOp neD (dLenDc (dISrc (dVarB 0)) (tgN 1) (dVar 1) (dC (.bl true)) [1]) (dCallB lenD0 (dConsL (dVarB 0) dNilL))))) (dRet (dC (.bl false))) dNext)
  (dRet (dCallB allD (dConsL (dNew (dLc (dISrc (dVarB 0)) (tgN 1) dYes (dOp inD (dVarB 1) (dC (.str "abcdefgh"))) [1])) dNilL))))
abbrev n_are_letters : Nat := 2
def d_are_places : DS := (dRet (dAndV (dCall S_are_letters (dConsA (dVar 0) dNilA)) (dAndV (dChain ltD leD (dC (.int 0)) (dCallB lenD0 (dConsL (dVarB 0) dNilL)) (dC (.int 7))) (dOp eqD (dNew (dCallN listD (dConsL (dVarB 0) dNilL))) (dNew (dCallN sortedD (dConsL (dVarB 0) dNilL)))))))
abbrev n_are_places : Nat := 1
def d_is_tie : DS := (dSeq (dIf (dOr (dNot (dTest (dIsi isStrD (dVarB 1)))) (dTest (dOp neD (dCallB lenD0 (dConsL (dVarB 1) dNilL)) (dC (.int 2))))) (dRet (dC (.bl false))) dNext)
  (dRet (dAndV (dOp inD (dOp ixD (dVarB 1) (dC (.int 0))) (dVarB 0)) (dAndV (dOp inD (dOp ixD (dVarB 1) (dC (.int 1))) (dVarB 0)) (dOp leD (dOp ixD (dVarB 1) (dC (.int 0))) (dOp ixD (dVarB 1) (dC (.int 1))))))))
abbrev n_is_tie : Nat := 2
def d_wrong_tie : DS := (dSeq (dFor (dIEnum (dVar 1)) (tgT (tgCons (tgN 2) (tgCons (tgN 3) tgNil)) 2) (dIf (dOr (dTest (dOp eqD (dVarB 2) (dC (.int 11)))) (dNot (dTest (dCall S_is_tie (dConsA (dVar 0) (dConsA (dVar 3) dNilA)))))) (dRet (dVar 2)) dNext))
  (dRet (dC .non)))
abbrev n_wrong_tie : Nat := 4
def d_check_web : DS := (dIf (dNot (dTest (dIsi isWebD (dVarB 0)))) dNever dNext)
abbrev n_check_web : Nat := 1
def d_every_tie : DS := (dRet (dTupRg (dCallB lenD (dConsL (dVarB 0) dNilL))))
abbrev n_every_tie : Nat := 1
end T
namespace T
open PySem L2 G
theorem llv : LL = 100000 := rfl
theorem plS_len (P : List Nat) : (plS P).length = P.length := rfl
theorem chars_plS (P : List Nat) : charsD (plS P) = P.map fun a => D.str (c1 a) := rfl
theorem in_pl (a : Nat) (P : List Nat) : inD (.str (c1 a)) (.str (plS P)) = some (.bl (decide (a ∈ P))) := rfl
theorem all_true {α : Type} (P : List α) : allD [.lst (P.map fun _ => D.bl true)] = some (.bl true) := by
  have e : (P.map fun _ => D.bl true) = (P.map fun _ => true).map D.bl := by rw [List.map_map]; rfl
  show (bools _).map _ = _
  rw [e, bools_of]
  simp
theorem letters_in (a : Nat) (h : 97 ≤ a ∧ a ≤ 104) : inD (.str (c1 a)) (.str "abcdefgh") = some (.bl true) := by
  have e : (Str.ofString "abcdefgh") = plS [97, 98, 99, 100, 101, 102, 103, 104] := by decide +kernel
  rw [e, in_pl]
  have : a ∈ [97, 98, 99, 100, 101, 102, 103, 104] := by simp; omega
  rw [decide_eq_true this]
theorem c1_inj {a b : Nat} (h : c1 a = c1 b) : a = b := by
  have : (c1 a).cps.toList = (c1 b).cps.toList := by rw [h]
  simpa [c1] using this
theorem c1_eq (a b : Nat) : decide (c1 a = c1 b) = decide (a = b) := by
  by_cases h : a = b
  · subst h; simp
  · rw [decide_eq_false h, decide_eq_false fun z => h (c1_inj z)]
theorem dk_nodup (env : Env') (he : env.length = 2) : ∀ (P : List Nat) (ks : List Key) (m : Nat) (Q : List Key → Nat → Prop), P.Nodup → (∀ a ∈ P, ∀ k ∈ ks, k ≠ .inr (c1 a)) → Q (ks ++ P.map fun a => .inr (c1 a)) m →
    DkR (tgN 1) (dVar 1) (dC (.bl true)) env (P.map fun a => D.str (c1 a)) m ks Q
  | [], ks, m, Q, _, _, q => by
    rw [List.map_nil, List.append_nil] at q
    exact q
  | a :: r, ks, m, Q, nd, ne, q => by
    refine ⟨_, rfl, .str (c1 a), ?_, .inr (c1 a), rfl, ?_⟩
    · rw [List.getElem?_set_self (by omega)]; rfl
    · have e : putKey ks (.inr (c1 a)) = ks ++ [.inr (c1 a)] := by
        unfold putKey
        rw [if_neg]
        intro z
        obtain ⟨k, hk, h⟩ := List.any_eq_true.mp z
        exact ne a (by simp) k hk (of_decide_eq_true h)
      rw [e]
      obtain ⟨n1, n2⟩ := List.nodup_cons.mp nd
      refine dk_nodup env he r _ m Q n2 (fun b hb k hk => ?_) (by rw [List.append_assoc]; exact q)
      rcases List.mem_append.mp hk with hk | hk
      · exact ne b (by simp [hb]) k hk
      · rw [List.mem_singleton] at hk
        subst hk
        intro z
        have := c1_inj (Sum.inr.inj z)
        subst this
        exact n1 hb
theorem law_are_letters : ∀ as m Q, S_are_letters as m Q → d_are_letters (padn n_are_letters as) m (fin Q) := by
  rintro as m Q ⟨P, hP, rfl, q⟩
  have hl : P.length ≤ LL := Nat.le_trans hP.few (by decide)
  refine ⟨_, rfl, true, rfl, true, rfl, ?_⟩
  refine ⟨_, rfl, _, rfl, ?_, ?_⟩
  · rw [chars_plS, List.length_map]; exact hl
  · rw [chars_plS]
    refine dk_nodup _ rfl P [] m _ hP.nd (fun _ _ _ h => by simp at h) ?_
    refine ⟨_, rfl, .int (P.length : Nat), if_pos hl, .bl false, ?_, false, rfl, ?_⟩
    · show neD (.int _) (.int _) = _
      simp [neD, eqB_int]
    · refine ⟨_, rfl, _, rfl, ?_, ?_⟩
      · rw [chars_plS, List.length_map]; exact hl
      · rw [chars_plS]
        refine lcR_m (fun a => D.str (c1 a)) (fun _ => .bl true) P m _ (fun a ha => ⟨_, rfl, fun m Q q => ⟨_, rfl, _, letters_in a (hP.let8 a ha), q⟩⟩) ?_
        exact ⟨_, all_true P, q⟩
theorem sLt_c1 (a b : Nat) : sLt (c1 a) (c1 b) = decide (a < b) := by
  unfold sLt c1
  show decide ([a] < [b]) = _
  by_cases h : a < b
  · rw [decide_eq_true h, decide_eq_true (List.cons_lt_cons_iff.mpr (.inl h))]
  · rw [decide_eq_false h, decide_eq_false]
    intro z
    rcases List.cons_lt_cons_iff.mp z with y | ⟨_, y⟩
    · exact h y
    · exact absurd y (by simp)
theorem lt_c1 (a b : Nat) : D.lt (.str (c1 a)) (.str (c1 b)) = decide (a < b) := by
  show PySem.W.dataLt (.str (c1 a)) (.str (c1 b)) = _
  rw [PySem.W.dataLt_str, ← sLt_c1]
  rfl
theorem sort_c1 {P : List Nat} (h : P.Pairwise (· < ·)) : sortL (P.map fun a => D.str (c1 a)) = P.map fun a => D.str (c1 a) := by
  unfold sortL
  refine List.mergeSort_of_pairwise ?_
  rw [List.pairwise_map]
  refine h.imp fun {a b} hab => ?_
  rw [lt_c1]
  simp; omega
theorem okdL_c1 (n : Nat) : ∀ P : List Nat, (∀ a ∈ P, a < 1000) → okdL (P.map fun a => D.str (c1 a)) n = true
  | [], _ => rfl
  | a :: r, h => by
    rw [List.map_cons]
    unfold okdL
    rw [okdL_c1 n r fun b hb => h b (by simp [hb])]
    have : D.okd (.str (c1 a)) n = true := by
      have ha := h a (by simp)
      show PyData.strOk (c1 a) = true
      unfold PyData.strOk c1
      simp
      omega
    rw [this]; rfl
theorem eqvL_self_c1 : ∀ P : List Nat, PyData.eqvAll (pyL (P.map fun a => D.str (c1 a))) (pyL (P.map fun a => D.str (c1 a))) = true
  | [] => rfl
  | a :: r => by
    simp only [List.map_cons, pyL, D.py, PyData.eqvAll, eqvL_self_c1 r]
    simp [PyData.eqv]
theorem law_are_places : ∀ as m Q, S_are_places as m Q → d_are_places (padn n_are_places as) m (fin Q) := by
  rintro as m Q ⟨P, hP, rfl, q⟩
  have hl : P.length ≤ LL := Nat.le_trans hP.few (by decide)
  refine ⟨_, rfl, P, hP, rfl, true, rfl, ?_⟩
  refine ⟨_, rfl, .int (P.length : Nat), if_pos hl, true, ?_, ?_⟩
  · show some (D.bl (decide ((0 : Int) < (P.length : Nat)))) = _
    rw [decide_eq_true (by have := hP.pos; omega)]
  · refine ⟨.bl true, ?_, true, rfl, ?_⟩
    · show some (D.bl (decide (((P.length : Nat) : Int) ≤ 7))) = _
      rw [decide_eq_true (by have := hP.few; omega)]
    · refine ⟨_, rfl, P.map fun a => D.str (c1 a), if_pos hl, _, rfl, P.map fun a => D.str (c1 a), ?_, .bl true, ?_, q⟩
      · show (if _ then some (sortL (charsD (plS P))) else none) = _
        rw [if_pos (by rw [plS_len]; exact hl), chars_plS, sort_c1 hP.inc]
      · show (deepEq _ _).map _ = _
        unfold deepEq
        have hk := okdL_c1 59 P fun a ha => by have := hP.let8 a ha; omega
        rw [if_pos (by simp only [D.okd, hk]; rfl)]
        simp only [D.py]
        show some (D.bl (PyData.eqvAll _ _)) = _
        rw [eqvL_self_c1]
theorem ix_t0 (p : Nat × Nat) : ixD (.str (tS p)) (.int 0) = some (.str (c1 p.1)) := rfl
theorem ix_t1 (p : Nat × Nat) : ixD (.str (tS p)) (.int 1) = some (.str (c1 p.2)) := rfl
theorem law_is_tie : ∀ as m Q, S_is_tie as m Q → d_is_tie (padn n_is_tie as) m (fin Q) := by
  rintro as m Q ⟨P, p, _, h1, h2, h3, rfl, q⟩
  refine ⟨_, rfl, true, rfl, true, rfl, ?_⟩
  refine ⟨_, rfl, .int 2, rfl, .bl false, rfl, false, rfl, ?_⟩
  refine ⟨_, rfl, _, ix_t0 p, _, rfl, .bl true, ?_, true, rfl, ?_⟩
  · rw [in_pl, decide_eq_true h1]
  · refine ⟨_, rfl, _, ix_t1 p, _, rfl, .bl true, ?_, true, rfl, ?_⟩
    · rw [in_pl, decide_eq_true h2]
    · refine ⟨_, rfl, _, ix_t0 p, _, rfl, _, ix_t1 p, .bl true, ?_, q⟩
      show some (D.bl (!sLt (c1 p.2) (c1 p.1))) = _
      rw [sLt_c1, decide_eq_false (by omega)]; rfl
theorem law_check_web : ∀ as m Q, S_check_web as m Q → d_check_web (padn n_check_web as) m (fin Q) := by
  rintro as m Q ⟨P, T, rfl, q⟩
  exact ⟨_, rfl, true, rfl, true, rfl, q⟩
theorem drop_cons {α : Type} {l : List α} {k : Nat} {d : α} {ds : List α} (h : d :: ds = l.drop k) : l[k]? = some d ∧ ds = l.drop (k + 1) := by
  have hk : k < l.length := by
    apply Classical.byContradiction
    intro z
    rw [List.drop_eq_nil_of_le (by omega)] at h
    cases h
  rw [List.drop_eq_getElem_cons hk] at h
  injection h with h1 h2
  exact ⟨by rw [h1]; exact List.getElem?_eq_getElem hk, h2⟩
theorem enum_get {ds : List D} {k : Nat} {x : D} (h : (enumD ds)[k]? = some x) : ∃ d, ds[k]? = some d ∧ x = .tup [.int (k : Nat), d] := by
  unfold enumD at h
  rw [List.getElem?_map, List.getElem?_zipIdx] at h
  cases e : ds[k]? with
  | none => rw [e] at h; simp at h
  | some d => rw [e] at h; simp at h; exact ⟨d, rfl, h.symm⟩
theorem law_wrong_tie : ∀ as m Q, S_wrong_tie as m Q → d_wrong_tie (padn n_wrong_tie as) m (fin Q) := by
  rintro as m Q ⟨P, T, hW, rfl, q⟩
  refine ⟨_, rfl, _, rfl, ?_⟩
  refine forR_ind (fun its env m' => m' = m ∧ (∃ x y, env = [.val (.str (plS P)), .val (.tup (T.map wayD)), x, y]) ∧ ∃ k, its = (enumD (T.map wayD)).drop k) ?_ ?_ _ _ _ ⟨rfl, ⟨_, _, rfl⟩, 0, rfl⟩
  · rintro env m' ⟨rfl, _, _⟩
    exact q
  · rintro d ds env m' ⟨rfl, ⟨x, y, rfl⟩, k, hk⟩
    obtain ⟨h1, h2⟩ := drop_cons hk
    obtain ⟨z, h3, rfl⟩ := enum_get h1
    rw [List.getElem?_map] at h3
    obtain ⟨p, hp, rfl⟩ := Option.map_eq_some_iff.mp h3
    have hkl : k < T.length := (List.getElem?_eq_some_iff.mp hp).1
    obtain ⟨t1, t2, t3⟩ := hW.ties p (List.mem_of_getElem? hp)
    have hk11 : ((k : Int) = 11) = False := by
      have := hW.few
      simp; omega
    refine ⟨_, rfl, fun K hK => ⟨_, rfl, .bl false, ?_, false, rfl, ?_⟩⟩
    · rw [eqD_int]; simp [hk11]
    · exact ⟨_, rfl, _, rfl, P, p, Nat.le_trans hW.pl.few (by decide), t1, t2, t3, rfl, true, rfl, hK _ _ ⟨rfl, ⟨_, _, rfl⟩, k + 1, h2⟩⟩
theorem empty_is : (Str.ofString "") = plS [] := by decide +kernel
theorem len11 {n : Nat} (h : n ≤ 11) : n ≤ LL := Nat.le_trans h (by decide)
theorem ix_pl {P : List Nat} {d a : Nat} (hl : P.length ≤ LL) (h : P[d]? = some a) : ixD (.str (plS P)) (.int (d : Nat)) = some (.str (c1 a)) := by
  show (if (plS P).length ≤ LL then (atI P (d : Int)).map _ else none) = _
  rw [if_pos (by rw [plS_len]; exact hl), atI_nat h]; rfl
theorem joinL_sing : ∀ cs : List Nat, TL.joinL [] (cs.map fun c => [c]) = cs
  | [] => rfl
  | [c] => rfl
  | c :: d :: r => by
    show [c] ++ ([] ++ TL.joinL [] ((d :: r).map fun c => [c])) = _
    rw [joinL_sing (d :: r)]; rfl
theorem join_c1 (cs : List Nat) : Txt.join "" (cs.map c1) = plS cs := by
  have := SX.join_S [] (cs.map fun c => [c])
  rw [joinL_sing, List.map_map] at this
  rw [empty_is]
  exact this
theorem sum_ones : ∀ cs : List Nat, (((cs.map c1).map (·.length)).sum) = cs.length
  | [] => rfl
  | c :: r => by
    rw [List.map_cons, List.map_cons, List.sum_cons, sum_ones r, List.length_cons]
    show 1 + _ = _
    omega
theorem joinD_c1 (cs : List Nat) (h : cs.length ≤ LL) : joinD (.str "") [.lst (cs.map fun c => D.str (c1 c))] = some (.str (plS cs)) := by
  have e : (cs.map fun c => D.str (c1 c)) = (cs.map c1).map D.str := by rw [List.map_map]; rfl
  show (strsD _).bind _ = _
  rw [e, strsD_of]
  show (if joinOk "" (cs.map c1) then some (D.str (Txt.join "" (cs.map c1))) else none) = _
  rw [if_pos, join_c1]
  unfold joinOk
  rw [sum_ones]
  refine decide_eq_true ?_
  have : (Str.ofString "").length = 0 := by decide +kernel
  rw [this]
  have : LL = 100000 := rfl
  omega
theorem natD_map (n : Nat) : rangeD 0 (n : Int) = (List.range n).map natD := rangeD_nat n
theorem ix_tup {α : Type} {f : α → D} {xs : List α} {i : Nat} {x : α} (h : xs[i]? = some x) : ixD (.tup (xs.map f)) (natD i) = some (f x) := by
  show atI (xs.map f) (i : Int) = _
  exact atI_nat (by rw [List.getElem?_map, h]; rfl)
end T
namespace T
open PySem L2 G
theorem lenW (P : List Nat) (T : List (Nat × Nat)) : lenD [webD P T] = some (natD T.length) := by
  show some (D.int ((T.map tS).length : Nat)) = _
  rw [List.length_map]; rfl
theorem law_every_tie : ∀ as m Q, S_every_tie as m Q → d_every_tie (padn n_every_tie as) m (fin Q) := by
  rintro as m Q ⟨P, T, h11, rfl, q⟩
  refine ⟨_, rfl, _, lenW P T, T.length, rfl, by have := llv; omega, ?_⟩
  have e : D.tup (rangeD 0 (T.length : Nat)) = lotD (List.range T.length) := by rw [natD_map]; rfl
  rw [e]; exact q
theorem ts_map (T : List (Nat × Nat)) : (T.map tS).map D.str = T.map wayD := by rw [List.map_map]; rfl
theorem Herds.count {P : List Nat} {E : List (Nat × Nat)} {hs : List (List Nat)} (nd : P.Nodup) (h : Herds P E hs) : hs.length = nc P E := by
  classical
  have ex : ∀ a, ∃ x, a ∈ P → x ∈ hs ∧ a ∈ x := fun a => by
    by_cases ha : a ∈ P
    · obtain ⟨x, h1, h2⟩ := h.cov a ha
      exact ⟨x, fun _ => ⟨h1, h2⟩⟩
    · exact ⟨[], fun z => absurd z ha⟩
  have one : ∀ x ∈ hs, ∀ y ∈ hs, ∀ a, a ∈ x → a ∈ y → x = y := fun x hx y hy a ax ay => by
    refine lot_eq (h.inc x hx) (h.inc y hy) fun b => ?_
    constructor
    · intro hb
      exact (h.cls y hy a ay b (h.inP x hx b hb)).mpr ((h.cls x hx a ax b (h.inP x hx b hb)).mp hb)
    · intro hb
      exact (h.cls x hx a ax b (h.inP y hy b hb)).mpr ((h.cls y hy a ay b (h.inP y hy b hb)).mp hb)
  refine nc_of nd (fun a => (ex a).choose) (fun a ha b hb => ?_) h.nd fun x => ?_
  · obtain ⟨a1, a2⟩ := (ex a).choose_spec ha
    obtain ⟨b1, b2⟩ := (ex b).choose_spec hb
    constructor
    · intro e
      have e' : (ex a).choose = (ex b).choose := e
      rw [← e'] at b2
      exact (h.cls _ a1 a a2 b hb).mp b2
    · intro c
      exact one _ a1 _ b1 b ((h.cls _ a1 a a2 b hb).mpr c) b2
  · constructor
    · intro hx
      obtain ⟨a, l, e⟩ : ∃ a l, x = a :: l := by
        cases x with
        | nil => exact absurd rfl (h.ne _ hx)
        | cons a l => exact ⟨a, l, rfl⟩
      have ax : a ∈ x := by rw [e]; simp
      have ha := h.inP x hx a ax
      obtain ⟨a1, a2⟩ := (ex a).choose_spec ha
      exact ⟨a, ha, one _ a1 x hx a a2 ax⟩
    · rintro ⟨a, ha, rfl⟩
      exact ((ex a).choose_spec ha).1
theorem len_lst {α : Type} (f : α → D) (xs : List α) : lenD0 [.lst (xs.map f)] = some (natD xs.length) := by
  show some (D.int ((xs.map f).length : Nat)) = _
  rw [List.length_map]; rfl
theorem len_tup {α : Type} (f : α → D) (xs : List α) : lenD0 [.tup (xs.map f)] = some (natD xs.length) := by
  show some (D.int ((xs.map f).length : Nat)) = _
  rw [List.length_map]; rfl
theorem len7 {P : List Nat} (h : PlOk P) : P.length ≤ LL := Nat.le_trans h.few (by decide)
theorem ne_nat (a b : Nat) : neD (natD a) (natD b) = some (.bl (decide (a ≠ b))) := by
  show (eqB (.int (a : Nat)) (.int (b : Nat))).map _ = _
  rw [eqB_int]
  show some (D.bl (!decide ((a : Int) = (b : Nat)))) = _
  by_cases h : a = b
  · subst h; simp
  · have : ¬ (a : Int) = (b : Nat) := by omega
    simp [h, this]
theorem eq_nat (a b : Nat) : eqD (natD a) (natD b) = some (.bl (decide (a = b))) := by
  show eqD (.int (a : Nat)) (.int (b : Nat)) = _
  rw [eqD_int]
  by_cases h : a = b
  · subst h; simp
  · have : ¬ (a : Int) = (b : Nat) := by omega
    simp [h, this]
theorem lt_nat (a b : Nat) : D.lt (natD a) (natD b) = decide (a < b) := by
  show PySem.W.dataLt (.int (a : Nat)) (.int (b : Nat)) = _
  rw [PySem.W.dataLt_int]
  by_cases h : a < b
  · rw [decide_eq_true h, decide_eq_true]; omega
  · rw [decide_eq_false h, decide_eq_false]; omega
theorem sort_nat (l : List Nat) : sortL (l.map natD) = (srt l).map natD := by
  unfold sortL srt
  have := List.map_mergeSort (r := fun a b : Nat => decide (a ≤ b)) (s := fun a b : D => !D.lt b a) (f := natD) (l := l) (fun a _ b _ => by
    rw [lt_nat]
    by_cases h : a ≤ b
    · rw [decide_eq_true h, decide_eq_false (by omega)]; rfl
    · rw [decide_eq_false h, decide_eq_true (by omega)]; rfl)
  exact this.symm
theorem sortOk_nat {l : List Nat} (h : l.length ≤ LL) : sortOk (l.map natD) = true := by
  unfold sortOk
  simp only [Bool.and_eq_true, Bool.or_eq_true, decide_eq_true_eq]
  refine ⟨⟨⟨?_, .inr ?_⟩, ?_⟩, by rw [List.length_map]; exact h⟩
  · unfold alikeL
    rw [List.all_eq_true]
    intro a ha
    rw [List.all_eq_true]
    intro b hb
    obtain ⟨i, _, rfl⟩ := List.mem_map.mp ha
    obtain ⟨j, _, rfl⟩ := List.mem_map.mp hb
    rfl
  · rw [List.all_eq_true]
    intro a ha
    obtain ⟨i, _, rfl⟩ := List.mem_map.mp ha
    rfl
  · rw [List.all_eq_true]
    intro a ha
    obtain ⟨i, _, rfl⟩ := List.mem_map.mp ha
    rfl
theorem Lot.few {n : Nat} {L : List Nat} (h : Lot n L) : L.length ≤ n := by
  have := len_le_of_sub (m := List.range n) h.nd fun a ha => List.mem_range.mpr (h.inb a ha)
  rwa [List.length_range] at this
end T
namespace T
open PySem L2 G
theorem Herds.one {P : List Nat} {E : List (Nat × Nat)} {hs : List (List Nat)} (h : Herds P E hs) : ∀ x ∈ hs, ∀ y ∈ hs, ∀ a, a ∈ x → a ∈ y → x = y := fun x hx y hy a ax ay => by
  refine lot_eq (h.inc x hx) (h.inc y hy) fun b => ?_
  constructor
  · intro hb
    exact (h.cls y hy a ay b (h.inP x hx b hb)).mpr ((h.cls x hx a ax b (h.inP x hx b hb)).mp hb)
  · intro hb
    exact (h.cls x hx a ax b (h.inP y hy b hb)).mpr ((h.cls y hy a ay b (h.inP y hy b hb)).mp hb)
theorem Herds.perm {P : List Nat} {E : List (Nat × Nat)} {hs ks : List (List Nat)} (h : Herds P E hs) (p : ks.Perm hs) : Herds P E ks where
  nd := p.nodup_iff.mpr h.nd
  ne := fun x hx => h.ne x (p.mem_iff.mp hx)
  inc := fun x hx => h.inc x (p.mem_iff.mp hx)
  cov := fun a ha => by obtain ⟨x, h1, h2⟩ := h.cov a ha; exact ⟨x, p.mem_iff.mpr h1, h2⟩
  inP := fun x hx => h.inP x (p.mem_iff.mp hx)
  cls := fun x hx => h.cls x (p.mem_iff.mp hx)
def met (u v : Nat) (h : List Nat) : Bool := decide (u ∈ h) || decide (v ∈ h)
def whole (u v : Nat) (hs : List (List Nat)) : List Nat := srt (hs.filter (met u v)).flatten
theorem Herds.start {P : List Nat} (nd : P.Nodup) : Herds P [] (P.map fun a => [a]) where
  nd := by
    rw [List.Nodup, List.pairwise_map]
    exact nd.imp fun h e => h (List.head_eq_of_cons_eq e)
  ne := fun x hx => by obtain ⟨a, _, rfl⟩ := List.mem_map.mp hx; simp
  inc := fun x hx => by obtain ⟨a, _, rfl⟩ := List.mem_map.mp hx; simp
  cov := fun a ha => ⟨[a], List.mem_map.mpr ⟨a, ha, rfl⟩, by simp⟩
  inP := fun x hx b hb => by
    obtain ⟨a, ha, rfl⟩ := List.mem_map.mp hx
    rw [List.mem_singleton] at hb; subst hb; exact ha
  cls := fun x hx a ha b hb => by
    obtain ⟨c, hc, rfl⟩ := List.mem_map.mp hx
    rw [List.mem_singleton] at ha ⊢
    subst ha
    exact ⟨fun e => by rw [e]; exact .refl _, fun e => e.nil.symm⟩
theorem mem_whole {P : List Nat} {E : List (Nat × Nat)} {hs : List (List Nat)} {u v : Nat} (h : Herds P E hs) (hu : u ∈ P) (hv : v ∈ P) {a : Nat} : a ∈ whole u v hs ↔ a ∈ P ∧ (Conn E u a ∨ Conn E v a) := by
  unfold whole
  rw [srt_mem, List.mem_flatten]
  constructor
  · rintro ⟨x, hx, ha⟩
    obtain ⟨h1, h2⟩ := List.mem_filter.mp hx
    have haP := h.inP x h1 a ha
    refine ⟨haP, ?_⟩
    unfold met at h2
    simp only [Bool.or_eq_true, decide_eq_true_eq] at h2
    rcases h2 with h2 | h2
    · exact .inl ((h.cls x h1 u h2 a haP).mp ha)
    · exact .inr ((h.cls x h1 v h2 a haP).mp ha)
  · rintro ⟨haP, c | c⟩
    · obtain ⟨x, h1, h2⟩ := h.cov u hu
      exact ⟨x, List.mem_filter.mpr ⟨h1, by unfold met; simp [h2]⟩, (h.cls x h1 u h2 a haP).mpr c⟩
    · obtain ⟨x, h1, h2⟩ := h.cov v hv
      exact ⟨x, List.mem_filter.mpr ⟨h1, by unfold met; simp [h2]⟩, (h.cls x h1 v h2 a haP).mpr c⟩
theorem Herds.step {P : List Nat} {E : List (Nat × Nat)} {hs : List (List Nat)} {u v : Nat} (h : Herds P E hs) (hu : u ∈ P) (hv : v ∈ P) : Herds P (E ++ [(u, v)]) (whole u v hs :: hs.filter fun x => !met u v x) := by
  have nmet : ∀ x, (!met u v x) = true → u ∉ x ∧ v ∉ x := fun x hx => by
    unfold met at hx
    simpa using hx
  have up : ∀ {x y : Nat}, Conn E x y → Conn (E ++ [(u, v)]) x y := fun c => conn_of_add (.inl c)
  have uv : Conn (E ++ [(u, v)]) u v := .tie (p := (u, v)) (by simp)
  have uw : u ∈ whole u v hs := (mem_whole h hu hv).mpr ⟨hu, .inl (.refl _)⟩
  refine ⟨List.nodup_cons.mpr ⟨fun z => (nmet _ (List.mem_filter.mp z).2).1 uw, h.nd.filter _⟩, fun x hx => ?_, fun x hx => ?_, fun a ha => ?_, fun x hx b hb => ?_, fun x hx a ha b hb => ?_⟩
  · rcases List.mem_cons.mp hx with rfl | hx
    · exact List.ne_nil_of_mem uw
    · exact h.ne x (List.mem_filter.mp hx).1
  · rcases List.mem_cons.mp hx with rfl | hx
    · refine srt_inc ?_
      rw [List.Nodup, List.pairwise_flatten]
      refine ⟨fun y hy => (h.inc y (List.mem_filter.mp hy).1).imp fun {a b} q => Nat.ne_of_lt q, ?_⟩
      refine (h.nd.filter _).imp_of_mem fun {y z} hy hz hne a ay b bz e => ?_
      subst e
      exact hne (h.one y (List.mem_filter.mp hy).1 z (List.mem_filter.mp hz).1 a ay bz)
    · exact h.inc x (List.mem_filter.mp hx).1
  · obtain ⟨x, h1, h2⟩ := h.cov a ha
    cases e : met u v x with
    | true =>
      refine ⟨_, List.mem_cons_self, ?_⟩
      unfold whole
      rw [srt_mem, List.mem_flatten]
      exact ⟨x, List.mem_filter.mpr ⟨h1, e⟩, h2⟩
    | false => exact ⟨x, List.mem_cons_of_mem _ (List.mem_filter.mpr ⟨h1, by rw [e]; rfl⟩), h2⟩
  · rcases List.mem_cons.mp hx with rfl | hx
    · exact ((mem_whole h hu hv).mp hb).1
    · exact h.inP x (List.mem_filter.mp hx).1 b hb
  · rcases List.mem_cons.mp hx with rfl | hx
    · obtain ⟨haP, ca⟩ := (mem_whole h hu hv).mp ha
      have cu : Conn (E ++ [(u, v)]) u a := ca.elim up fun c => uv.trans (up c)
      rw [mem_whole h hu hv]
      constructor
      · rintro ⟨_, cb⟩
        exact cu.symm.trans (cb.elim up fun c => uv.trans (up c))
      · intro c
        refine ⟨hb, ?_⟩
        rcases conn_add (cu.trans c) with c | ⟨_, c⟩ | ⟨_, c⟩
        · exact .inl c
        · exact .inr c
        · exact .inl c
    · obtain ⟨h1, h2⟩ := List.mem_filter.mp hx
      obtain ⟨n1, n2⟩ := nmet x h2
      rw [h.cls x h1 a ha b hb]
      refine ⟨up, fun c => ?_⟩
      rcases conn_add c with c | ⟨c, _⟩ | ⟨c, _⟩
      · exact c
      · exact absurd ((h.cls x h1 a ha u hu).mpr c) n1
      · exact absurd ((h.cls x h1 a ha v hv).mpr c) n2
end T
namespace T
open PySem L2 G
theorem plS_inj {a b : List Nat} (h : plS a = plS b) : a = b := by
  have : (plS a).cps.toList = (plS b).cps.toList := by rw [h]
  simpa [plS] using this
theorem joinL_nil : ∀ hs : List (List Nat), TL.joinL [] hs = hs.flatten
  | [] => rfl
  | [c] => by show c = _; simp
  | c :: d :: r => by
    show c ++ ([] ++ TL.joinL [] (d :: r)) = _
    rw [joinL_nil (d :: r)]; rfl
theorem join_pl (hs : List (List Nat)) : Txt.join "" (hs.map plS) = plS hs.flatten := by
  have := SX.join_S [] hs
  rw [joinL_nil] at this
  rw [empty_is]
  exact this
theorem sum_len : ∀ hs : List (List Nat), ((hs.map plS).map (·.length)).sum = hs.flatten.length
  | [] => rfl
  | c :: r => by
    rw [List.map_cons, List.map_cons, List.sum_cons, sum_len r, List.flatten_cons, List.length_append]; rfl
theorem joinD_pl {hs : List (List Nat)} (h : hs.flatten.length ≤ LL) : joinD (.str "") [.lst (hs.map plD)] = some (plD hs.flatten) := by
  have e : hs.map plD = (hs.map plS).map D.str := by rw [List.map_map]; rfl
  show (strsD _).bind _ = _
  rw [e, strsD_of]
  show (if joinOk "" (hs.map plS) then some (D.str (Txt.join "" (hs.map plS))) else none) = _
  rw [if_pos, join_pl]
  unfold joinOk
  rw [sum_len]
  refine decide_eq_true ?_
  have : (Str.ofString "").length = 0 := by decide +kernel
  rw [this]
  have : LL = 100000 := rfl
  omega
theorem in_plL (h : List Nat) (ks : List (List Nat)) : inB (plD h) (.lst (ks.map plD)) = some (decide (h ∈ ks)) := by
  have hf : (ks.map plD).all D.flat = true := by
    rw [List.all_eq_true]
    intro x hx
    obtain ⟨i, _, rfl⟩ := List.mem_map.mp hx
    rfl
  have e : inL (plD h) (ks.map plD) = decide (h ∈ ks) := by
    unfold inL
    rw [List.any_map]
    by_cases q : h ∈ ks
    · rw [decide_eq_true q, List.any_eq_true]
      exact ⟨h, q, by show (plS h == plS h) = true; simp⟩
    · rw [decide_eq_false q, List.any_eq_false]
      intro b hb z
      have z' : (plS b == plS h) = true := z
      exact q (plS_inj (by simpa using z') ▸ hb)
  show (if (plD h).flat && (ks.map plD).all D.flat then some (inL (plD h) (ks.map plD)) else none) = _
  rw [hf, e]; rfl
theorem strOk_pl {l : List Nat} (h : ∀ a ∈ l, a < 1000) : PyData.strOk (plS l) = true := by
  unfold PyData.strOk plS
  simp only [Array.all_eq_true', List.mem_toArray, Bool.and_eq_true, Bool.or_eq_true, decide_eq_true_eq] <;> first | (intro a ha; have := h a ha; simp; omega) | skip
theorem sortOk_pl {hs : List (List Nat)} (h : hs.length ≤ LL) (hc : ∀ x ∈ hs, ∀ a ∈ x, a < 1000) : sortOk (hs.map plD) = true := by
  unfold sortOk
  simp only [Bool.and_eq_true, Bool.or_eq_true, decide_eq_true_eq]
  refine ⟨⟨⟨?_, .inr ?_⟩, ?_⟩, by rw [List.length_map]; exact h⟩
  · unfold alikeL
    rw [List.all_eq_true]
    intro a ha
    rw [List.all_eq_true]
    intro b hb
    obtain ⟨i, _, rfl⟩ := List.mem_map.mp ha
    obtain ⟨j, _, rfl⟩ := List.mem_map.mp hb
    rfl
  · rw [List.all_eq_true]
    intro a ha
    obtain ⟨i, _, rfl⟩ := List.mem_map.mp ha
    rfl
  · rw [List.all_eq_true]
    intro a ha
    obtain ⟨i, hi, rfl⟩ := List.mem_map.mp ha
    show PyData.strOk (plS i) = true
    exact strOk_pl (hc i hi)
theorem Herds.flat_nd {P : List Nat} {E : List (Nat × Nat)} {hs : List (List Nat)} (h : Herds P E hs) (c : List Nat → Bool) : (hs.filter c).flatten.Nodup := by
  rw [List.Nodup, List.pairwise_flatten]
  refine ⟨fun y hy => (h.inc y (List.mem_filter.mp hy).1).imp fun {a b} q => Nat.ne_of_lt q, ?_⟩
  refine (h.nd.filter _).imp_of_mem fun {y z} hy hz hne a ay b bz e => ?_
  subst e
  exact hne (h.one y (List.mem_filter.mp hy).1 z (List.mem_filter.mp hz).1 a ay bz)
theorem Herds.flat_le {P : List Nat} {E : List (Nat × Nat)} {hs : List (List Nat)} (h : Herds P E hs) (c : List Nat → Bool) : (hs.filter c).flatten.length ≤ P.length :=
  len_le_of_sub (h.flat_nd c) fun a ha => by
    obtain ⟨x, hx, hax⟩ := List.mem_flatten.mp ha
    exact h.inP x (List.mem_filter.mp hx).1 a hax
theorem in_c (u : Nat) (h : List Nat) : inD (.str (c1 u)) (plD h) = some (.bl (decide (u ∈ h))) := in_pl u h
end T
namespace T
open PySem L2 G
structure HdOk (P : List Nat) (E : List (Nat × Nat)) (h : Nat → Nat) : Prop where
  iff : ∀ a ∈ P, ∀ b ∈ P, h a = h b ↔ Conn E a b
theorem HdOk.start {P : List Nat} : HdOk P [] id := ⟨fun a _ b _ => ⟨fun e => by have e' : a = b := e; rw [e']; exact .refl _, fun c => c.nil⟩⟩
theorem HdOk.step {P : List Nat} {E : List (Nat × Nat)} {h : Nat → Nat} {u v : Nat} (H : HdOk P E h) (hu : u ∈ P) (hv : v ∈ P) : HdOk P (E ++ [(u, v)]) fun x => if h x = max (h u) (h v) then min (h u) (h v) else h x := by
  refine ⟨fun a ha b hb => ?_⟩
  have k1 := H.iff a ha b hb
  have k2 := H.iff a ha u hu
  have k3 := H.iff v hv b hb
  have k4 := H.iff a ha v hv
  have k5 := H.iff u hu b hb
  have cc : Conn (E ++ [(u, v)]) a b ↔ h a = h b ∨ (h a = h u ∧ h v = h b) ∨ (h a = h v ∧ h u = h b) := by
    rw [k1, k2, k3, k4, k5]
    exact ⟨conn_add, conn_of_add⟩
  rw [cc]
  show (if h a = max (h u) (h v) then min (h u) (h v) else h a) = (if h b = max (h u) (h v) then min (h u) (h v) else h b) ↔ _
  rcases Nat.le_total (h u) (h v) with le | le
  · rw [Nat.max_eq_right le, Nat.min_eq_left le]
    constructor
    · intro e; split at e <;> split at e <;> omega
    · intro e; split <;> split <;> omega
  · rw [Nat.max_eq_left le, Nat.min_eq_right le]
    constructor
    · intro e; split at e <;> split at e <;> omega
    · intro e; split <;> split <;> omega
theorem min_c (a b : Nat) : minD2 [.str (c1 a), .str (c1 b)] = some (.str (c1 (min a b))) := by
  show some (D.str (if sLt (c1 b) (c1 a) then c1 b else c1 a)) = _
  rw [sLt_c1]
  by_cases h : b < a
  · rw [decide_eq_true h, if_pos rfl, Nat.min_eq_right (by omega)]
  · rw [decide_eq_false h, if_neg (by decide), Nat.min_eq_left (by omega)]
theorem max_c (a b : Nat) : maxD2 [.str (c1 a), .str (c1 b)] = some (.str (c1 (max a b))) := by
  show some (D.str (if sLt (c1 a) (c1 b) then c1 b else c1 a)) = _
  rw [sLt_c1]
  by_cases h : a < b
  · rw [decide_eq_true h, if_pos rfl, Nat.max_eq_right (by omega)]
  · rw [decide_eq_false h, if_neg (by decide), Nat.max_eq_left (by omega)]
theorem eq_c (a b : Nat) : eqD (.str (c1 a)) (.str (c1 b)) = some (.bl (decide (a = b))) := by rw [eqD_str, c1_eq]
end T
namespace T
open PySem L2 G
end T
namespace T
open PySem L2 G
abbrev cD (x : Nat) : D := .str (c1 x)
theorem erase_map {α β : Type} (f : α → β) : ∀ (l : List α) (k : Nat), (l.map f).eraseIdx k = (l.eraseIdx k).map f
  | [], _ => rfl
  | _ :: _, 0 => rfl
  | a :: r, k + 1 => by simp [erase_map f r k]
theorem erase_perm : ∀ (l : List Nat) (k : Nat) (x : Nat), l[k]? = some x → (x :: l.eraseIdx k).Perm l
  | [], _, _, h => by simp at h
  | a :: r, 0, x, h => by simp at h; subst h; exact .refl _
  | a :: r, k + 1, x, h => by
    have := erase_perm r k x (by simpa using h)
    simp only [List.eraseIdx_cons_succ]
    exact (List.Perm.swap a x _).trans (this.cons a)
theorem letters_chars : charsD (Str.ofString "abcdefgh") = [97, 98, 99, 100, 101, 102, 103, 104].map cD := by
  have e : (Str.ofString "abcdefgh") = plS [97, 98, 99, 100, 101, 102, 103, 104] := by decide +kernel
  rw [e]; rfl
theorem sortOk_c1 {l : List Nat} (h : l.length ≤ LL) (hs : ∀ a ∈ l, a < 1000) : sortOk (l.map cD) = true := by
  have h0 : alikeL (l.map cD) = true := by
    unfold alikeL
    rw [List.all_map]
    refine List.all_eq_true.mpr fun a _ => ?_
    show (l.map cD).all _ = true
    rw [List.all_map]
    exact List.all_eq_true.mpr fun b _ => rfl
  have h1 : (l.map cD).all D.noT = true := by rw [List.all_map]; exact List.all_eq_true.mpr fun _ _ => rfl
  have h2 : (l.map cD).all (·.okd 60) = true := by
    rw [List.all_map]
    refine List.all_eq_true.mpr fun a ha => ?_
    show PyData.strOk (c1 a) = true
    have := hs a ha
    unfold PyData.strOk c1
    simp
    omega
  unfold sortOk
  rw [h0, h1, h2, List.length_map, decide_eq_true h, Bool.or_true]; rfl
theorem sorted_c1 {l : List Nat} (h : l.length ≤ LL) (hs : ∀ a ∈ l, a < 1000) : sortedD [.lst (l.map cD)] = some ((srt l).map cD) := by
  show (if sortOk (l.map cD) then some (sortL (l.map cD)) else none) = _
  rw [if_pos (sortOk_c1 h hs)]
  congr 1
  unfold sortL srt
  refine (List.map_mergeSort fun a _ b _ => ?_).symm
  show decide (a ≤ b) = !D.lt (.str (c1 b)) (.str (c1 a))
  rw [lt_c1]
  by_cases h : a ≤ b
  · rw [decide_eq_true h, decide_eq_false (by omega)]; rfl
  · rw [decide_eq_false h, decide_eq_true (by omega)]; rfl
theorem add_c1 (a b : Nat) : addD (cD a) (cD b) = some (wayD (a, b)) := by
  show (if (c1 a).length + (c1 b).length ≤ LL then some (D.str (c1 a ++ c1 b)) else none) = _
  have h : (c1 a).length + (c1 b).length ≤ LL := (by decide : 2 ≤ LL)
  rw [if_pos h]
  rfl
theorem tie_mk {P : List Nat} {a b : Nat} (ha : a ∈ P) (hb : b ∈ P) : min a b ∈ P ∧ max a b ∈ P ∧ min a b ≤ max a b := by
  rcases Nat.le_total a b with h | h
  · rw [Nat.min_eq_left h, Nat.max_eq_right h]; exact ⟨ha, hb, h⟩
  · rw [Nat.min_eq_right h, Nat.max_eq_left h]; exact ⟨hb, ha, h⟩
end T
namespace G
open PySem L2
section
variable {g : Gp} {X : Cx} {a b e : Expr} {es : List Expr} {d da db dv dk : DE} {dl : DL} {pos p1 : Pos} {K : PySem.W.Frag}
def sumD : List D → Option D
  | [.lst ds] => (intsD ds).map fun ns => .int ns.sum
  | [.tup ds] => (intsD ds).map fun ns => .int ns.sum
  | _ => none
end
section
variable {g : Gp} {X : Cx} {K : PySem.W.Frag}
end
end G
namespace G
open PySem L2
section
variable {g : Gp} {X : Cx} {a b e : Expr} {es : List Expr} {d da db dv dk : DE} {dl : DL} {pos p1 : Pos} {K : PySem.W.Frag}
end
end G
namespace G
open PySem L2 PySem.Spec PyProof.Rows
section
variable {g : Gp} {X : Cx} {a b e : Expr} {es : List Expr} {d da db dv dk : DE} {dl : DL} {pos p1 : Pos} {K : PySem.W.Frag}
def dRepL (da db : DE) : DL := fun env m Q => da env m fun x m1 => db env m1 fun y m2 => ∃ ds k, x = .lst ds ∧ y = .int k ∧ 0 ≤ k ∧ k ≤ 1000 ∧ ds.length * k.toNat ≤ LL ∧ Q (List.replicate k.toNat ds).flatten m2
theorem gn_repL (ha : GE g X a da) (hb : GE g X b db) : GN g X (.BinOp a .Mult b pos) (dRepL da db) :=
  PE.weak (pe_op op_rep ha hb) fun σ H Q ⟨c, F, env, m, Q1, r, hd, k⟩ => ⟨c, F, env, m, _, r, hd, fun v H1 F1 m1 x r1 f1 rp q1 => ⟨c, F1, env, m1, _, r1, q1, fun w H2 F2 m2 y r2 f2 rp2 ⟨ds, j, ex, ey, h0, h1, h2, q⟩ => by
    subst ex ey
    cases rp2
    have rp' := rp.mono f2.ff
    cases rp' with
    | lst hp rl =>
      rename_i p xs
      refine ⟨p, j, xs, rfl, rfl, r2.sub _ _ hp, by omega, by omega, ll (by rw [rl.length]; exact h2), fun t ht => ?_⟩
      have n := New.lay (F := F2) (o := .lst (List.replicate j.toNat xs).flatten) r2.sub ht
      have f3 := (f1.trans f2)
      refine k t _ _ m2 _ _ (r2.new n) (f3.trans (n.fresh r2.ck)) ?_ (ex_none r2.sub ht) (fun z => ?_) upd_same (rl.rep _) q
      · cases q : H t with
        | none => rfl
        | some o =>
          by_cases z : c = some t
          · obtain ⟨_, _, e, _⟩ := r2.ck t z; rw [e] at ht; cases ht
          · exact (f3.sm q z ht).elim
      · obtain ⟨_, _, e, _⟩ := r2.ck t z; rw [e] at ht; cases ht⟩⟩
end
end G
namespace G
open PySem L2
structure TabNew (K : PySem.W.Frag) (g : Gp) (c : Option Addr) (H F' H' : Hp) (p : Addr) (qs : List Addr) (rows : List (List D)) : Prop where
  p0 : H p = none
  pF : F' p = none
  pc : c ≠ some p
  pH : H' p = some (.lst (qs.map V.ref))
  pq : p ∉ qs
  nd : qs.Nodup
  rs : RowsR K g c F' H' rows qs
  q0 : ∀ q ∈ qs, H q = none
theorem TabNew.zero {K : PySem.W.Frag} {g : Gp} {c : Option Addr} {H F' H' : Hp} {p : Addr} {qs : List Addr} {rows : List (List D)} (t : TabNew K g c H F' H' p qs rows) : ∀ a ∈ (Sl.tb qs rows).adr (some (some (.ref p))), H a = none := fun a ha => by
  rw [show (Sl.tb qs rows).adr (some (some (.ref p))) = p :: qs from rfl] at ha
  rcases List.mem_cons.mp ha with rfl | ha
  · exact t.p0
  · exact t.q0 a ha
theorem Fresh.stay {c : Option Addr} {F H F' H' : Hp} {a : Addr} {u : HO} (f : Fresh c F H F' H') (h1 : F a = none) (h2 : c ≠ some a) (h3 : H a = some u) (ht : isT u = false := by rfl) : F' a = none ∧ H' a = some u := by
  refine ⟨?_, f.hh a u h3 h2 ht⟩
  cases q : F' a with
  | none => rfl
  | some o =>
    rcases f.new a o q with z | z
    · rw [h1] at z; cases z
    · rw [h3] at z; cases z
theorem RowsR.length {K : PySem.W.Frag} {g : Gp} {c : Option Addr} {F H : Hp} : ∀ {rows : List (List D)} {qs : List Addr}, RowsR K g c F H rows qs → qs.length = rows.length
  | _, _, .nil => rfl
  | _, _, .cons _ _ _ _ t => by rw [List.length_cons, List.length_cons, t.length]
theorem RowsR.at2 {K : PySem.W.Frag} {g : Gp} {c : Option Addr} {F H : Hp} : ∀ {rows : List (List D)} {qs : List Addr} {a : Addr}, RowsR K g c F H rows qs → a ∈ qs → F a = none ∧ c ≠ some a ∧ ∃ u, H a = some u ∧ isT u = false
  | _, _, a, .nil, h => by simp at h
  | _, _, a, .cons h1 h2 h3 _ t, h => by
    rcases List.mem_cons.mp h with rfl | h
    · exact ⟨h1, h2, _, h3, rfl⟩
    · exact t.at2 h
theorem RowsR.mono {K : PySem.W.Frag} {g : Gp} {c : Option Addr} {F H F' H' : Hp} (f : Fresh c F H F' H') {rows : List (List D)} {qs : List Addr} (h : RowsR K g c F H rows qs) : RowsR K g c F' H' rows qs := h.keep f.ff fun a ha => by
  obtain ⟨h1, h2, u, h3, h4⟩ := h.at2 ha
  have := f.stay h1 h2 h3 h4
  exact ⟨this.1, by rw [this.2, h3]⟩
theorem RowsR.snoc {K : PySem.W.Frag} {g : Gp} {c : Option Addr} {F H : Hp} {row : List D} {q : Addr} {xs : List V} (h1 : F q = none) (h2 : c ≠ some q) (h3 : H q = some (.lst xs)) (h4 : RepL K g F row xs) : ∀ {rows : List (List D)} {qs : List Addr}, RowsR K g c F H rows qs → RowsR K g c F H (rows ++ [row]) (qs ++ [q])
  | _, _, .nil => .cons h1 h2 h3 h4 .nil
  | _, _, .cons a1 a2 a3 a4 t => .cons a1 a2 a3 a4 (t.snoc h1 h2 h3 h4)
section
variable {g : Gp} {X : Cx} {elt tg iter : Expr} {ifs : List Expr} {scope : Scope} {own : List (Str × Nat)} {pos : Pos} {di : DL} {T : TG} {f : D → Env' → Option Env'} {js : List Nat} {de : DL}
theorem RowsR.get {K : PySem.W.Frag} {c : Option Addr} {F H : Hp} : ∀ {rows : List (List D)} {qs : List Addr} {a : Nat} {row : List D}, RowsR K g c F H rows qs → rows[a]? = some row → ∃ q xs, qs[a]? = some q ∧ H q = some (.lst xs) ∧ RepL K g F row xs
  | _, _, _, _, .nil, h => by simp at h
  | _, _, 0, _, .cons _ _ h3 h4 _, h => by simp at h; subst h; exact ⟨_, _, rfl, h3, h4⟩
  | _, _, a + 1, _, .cons _ _ _ _ t, h => by
    obtain ⟨q, xs, h1, h2, h3⟩ := t.get (a := a) (by simpa using h)
    exact ⟨q, xs, by simpa using h1, h2, h3⟩
theorem RowsR.set {K : PySem.W.Frag} {c : Option Addr} {F H : Hp} {q : Addr} {row : List D} {xs : List V} (rl : RepL K g F row xs) : ∀ {rows : List (List D)} {qs : List Addr} {a : Nat}, RowsR K g c F H rows qs → qs.Nodup → qs[a]? = some q → RowsR K g c F (upd H q (.lst xs)) (rows.set a row) qs
  | _, _, _, .nil, _, h => by simp at h
  | _, _, 0, .cons h1 h2 h3 h4 t, nd, h => by
    simp at h; subst h
    refine .cons h1 h2 upd_same rl (t.keep (fun _ _ z => z) fun a ha => ⟨(t.at ha).1, ?_⟩)
    exact upd_ne fun e => (List.nodup_cons.mp nd).1 (by rw [← e]; exact ha)
  | _, _, a + 1, .cons h1 h2 h3 h4 t, nd, h => by
    rw [List.getElem?_cons_succ] at h
    refine .cons h1 h2 ?_ h4 (t.set rl (a := a) (List.nodup_cons.mp nd).2 h)
    rw [upd_ne fun e => (List.nodup_cons.mp nd).1 (by rw [e]; exact List.mem_of_getElem? h)]; exact h3
end
end G
namespace G
open PySem L2
section
variable {g : Gp} {K : PySem.W.Frag}
end
abbrev SpecT := List Sl → Nat → (List (List D) → Nat → Prop) → Prop
theorem TabNew.lower {K : PySem.W.Frag} {g : Gp} {c : Option Addr} {H0 H F' H' : Hp} {p : Addr} {qs : List Addr} {rows : List (List D)} (k : ∀ a, H a = none → c ≠ some a → H0 a = none) (t : TabNew K g c H F' H' p qs rows) : TabNew K g c H0 F' H' p qs rows :=
  ⟨k p t.p0 t.pc, t.pF, t.pc, t.pH, t.pq, t.nd, t.rs, fun q hq => k q (t.q0 q hq) (t.rs.at hq).2.1⟩
section
variable {g : Gp} {X : Cx} {k : Nat} {f : Addr} {fd : FuncData} {ps : List Str} {S : SpecT} {x : Str} {p pos : Pos} {e : Expr} {es : List Expr} {da : DA}
end
section
variable {P : Program} {w : World} {K : PySem.W.Frag} {mg : Str → Option Value} {base : Heap} {g : Gp}
end
end G
namespace G
open PySem L2
section
variable {g : Gp} {X : Cx} {e e1 e2 e3 : Expr} {d1 d2 d3 : DE} {pos p1 spos tpos : Pos} {K : PySem.W.Frag}
def minL : List Int → Option Int
  | [] => none
  | n :: r => some (r.foldl min n)
def minD1 : List D → Option D
  | [.lst ds] => (intsD ds).bind fun ns => (minL ns).map D.int
  | _ => none
end
end G
namespace G
open PySem L2
section
variable {K : PySem.W.Frag} {g : Gp} {X : Cx}
def rDIn (neg : Bool) : R2 := fun x y H Q => ∃ a kvs k, x = kV k ∧ y = .ref a ∧ H a = some (.dK kvs) ∧ Q (.bl (if neg then !(valV kvs k).isSome else (valV kvs k).isSome)) H
theorem or_inDk (hu : X.A.units + 64 < cLine) : OpR X (compareOp .In) (rDIn false) := by
  intro pins s σ H x y v u Q I rx ry h
  obtain ⟨a, kvs, k, rfl, rfl, ha, q⟩ := h
  obtain rfl : u = Value.ref a := ry
  exact d_in (by omega) I (DGet.k ha) rx fun s3 I3 => ⟨.bl (valV kvs k).isSome, H, I3, rfl, q⟩
theorem or_notinDk (hu : X.A.units + 64 < cLine) : OpR X (compareOp .NotIn) (rDIn true) := by
  intro pins s σ H x y v u Q I rx ry h
  obtain ⟨a, kvs, k, rfl, rfl, ha, q⟩ := h
  obtain rfl : u = Value.ref a := ry
  exact d_notIn (by omega) I (DGet.k ha) rx fun s3 I3 => ⟨.bl (!(valV kvs k).isSome), H, I3, rfl, q⟩
def dinB : D → D → Option Bool
  | x, .dic kds => x.key.map fun k => (kvGet kds k).isSome
  | _, _ => none
def dinD (x y : D) : Option D := (dinB x y).map .bl
def dnotinD (x y : D) : Option D := (dinB x y).map fun b => .bl (!b)
theorem key_flat {x : D} {k : Key} (h : x.key = some k) : x.flat = true := by
  cases x <;> simp only [D.key] at h <;> first | rfl | cases h
theorem od_dinG {neg : Bool} : OpD K g (rDIn neg) (fun x y => (dinB x y).map fun b => .bl (if neg then !b else b)) := fun c F H x y z v w Q' e nc rx ry hz k => by
  obtain ⟨b, hb, rfl⟩ := Option.map_eq_some_iff.mp hz
  clear hz
  have k' := k _ H F (New.refl e) (.bl _)
  unfold dinB at hb
  split at hb
  · rename_i kds
    obtain ⟨key, hk, rfl⟩ := Option.map_eq_some_iff.mp hb
    obtain ⟨p, kvs, rfl, h1, h2, h3, _⟩ := ry
    have r1 := repT_flat (key_flat hk) rx
    have hkv := KvR.of h2 h3
    refine ⟨p, kvs, key, key_rep hk r1, rfl, h1, ?_⟩
    have : (valV kvs key).isSome = (kvGet kds key).isSome := by
      cases hg : kvGet kds key with
      | some d => obtain ⟨v, e1, _⟩ := hkv.get hg; rw [e1]; rfl
      | none => rw [hkv.getN hg]; rfl
    rw [this]
    exact k'
  · cases hb
theorem od_din : OpD K g (rDIn false) dinD := od_dinG
theorem od_dnotin : OpD K g (rDIn true) dnotinD := od_dinG
end
theorem kvPut_len (kds : List (Key × D)) (k : Key) (d : D) : (kvPut kds k d).length ≤ kds.length + 1 := by
  unfold kvPut
  split
  · rw [List.length_map]; omega
  · rw [List.length_append, List.length_singleton]; omega
section
variable {g : Gp} {X : Cx} {kx vx tg iter : Expr} {scope : Scope} {own : List (Str × Nat)} {pos p dpos : Pos} {di : DL} {T : TG} {f : D → Env' → Option Env'} {js : List Nat} {dk dv : DE}
end
section
variable {g : Gp} {X : Cx} {e : Expr} {d : DE} {pos : Pos}
end
end G
namespace HT
open PySem PyProof.Rows
section
variable {prog : Program} {w : World} {A : Around} {E : Value → Shared → Prop} {s : Shared}
end
end HT
namespace G
open PySem L2
section
variable {X : Cx}
end
section
variable {g : Gp} {X : Cx} {e : Expr} {d : DE} {pos : Pos}
end
end G
namespace G
open PySem L2
section
variable {K : PySem.W.Frag} {g : Gp} {X : Cx}
def dFreezeW (i : Nat) (s : DS) : DS := fun env m E => ∃ d, env[i]? = some (.ow d) ∧ s (env.set i (.val d)) m E
theorem frW_weak {i : Nat} {s : DS} : ∀ D σ H, tSD K g (dFreezeW i s) D σ H → tSD K g s D σ H := fun D σ H ⟨c, F, env, m, E, r, ⟨ds, ho, h⟩, o⟩ => by
  obtain ⟨F', r', v⟩ := r.freezeW ho
  exact ⟨c, F', _, m, E, r', h, o.shift v⟩
theorem gs_freezeW (i : Nat) {st : Stmt} {s : DS} (h : GS g X st s) : GS g X st (dFreezeW i s) := PS.weak h frW_weak
end
end G
namespace T
open PySem L2 G
theorem rg_get {n k : Nat} (h : k < n) : (List.range n)[k]? = some k := List.getElem?_range h
theorem forR_rg {f : D → Env' → Option Env'} {body : DS} {E : DEnds} (g : Nat → D) (n : Nat) (J : Nat → Env' → Nat → Prop) (h0 : ∀ env m, J n env m → E.nx env m)
    (hs : ∀ i, i < n → ∀ env m, J i env m → ∃ env2, f (g i) env = some env2 ∧ ∀ K : Env' → Nat → Prop, (∀ e' m', J (i + 1) e' m' → K e' m') → body env2 m { E with nx := K, ct := K, bk := E.nx }) (env : Env') (m : Nat) (h : J 0 env m) :
    ForR f body ((List.range n).map g) env m E := by
  refine forR_ind (fun its env m => ∃ i, i ≤ n ∧ its = ((List.range n).map g).drop i ∧ J i env m) ?_ ?_ _ _ _ ⟨0, Nat.zero_le _, rfl, h⟩
  · rintro env m ⟨i, hi, he, hJ⟩
    have := congrArg List.length he
    simp at this
    have : i = n := by omega
    subst this
    exact h0 _ _ hJ
  · rintro d ds env m ⟨i, hi, he, hJ⟩
    obtain ⟨a1, a2⟩ := drop_cons he
    have hi' : i < n := by
      have := (List.getElem?_eq_some_iff.mp a1).1
      simpa using this
    rw [List.getElem?_map, rg_get hi'] at a1
    cases a1
    obtain ⟨env2, e2, hb⟩ := hs i hi' env m hJ
    exact ⟨env2, e2, fun K hK => hb K fun e' m' hJ' => hK e' m' ⟨i + 1, hi', a2, hJ'⟩⟩
theorem forR_l {α : Type} {f : D → Env' → Option Env'} {body : DS} {E : DEnds} (g : α → D) (xs : List α) (J : Nat → Env' → Nat → Prop) (h0 : ∀ env m, J xs.length env m → E.nx env m)
    (hs : ∀ i x, xs[i]? = some x → ∀ env m, J i env m → ∃ env2, f (g x) env = some env2 ∧ ∀ K : Env' → Nat → Prop, (∀ e' m', J (i + 1) e' m' → K e' m') → body env2 m { E with nx := K, ct := K, bk := E.nx }) (env : Env') (m : Nat) (h : J 0 env m) :
    ForR f body (xs.map g) env m E := by
  refine forR_ind (fun its env m => ∃ i, i ≤ xs.length ∧ its = (xs.map g).drop i ∧ J i env m) ?_ ?_ _ _ _ ⟨0, Nat.zero_le _, rfl, h⟩
  · rintro env m ⟨i, hi, he, hJ⟩
    have := congrArg List.length he
    simp at this
    have : i = xs.length := by omega
    subst this
    exact h0 _ _ hJ
  · rintro d ds env m ⟨i, hi, he, hJ⟩
    obtain ⟨a1, a2⟩ := drop_cons he
    rw [List.getElem?_map] at a1
    obtain ⟨x, hx, rfl⟩ := Option.map_eq_some_iff.mp a1
    have hi' := (List.getElem?_eq_some_iff.mp hx).1
    obtain ⟨env2, e2, hb⟩ := hs i x hx env m hJ
    exact ⟨env2, e2, fun K hK => hb K fun e' m' hJ' => hK e' m' ⟨i + 1, hi', a2, hJ'⟩⟩
theorem rep_flat (k : Nat) (d : D) : (List.replicate k [d]).flatten = (List.range k).map fun _ => d := by
  induction k with
  | zero => rfl
  | succ k ih =>
    rw [List.replicate_succ, List.flatten_cons, ih, List.range_succ_eq_map, List.map_cons, List.map_map]; rfl
theorem cut_to {α : Type} (xs : List α) {k : Nat} (h : k ≤ xs.length) : cutL xs none (some (k : Nat)) = xs.take k := by
  unfold cutL
  rw [HT.sIx_none, HT.sIx_nat, List.drop_zero, Nat.sub_zero, Nat.min_eq_left h]
theorem enum_l {α : Type} (f : α → D) (xs : List α) (d : α) : enumD (xs.map f) = (List.range xs.length).map fun k => .tup [natD k, f (xs.getD k d)] := by
  apply List.ext_getElem?
  intro i
  unfold enumD
  by_cases hi : i < xs.length
  · simp [hi, natD]
  · rw [List.getElem?_eq_none (by simp; omega), List.getElem?_eq_none (by simp; omega)]
end T
namespace G
open PySem L2
section
variable {K : PySem.W.Frag} {g : Gp}
end
section
variable {g : Gp} {X : Cx} {kx vx tg : Expr} {scope : Scope} {own : List (Str × Nat)} {pos p dpos : Pos} {T : TG} {f : D → Env' → Option Env'} {js : List Nat} {dk dv : DE}
theorem KvR.at {K : PySem.W.Frag} {F : Hp} : ∀ {kds : List (Key × D)} {kvs : List (Key × V)} {i : Nat} {k : Key} {v : V}, KvR K g F kds kvs → kvs[i]? = some (k, v) → ∃ d, kds[i]? = some (k, d) ∧ Rep K g F d v
  | kds, kvs, i, k, v, h, e => by
    obtain ⟨h1, h2⟩ := h.to
    have hl := h.length
    have hi : i < kds.length := by have := (List.getElem?_eq_some_iff.mp e).1; omega
    refine ⟨kds[i].2, ?_, ?_⟩
    · have e1 : (kvs.map (·.1))[i]? = some k := by rw [List.getElem?_map, e]; rfl
      rw [h1, List.getElem?_map, List.getElem?_eq_getElem hi] at e1
      rw [List.getElem?_eq_getElem hi]
      have : kds[i].1 = k := Option.some.inj e1
      rw [← this]
    · obtain ⟨w, a, b⟩ := h2.get (i := i) (d := kds[i].2) (by rw [List.getElem?_map, List.getElem?_eq_getElem hi]; rfl)
      rw [List.getElem?_map, e] at a
      cases a
      exact b
end
section
variable {g : Gp} {X : Cx} {pos : Pos}
end
end G
namespace G
open PySem L2
def reprID : List D → Option D
  | [.int i] => if i.natAbs.log2 < 1920 then some (.str (toString i)) else none
  | ds => reprD ds
end G
namespace L2
open PySem PySem.Spec PyProof.Rows
section
variable {X : Cx}
end
end L2
namespace G
open PySem L2
section
variable {g : Gp} {X : Cx} {kx vx tg iter : Expr} {scope : Scope} {own : List (Str × Nat)} {vs : List Nat} {pos p dpos spos : Pos} {di : DL} {T : TG} {f : D → Env' → Option Env'} {js : List Nat} {dk dv d : DE}
end
end G
namespace G
open PySem L2
section
variable {K : PySem.W.Frag} {g : Gp} {X : Cx} {e : Expr} {d : DE} {pos : Pos}
end
end G
namespace G
open PySem L2
section
variable {X : Cx}
end
open PySem.W (dataLe AllAlike Sortable EachIs dataLt alike alikeAll)
def keyT : Key → D | .inl i => .int i | .inr x => .str x
def kD (k : List Key) : D := .tup (k.map keyT)
section
variable {K : PySem.W.Frag} {g : Gp}
end
section
variable {g : Gp} {X : Cx} {kx vx tg iter : Expr} {scope : Scope} {own : List (Str × Nat)} {pos p dpos : Pos} {di : DL} {T : TG} {f : D → Env' → Option Env'} {js : List Nat} {dk dv : DE}
end
end G
namespace G
open PySem L2
section
variable {g : Gp} {X : Cx} {K : PySem.W.Frag}
end
end G
namespace G
open PySem L2
section
variable {K : PySem.W.Frag} {g : Gp}
end
section
variable {X : Cx}
end
section
variable {g : Gp} {X : Cx} {iter e1 ek : Expr} {di : DL} {d1 dk : DE}
end
end G
namespace G
open PySem L2
theorem Rel.but {K : PySem.W.Frag} {g : Gp} {c : Option Addr} {F F' H H' : Hp} {env : Env'} {m m' : Nat} {σ : St} {Dl : Addr} (r : Rel K g c F env m σ H) (no : ∀ a, Own env σ a → a ≠ Dl) (ff : Ex F F') (fh : Ex F' H') (hh : ∀ a o, H a = some o → c ≠ some a → a ≠ Dl → Kp o (H' a))
    (new : ∀ a o, F' a = some o → F a = some o ∨ H a = none) (ck : Ck g c m' F' H') : Rel K g c F' env m' σ H' :=
  ⟨fh, r.len, fun i s h => (r.slot i s h).keep ff fun a ha => (by
    obtain ⟨h1, h2, u, h3, h4, _⟩ := (r.slot i s h).at' ha
    refine ⟨?_, by rw [h3, (hh a u h3 h2 (no a ⟨i, s, h, ha⟩)).get h4]⟩
    cases q : F' a with
    | none => rfl
    | some o =>
      rcases new a o q with z | z
      · rw [h1] at z; cases z
      · rw [h3] at z; cases z), r.sep, ck⟩
section
variable (f : D → Env' → Option Env') (dt : DT) (di1 : DL) (f1 : D → Env' → Option Env') (dt1 : DT) (de : DE) (vs1 : List Nat)
def Lc2R (env : Env') : List D → Nat → (List D → Nat → Prop) → Prop
  | [], m, Q => Q [] m
  | d :: ds, m, Q => ∃ env2, f d env = some env2 ∧ dt env2 m fun b m1 => if b = true then di1 env2 m1 fun its m2 => its.length ≤ 100 ∧ LcR f1 dt1 de (wipeE env2 vs1) its m2 fun ys m3 => Lc2R env ds m3 fun zs m4 => Q (ys ++ zs) m4 else Lc2R env ds m1 Q
end
def dLc2 (di : DL) (f : D → Env' → Option Env') (dt : DT) (di1 : DL) (f1 : D → Env' → Option Env') (dt1 : DT) (de : DE) (vs vs1 : List Nat) : DL := fun env m Q => di env m fun its m1 => its.length ≤ 100 ∧ Lc2R f dt di1 f1 dt1 de vs1 (wipeE env vs) its m1 Q
section
variable {g : Gp} {X : Cx} {elt tg iter tg1 iter1 : Expr} {ifs ifs1 : List Expr} {scope : Scope} {own : List (Str × Nat)} {pos : Pos} {di di1 : DL} {T T1 : TG} {f f1 : D → Env' → Option Env'} {js js1 : List Nat} {dt dt1 : DT} {de : DE}
abbrev GOk (X : Cx) (g : Gp) (T : TG) (f : D → Env' → Option Env') (js : List Nat) : Prop := ∀ (c : Option Addr) (F : Hp) (env : Env') (m : Nat) (σ : St) (H : Hp) (d : D) (v : V) (env2 : Env') (Q : St → Hp → Prop), Rel X.K g c F env m σ H → Rep X.K g F d v → f d env = some env2 →
    (∀ σ2, Rel X.K g c F env2 m σ2 H → (∀ a, Own env2 σ2 a → Own env σ a) → σ2.length = σ.length → (∀ i, i ∉ js → σ2[i]? = σ[i]?) → Q σ2 H) → T v σ H Q
theorem own_wipe {env : Env'} {σ : St} {a : Addr} : ∀ (vs : List Nat), Own (wipeE env vs) (L2.wipe σ vs) a → Own env σ a
  | [], h => h
  | v :: vs, ⟨i, s, h1, h2⟩ => by
    refine own_wipe vs ?_
    unfold wipeE at h1
    unfold L2.wipe at h2
    by_cases e : v = i
    · subst e
      by_cases hl : v < (wipeE env vs).length
      · rw [List.getElem?_set_self hl] at h1
        cases h1
        simp [Sl.adr] at h2
      · rw [List.getElem?_eq_none (by rw [List.length_set]; omega)] at h1; cases h1
    · rw [List.getElem?_set_ne e] at h1
      rw [List.getElem?_set_ne e] at h2
      exact ⟨i, s, h1, h2⟩
theorem lc2_weak (vs vs1 : List Nat) (hj : ∀ j ∈ js, j ∈ vs) (hj1 : ∀ j ∈ js1, j ∈ vs1) (hg : GOk X g T f js) (hg1 : GOk X g T1 f1 js1) :
    ∀ σ H Q, tN X.K g (dLc2 di f dt di1 f1 dt1 de vs vs1) σ H Q → tLc2 (tI X.K g true di) T (tT X.K g dt) (tI X.K g false di1) T1 (tT X.K g dt1) (tD X.K g de) vs vs1 σ H Q := fun σ H Q ⟨c, F, env, m, Q1, r, h, k⟩ =>
  ⟨c, F, env, m, _, r, h, fun J H1 F1 m1 its lk r1 fr1 _ hk w ⟨hz, q⟩ => fun Dl hD => by
    have nD : F1 Dl = none := ex_none r1.sub hD
    have cD : c ≠ some Dl := fun z => by obtain ⟨_, xs, e, _⟩ := r1.ck Dl z; rw [hD] at e; cases e
    have hD0 : H Dl = none := by
      cases z : H Dl with
      | none => rfl
      | some o => exact (fr1.sm z cD hD).elim
    have noD : ∀ a, Own env σ a → a ≠ Dl := fun a ⟨i, s, h1, h2⟩ e => by
      obtain ⟨_, _, u, hu⟩ := (r1.slot i s h1).at h2
      rw [e, hD] at hu; cases hu
    refine ⟨fun i kk H' => ∃ F' m' acc accD, kk = its.length - i ∧ i ≤ its.length ∧ Fresh c F1 H1 F' H' ∧ Ck g c m' F' H' ∧ F' Dl = none ∧ H' Dl = some (.lst acc) ∧ RepL X.K g F' accD acc ∧ accD.length ≤ 100 * i ∧ Lc2R f dt di1 f1 dt1 de vs1 (wipeE env vs) (its.drop i) m' (fun ys m3 => Q1 (accD ++ ys) m3), ⟨its.length, F1, m1, [], [], rfl, Nat.zero_le _, ?_, ?_, nD, upd_same, .nil, Nat.le_refl _, q⟩, ?_⟩
    · have n := New.lay (F := F1) (o := .lst []) r1.sub hD
      exact n.fresh r1.ck
    · exact r1.ck.new (New.lay r1.sub hD)
    · rintro i kk H' ⟨F', m', acc, accD, rfl, hi, fr, ck, nF, hA, rA, lA, q'⟩
      have r' := r1.fresh fr ck
      have lk' : ∀ p ∈ lk, H' p.1 = some p.2 := fun p hp => fr.hh p.1 p.2 (hk p hp).1 (hk p hp).2.1 (hk p hp).2.2
      obtain ⟨go, stop⟩ := w i F' H' fr.ff r'.sub lk'
      by_cases hlt : i < its.length
      · have hd : its[i]? = some its[i] := List.getElem?_eq_getElem hlt
        rw [List.drop_eq_getElem_cons hlt] at q'
        obtain ⟨g1, g2⟩ := go _ hd
        obtain ⟨env2, e2, q2⟩ := q'
        refine .inr ⟨g1, fun H2 => ∃ F2 m2 acc2 accD2, Fresh c F1 H1 F2 H2 ∧ Ck g c m2 F2 H2 ∧ F2 Dl = none ∧ H2 Dl = some (.lst acc2) ∧ RepL X.K g F2 accD2 acc2 ∧ accD2.length ≤ 100 * (i + 1) ∧ Lc2R f dt di1 f1 dt1 de vs1 (wipeE env vs) (its.drop (i + 1)) m2 (fun ys m3 => Q1 (accD2 ++ ys) m3), fun H2 ⟨F2, m2, acc2, accD2, a1, a2, a3, a4, a5, a6, a7⟩ => ⟨its.length - (i + 1), by omega, F2, m2, acc2, accD2, rfl, by omega, a1, a2, a3, a4, a5, a6, a7⟩, fun x H3 y => ?_⟩
        obtain ⟨F3, n3, rp3⟩ := g2 x H3 y
        have r3 := (r'.wipe vs).new n3
        have fr3 := fr.trans (n3.fresh ck)
        have ck3 := ck.new n3
        have kp : ∀ {Fa Ha : Hp} {ac : List V}, Fa Dl = none → Ha Dl = some (.lst ac) → ∀ {F5 H5 : Hp}, Fresh c Fa Ha F5 H5 → F5 Dl = none ∧ H5 Dl = some (.lst ac) := fun {Fa Ha ac} na ha {F5 H5} f5 => by
          refine ⟨?_, f5.hh _ _ ha cD⟩
          cases z : F5 Dl with
          | none => rfl
          | some o =>
            rcases f5.new Dl o z with y | y
            · rw [na] at y; cases y
            · rw [ha] at y; cases y
        refine hg c F3 _ m' _ H3 _ x env2 _ r3 rp3 e2 fun σ4 r4 o4 l4 a4 => ⟨?_, ?_⟩
        · refine Eq.trans (wipe_same l4 fun j hj' => a4 j fun z => hj' (hj j z)) (wipe_wipe σ vs)
        · obtain ⟨k3, k3'⟩ := kp nF hA (n3.fresh ck)
          have no2 : ∀ a, Own env2 σ4 a → a ≠ Dl := fun a ha => noD a (own_wipe vs (o4 a ha))
          refine ⟨c, F3, env2, m', _, r4, q2, fun b H5 F5 m5 r5 f5 q5 => ?_⟩
          obtain ⟨k5, k5'⟩ := kp k3 k3' f5
          cases b with
          | false => exact ⟨F5, m5, acc, accD, fr3.trans f5, r5.ck, k5, k5', (rA.mono n3.ff).mono f5.ff, by omega, q5⟩
          | true =>
            refine ⟨c, F5, env2, m5, _, r5, q5, fun J1 H6 F6 m6 its1 lk1 r6 f6 hl1 hk1 w1 ⟨hz1, q6⟩ => ?_⟩
            have hl1 := hl1 rfl
            subst hl1
            obtain ⟨k6, k6'⟩ := kp k5 k5' f6
            have fr6 := (fr3.trans f5).trans f6
            refine ⟨fun j kk H' => ∃ F' m' acc accD, kk = its1.length - j ∧ j ≤ its1.length ∧ Fresh c F1 H1 F' H' ∧ Ex F6 F' ∧ (∀ a o, H6 a = some o → c ≠ some a → a ≠ Dl → Kp o (H' a)) ∧ (∀ a o, F' a = some o → F6 a = some o ∨ H6 a = none) ∧ Ck g c m' F' H' ∧ F' Dl = none ∧ H' Dl = some (.lst acc) ∧ RepL X.K g F' accD acc ∧ accD.length ≤ 100 * i + j ∧
                LcR f1 dt1 de (wipeE env2 vs1) (its1.drop j) m' (fun ys m3 => Lc2R f dt di1 f1 dt1 de vs1 (wipeE env vs) (its.drop (i + 1)) m3 fun zs m4 => Q1 (accD ++ (ys ++ zs)) m4), ⟨its1.length, F6, m6, acc, accD, rfl, Nat.zero_le _, fr6, fun _ _ z => z, fun _ _ z _ _ => .of z, fun _ _ z => .inl z, r6.ck, k6, k6', ((rA.mono n3.ff).mono f5.ff).mono f6.ff, by omega, q6⟩, ?_⟩
            rintro j kk Hj ⟨Fj, mj, accj, accDj, rfl, hj', frj, ej, hhj, newj, ckj, nFj, hAj, rAj, lAj, qj⟩
            have rj : Rel X.K g c Fj env2 mj σ4 Hj := r6.but no2 ej frj.fh hhj newj ckj
            obtain ⟨go1, stop1⟩ := w1 j Fj Hj ej rj.sub (fun _ z => by cases z)
            by_cases hlt1 : j < its1.length
            · have hd1 : its1[j]? = some its1[j] := List.getElem?_eq_getElem hlt1
              rw [List.drop_eq_getElem_cons hlt1] at qj
              obtain ⟨g3, g4⟩ := go1 _ hd1
              obtain ⟨env3, e3, q3⟩ := qj
              refine .inr ⟨g3, fun H2 => ∃ F' m' acc accD, Fresh c F1 H1 F' H2 ∧ Ex F6 F' ∧ (∀ a o, H6 a = some o → c ≠ some a → a ≠ Dl → Kp o (H2 a)) ∧ (∀ a o, F' a = some o → F6 a = some o ∨ H6 a = none) ∧ Ck g c m' F' H2 ∧ F' Dl = none ∧ H2 Dl = some (.lst acc) ∧ RepL X.K g F' accD acc ∧ accD.length ≤ 100 * i + (j + 1) ∧
                LcR f1 dt1 de (wipeE env2 vs1) (its1.drop (j + 1)) m' (fun ys m3 => Lc2R f dt di1 f1 dt1 de vs1 (wipeE env vs) (its.drop (i + 1)) m3 fun zs m4 => Q1 (accD ++ (ys ++ zs)) m4), fun H2 ⟨F2, m2, acc2, accD2, a1, a2, a3, a4, a5, a6, a7, a8, a9, a10⟩ => ⟨its1.length - (j + 1), by omega, F2, m2, acc2, accD2, rfl, by omega, a1, a2, a3, a4, a5, a6, a7, a8, a9, a10⟩, fun x7 H7 y7 => ?_⟩
              obtain ⟨F7, n7, rp7⟩ := g4 x7 H7 y7
              have r7 := (rj.wipe vs1).new n7
              obtain ⟨k7, k7'⟩ := kp nFj hAj (n7.fresh ckj)
              refine hg1 c F7 _ mj _ H7 _ x7 env3 _ r7 rp7 e3 fun σ8 r8 o8 l8 a8 => ⟨?_, ?_⟩
              · exact Eq.trans (wipe_same l8 fun j' hj2 => a8 j' fun z => hj2 (hj1 j' z)) (wipe_wipe σ4 vs1)
              · -- what a step from here keeps
                have up : ∀ {F9 H9 : Hp}, Fresh c F7 H7 F9 H9 → Ex F6 F9 ∧ (∀ a o, H6 a = some o → c ≠ some a → a ≠ Dl → Kp o (H9 a)) ∧ (∀ a o, F9 a = some o → F6 a = some o ∨ H6 a = none) := fun {F9 H9} f9 => by
                  have f := (n7.fresh ckj).trans f9
                  refine ⟨ej.trans f.ff, fun a o z n d => (hhj a o z n d).trans fun u hu => f.hk a u hu n, fun a o z => ?_⟩
                  rcases f.new a o z with y | y
                  · exact newj a o y
                  · cases u : H6 a with
                    | none => exact .inr rfl
                    | some o6 =>
                      by_cases e1 : c = some a
                      · rw [f.nc a e1] at z; cases z
                      · by_cases e2 : a = Dl
                        · rw [e2, hAj] at y; cases y
                        · exact ((hhj a o6 u e1 e2).ne y).elim
                refine ⟨c, F7, env3, mj, _, r8, q3, fun b H9 F9 m9 r9 f9 q9 => ?_⟩
                have frj7 := frj.trans (n7.fresh ckj)
                obtain ⟨k9, k9'⟩ := kp k7 k7' f9
                cases b with
                | false =>
                  obtain ⟨u1, u2, u3⟩ := up f9
                  exact ⟨F9, m9, accj, accDj, frj7.trans f9, u1, u2, u3, r9.ck, k9, k9', (rAj.mono n7.ff).mono f9.ff, by omega, q9⟩
                | true =>
                  refine ⟨c, F9, env3, m9, _, r9, q9, fun v0 H0 F0 m0 y0 r0 f0 rp0 q0 => ?_⟩
                  obtain ⟨u1, u2, u3⟩ := up (f9.trans f0)
                  obtain ⟨k0, k0'⟩ := kp k9 k9' f0
                  have lacc : accj.length = accDj.length := rAj.length
                  have fr0 := (frj7.trans f9).trans f0
                  refine ⟨accj, k0', ll' (by show accj.length < 100000; omega), F0, m0, accj ++ [v0], accDj ++ [y0], ⟨fr0.ff, fun a o z => ?_, fun a o z n => ?_, fr0.new, fr0.nc⟩, u1, fun a o z n d => ?_, u3, ⟨fun a z => ?_, TabF.upd r0.ck.tb k0' rfl no_code⟩, k0, upd_same, (((rAj.mono n7.ff).mono f9.ff).mono f0.ff).append (.cons rp0 .nil), ?_, ?_⟩
                  · have : a ≠ Dl := fun e => by subst e; rw [k0] at z; cases z
                    rw [upd_ne this]; exact fr0.fh a o z
                  · have : a ≠ Dl := fun e => by subst e; rw [hD] at z; cases z
                    rw [upd_ne this]; exact fr0.hk a o z n
                  · rw [upd_ne d]; exact u2 a o z n d
                  · have : a ≠ Dl := fun e => by subst e; exact cD z
                    obtain ⟨b1, xs, b2, b3⟩ := r0.ck a z
                    exact ⟨b1, xs, by rw [upd_ne this]; exact b2, b3⟩
                  · rw [List.length_append, List.length_singleton]; omega
                  · have : (fun ys m3 => Lc2R f dt di1 f1 dt1 de vs1 (wipeE env vs) (its.drop (i + 1)) m3 fun zs m4 => Q1 (accDj ++ [y0] ++ (ys ++ zs)) m4) = fun ys m3 => Lc2R f dt di1 f1 dt1 de vs1 (wipeE env vs) (its.drop (i + 1)) m3 fun zs m4 => Q1 (accDj ++ (y0 :: ys ++ zs)) m4 := by
                      funext ys m3; congr; funext zs m4; rw [List.append_assoc]; rfl
                    rw [this]; exact q0
            · have hi' : j = its1.length := by omega
              refine .inl ⟨stop1 hi', ?_⟩
              rw [List.drop_eq_nil_of_le (by omega)] at qj
              have q'' : Lc2R f dt di1 f1 dt1 de vs1 (wipeE env vs) (its.drop (i + 1)) mj (fun zs m4 => Q1 (accDj ++ zs) m4) := qj
              exact ⟨Fj, mj, accj, accDj, frj, ckj, nFj, hAj, rAj, by omega, q''⟩
      · have hi' : i = its.length := by omega
        refine .inl ⟨stop hi', ?_⟩
        rw [List.drop_eq_nil_of_le (by omega)] at q'
        have q'' : Q1 (accD ++ []) m' := q'
        rw [List.append_nil] at q''
        exact k Dl H' F' m' accD acc r' (fr1.trans fr) hD0 nF cD hA rA q''⟩
end
end G
namespace G
open PySem L2
def seqOf : D → Option (List D)
  | .lst ds => some ds
  | .tup ds => some ds
  | _ => none
def inQ (x y : D) : Option Bool := match seqOf y with
  | some ds => if x.okd 60 && (D.lst ds).okd 60 && (D.tup ds).okd 60 then some (ds.any fun z => PyData.eqv z.py x.py) else none
  | none => none
def inQD (x y : D) : Option D := (inQ x y).map .bl
end G
namespace G
open PySem L2
section
variable {g : Gp} {X : Cx} {iter e1 ek : Expr} {di : DL} {d1 dk : DE}
end
end G
namespace G
open PySem L2
section
open Builtin Builtin.ObjectAttr
variable {prog : Program} {w : World} {A : Around} {R : Result → Shared → Prop} {K : PySem.W.Frag}
end
section
variable {X : Cx} {pins : List (Addr × Obj)} {σ : St} {H : Hp} {s : Shared} {a C dx : Addr} {f : Str} {y : V} {u : Value}
end
section
variable {P : Program} {w : World} {K : PySem.W.Frag} {mg : Str → Option Value} {base : Heap}
end
structure Exc where
  C : Str
  f : Str
  d : D
section
variable {X : Cx} {g : Gp} {e : Expr} {d : DE} {x f : Str} {C fI : Addr} {k : Nat} {fd : FuncData} {ps : List Str} {p pos : Pos}
end
end G
namespace G
open PySem L2
inductive XB | v | l | a
def XB.new : XB → String
  | .v => "ValueError.__new__" | .l => "LookupError.__new__" | .a => "ArithmeticError.__new__"
end G
namespace G
open PySem L2
open PySem.Spec PyProof.Rows
abbrev Cl := (Value → Option Bool) × Nat × (Addr → Value → Option Addr → TS)
section
variable {X : Cx} {body : List Stmt} {h₀ : ExceptHandler} {hds : List ExceptHandler} {l : List Cl} {pos : Pos} {tb : WX → TS} {Wout : WX}
end
end G
namespace G
open PySem L2
abbrev SpecX := List Sl → Nat → (Exc → Nat → Prop) → Prop
section
variable {P : Program} {w : World} {K : PySem.W.Frag} {mg : Str → Option Value} {base : Heap} {g : Gp}
end
abbrev DX := Env' → Nat → (Exc → Nat → Prop) → Prop
section
variable {g : Gp} {X : Cx} {st : Stmt} {sts : List Stmt} {e : Expr} {s : DS} {dx dy : DX} {t : DT} {pos : Pos} {W : WX}
section
variable {k : Nat} {f : Addr} {fd : FuncData} {ps : List Str} {R : SpecX} {x : Str} {p : Pos} {es : List Expr} {da : DA} {sp : Sp}
end
end
section
variable {P : Program} {w : World} {K : PySem.W.Frag} {mg : Str → Option Value} {base : Heap} {g : Gp}
end
end G
namespace G
open PySem L2
section
variable {g : Gp} {X : Cx} {sts : List Stmt} {e : Expr} {dx dy : DX} {t : DT} {pos : Pos}
end
end G
namespace G
open PySem L2
section
variable {g : Gp} {X : Cx} {e : Expr} {es : List Expr} {da : DA} {k : Nat} {f : Addr} {fd : FuncData} {ps : List Str} {S : Spec} {R : SpecX} {x : Str} {p pos : Pos} {W : WX}
end
section
variable {X : Cx} {pins : List (Addr × Obj)} {σ : St} {H : Hp} {s : Shared}
end
end G
namespace G
open PySem L2
section
variable {K : PySem.W.Frag} {g : Gp} {F : Hp} {a : Addr} {oe : Obj} {φ : Heap → Prop}
end
end G
namespace G
open PySem L2
section
variable {g : Gp} {X : Cx} {e : Expr} {d : DE} {p pos : Pos}
end
section
open LamX
variable {g : Gp} {X : Cx}
end
end G
namespace G
open PySem L2
end G
namespace G
open PySem L2
def hpT (ts : List Addr) (scr : Option (Addr × HO)) : Hp := fun b => if (scr.map (·.1)) = some b then scr.map (·.2) else if b ∈ ts then some (.tbl #[]) else none
theorem law_callGT {P : Program} {w : World} {K : PySem.W.Frag} {mg mb : Str → Option Value} {k : Nat} {fa a : Addr} {cs : List (Addr × Addr)} {fd : FuncData} {x : Str} {sp : Sp} {s₁ : Shared} {vs : List Value} {ns : List Int}
    (kin : K.In s₁.heap) (gl : s₁.heap.Ns mainGlobals mg) (bl : s₁.heap.Ns builtinsNs mb) (boot : ∀ x : Str, x ≠ "__name__" → mb x = bootBuiltins x) (lim : s₁.heap.NoLimit) (gens : s₁.gens = #[])
    (empty : ∀ p ∈ cs, s₁.heap.get? p.2 = some { cls := .none, data := .fields #[] }) (out : ∀ p ∈ cs, K.lookup p.2 = none) (heads : ∀ p ∈ cs, PySem.W.CodeHd s₁.heap p.1 p.2)
    (bmod : ∃ (bm : Addr) (ob : Obj), mg "__builtins__" = some (.ref bm) ∧ bm ≠ builtinsNs ∧ s₁.heap.get? bm = some ob ∧ ob.cls = .type "module" ∧ ob.dict = some builtinsNs ∧ ob.data = .plain)
    (scr : s₁.heap.get? a = some { cls := .type "list", data := .seq vs.toArray }) (isI : PyProof.Rows.IntsAre vs ns) (short : ns.length ≤ sizeLine) (room : Room k PySem.callerA)
    (F : ∀ base : Heap, K.In base → base.Ns mainGlobals mg → (∀ p ∈ cs, LamX.TabB base mg p.1 p.2) → FnG P w K mg base k fa fd [x] sp) (bind : ∀ (s : Shared) (u : Value), BindsTo s fd ⟨[u], []⟩ [(x, u)])
    (want : ∀ H : Hp, (∀ p ∈ cs, H p.2 = some (.tbl #[])) → SqL K H a (ns.map V.int) → sp [.ref a] H (fun v _ => v = .bl true) fun _ _ _ => False) :
    codeAny (model P w) PySem.callerA (.call (.ref fa) ⟨[.ref a], []⟩) (fun r s' => r = .ok (.ret (.bool true)) ∧ OldK s₁.heap s'.heap ∧ s'.os = s₁.os ∧ PyProof.Rows.AllBare s'.gens) s₁ := by
  have isV := vals_ints isI
  have lens := isI.length
  let ts := cs.map (·.2)
  have tabAt : ∀ b ∈ ts, s₁.heap.get? b = some { cls := .none, data := .fields #[] } := fun b hb => by
    obtain ⟨p, hp, rfl⟩ := List.mem_map.mp hb
    exact empty p hp
  have aNot : a ∉ ts := fun z => by
    have q := tabAt a z
    rw [scr] at q
    cases q
  have inT : ∀ p ∈ cs, p.2 ∈ ts := fun p hp => List.mem_map.mpr ⟨p, hp, rfl⟩
  have main : ∀ H : Hp, (∀ b ∈ ts, H b = some (.tbl #[])) → (∀ b, b ∉ ts → H b = none ∨ (b = a ∧ K.lookup a = none ∧ H b = some (.frz { cls := .type "list", data := .seq vs.toArray } (.lst (ns.map V.int))))) → SqL K H a (ns.map V.int) →
      codeAny (model P w) PySem.callerA (.call (.ref fa) ⟨[.ref a], []⟩) (fun r s' => r = .ok (.ret (.bool true)) ∧ OldK s₁.heap s'.heap ∧ s'.os = s₁.os ∧ PyProof.Rows.AllBare s'.gens) s₁ := by
    intro H hT hA sq
    have ok : HOk P w H s₁.heap := fun b u e => by
      by_cases hb : b ∈ ts
      · rw [hT b hb] at e; cases e
        exact tabAt b hb
      · rcases hA b hb with z | ⟨rfl, _, z⟩
        · rw [z] at e; cases e
        · rw [z] at e; cases e
          exact ⟨scr, by rw [List.length_map]; exact short, vs, _, isV, scr⟩
    have free : ∀ {b : Addr} {o : Obj}, s₁.heap.get? b = some o → o.data ≠ .fields #[] → (∀ l, o.data ≠ .seq l) → H b = none := fun {b o} e n1 n2 => by
      by_cases hb : b ∈ ts
      · rw [tabAt b hb] at e; cases e
        exact absurd rfl n1
      · rcases hA b hb with z | ⟨rfl, _, _⟩
        · exact z
        · rw [scr] at e; cases e
          exact absurd rfl (n2 _)
    have hid : ∀ {b : Addr} {o : Obj}, s₁.heap.get? b = some o → o.data ≠ .fields #[] → (∀ l, o.data ≠ .seq l) → (hidT s₁.heap H).get? b = some o := fun e n1 n2 => hidT_get e (free e n1 n2)
    have names : ∀ {b : Addr} {m : Str → Option Value}, s₁.heap.Ns b m → (hidT s₁.heap H).Ns b m := by
      rintro b m ⟨o, es, ep, z, d, rest⟩
      exact ⟨o, es, ep, hid z (by rw [d]; exact fun y => nomatch y) (fun l => by rw [d]; exact fun y => nomatch y), d, rest⟩
    have kinB : K.In (hidT s₁.heap H) := fun b o z => by
      refine hidT_get (kin b o z) ?_
      by_cases hb : b ∈ ts
      · obtain ⟨p, hp, rfl⟩ := List.mem_map.mp hb
        rw [out p hp] at z; cases z
      · rcases hA b hb with y | ⟨rfl, y, _⟩
        · exact y
        · rw [y] at z; cases z
    have md : Mod K mg (hidT s₁.heap H) := by
      obtain ⟨mc, h1, h2⟩ := lim
      exact ⟨kinB, names gl, ⟨mb, names bl, boot⟩, ⟨mc, names h1, h2⟩⟩
    have tb : ∀ p ∈ cs, LamX.TabB (hidT s₁.heap H) mg p.1 p.2 := fun p hp => by
      refine ⟨?_, ?_, fun z => ?_⟩
      · obtain ⟨o, us, file, tf, flags, tg, inF, text, tt, e1, r1, r2, r3, rest⟩ := heads p hp
        refine ⟨o, us, file, tf, flags, tg, inF, text, tt, hid e1 (fun z => ?_) (fun l z => ?_), r1, r2, r3, rest⟩
        · rw [r2] at z; cases z; simp at r3
        · rw [r2] at z; cases z
      · obtain ⟨bm, ob, b1, b2, b3, b4, b5, b6⟩ := bmod
        refine ⟨bm, ob, b1, b2, fun q => ?_, fun q => ?_, hid b3 (by rw [b6]; exact fun z => nomatch z) (fun l => by rw [b6]; exact fun z => nomatch z), b4, b5, b6⟩
        · obtain ⟨o, es, ep, e, hd, _⟩ := gl
          rw [q, e] at b3; cases b3
          rw [hd] at b6; cases b6
        · rw [q, empty p hp] at b3; cases b3
          cases b6
      · obtain ⟨o, es, ep, e, hd, _⟩ := gl
        rw [z, empty p hp] at e; cases e
        cases hd
    have env0 : Env0 P w K mg (hidT s₁.heap H) PySem.callerA [] s₁ H := ⟨rfl, md, fun b o z => of_hidT z, Nat.le_of_eq (hidT_size _ _), trivial, (fun b hb => nomatch (show b ∈ ([] : List Addr) from hb)), ok, .of_eq gens⟩
    refine codeAny_mono ((F _ kinB (names gl) tb).run PySem.callerA [] s₁ H ⟨[.ref a], []⟩ [.ref a] [.ref a] _ _ room rfl env0 (bind s₁ (.ref a)) (.cons rfl .nil) (want H (fun p hp => hT _ (inT p hp)) sq)) fun r s' res => ?_
    cases r with
    | error e => exact res.elim
    | ok fl =>
      cases fl with
      | next => exact False.elim res
      | brk => exact False.elim res
      | cont => exact False.elim res
      | ret u =>
        obtain ⟨v, H', os, bare, un, ok', rel, q⟩ := res
        have q' : v = .bl true := q
        subst q'
        obtain rfl : u = Value.bool true := rel
        have stay : ∀ b o, b ∉ ts → s₁.heap.get? b = some o → s'.heap.get? b = some o := fun b o hb z => by
          rcases hA b hb with n | ⟨rfl, _, n⟩
          · exact un.keep b o z n (fun y => nomatch (show b ∈ ([] : List Addr) from y)) (by simp)
          · have := (ok' _ _ (un.frzs _ _ _ n)).1
            rw [scr] at z; cases z
            exact this
        have more : ∀ b ∈ ts, ∃ m : Array Value, s'.heap.get? b = some { cls := .none, data := .fields m } := fun b hb => by
          obtain ⟨m, z⟩ := un.tbls b #[] (hT b hb)
          exact ⟨_, ok' b _ z⟩
        refine ⟨rfl, ⟨fun b o z => ?_, fun b o z => ?_⟩, os, bare⟩
        · by_cases hb : b ∈ ts
          · obtain ⟨m, hm⟩ := more b hb
            obtain ⟨p, hp, rfl⟩ := List.mem_map.mp hb
            rw [empty p hp] at z; cases z
            exact .inr (.inl ⟨((heads p hp).tab (empty p hp)).isCodeTable, rfl, #[], m, rfl, by rw [Array.empty_append]; exact hm⟩)
          · exact .inl (stay b o hb z)
        · by_cases hb : b ∈ ts
          · exact (more b hb).imp' _ fun m hm => hm
          · exact ⟨o, stay b o hb z⟩
  cases hk : K.lookup a with
  | some o =>
    have z := kin a o hk
    rw [scr] at z; cases z
    exact main (hpT ts none) (fun b hb => by simp [hpT, hb]) (fun b hb => .inl (by simp [hpT, hb])) (.inr ⟨_, vs.toArray, _, hk, rfl, rfl, rfl, by rw [List.size_toArray, lens]; exact short, by simpa using isV⟩)
  | none =>
    refine main (hpT ts (some (a, .frz { cls := .type "list", data := .seq vs.toArray } (.lst (ns.map V.int))))) (fun b hb => ?_) (fun b hb => ?_) (.inl (.inr ⟨_, by simp [hpT]; rfl⟩))
    · have : a ≠ b := fun z => aNot (z ▸ hb)
      simp [hpT, hb, this]
    · by_cases z : a = b
      · subst z; exact .inr ⟨rfl, hk, by simp [hpT]⟩
      · exact .inl (by simp [hpT, hb, z])
theorem walk_ofGT {l : PySem.W.OpenLaw} {n k : Nat} {q : Program} {loose : List Str} {XP : (Str → Option Value) → Heap → Prop} {YP : World → Heap → Prop} {d : DefRec} {K : Params → PySem.W.Frag} {sp : World → List (Addr × Addr) → Sp} {x : Str}
    (most : l.most = some n) (few : n ≤ sizeLine) (nodef : d.params.defaults = []) (room : Room k PySem.callerA) (kin : ∀ (w : World) (h : Heap), YP w h → (K w.params).In h)
    (F : ∀ (w : World) (mg : Str → Option Value) (fa : Addr) (h : Heap), YP w h → (K w.params).In h → h.Ns mainGlobals mg → mg d.name = some (.ref fa) →
      ∃ (fd : FuncData) (cs : List (Addr × Addr)), (∀ p ∈ cs, h.get? p.2 = some { cls := .none, data := .fields #[] }) ∧ (∀ p ∈ cs, (K w.params).lookup p.2 = none) ∧ (∀ p ∈ cs, PySem.W.CodeHd h p.1 p.2) ∧ (∀ (s : Shared) (u : Value), BindsTo s fd ⟨[u], []⟩ [(x, u)]) ∧
        (∀ base : Heap, (K w.params).In base → base.Ns mainGlobals mg → (∀ p ∈ cs, LamX.TabB base mg p.1 p.2) → FnG l.prog w (K w.params) mg base k fa fd [x] (sp w cs)))
    (want : ∀ (w : World) (H : Hp) (a : Addr) (ns : List Int) (cs : List (Addr × Addr)), ns.length ≤ n → (∀ p ∈ cs, H p.2 = some (.tbl #[])) → SqL (K w.params) H a (ns.map V.int) → sp w cs [.ref a] H (fun v _ => v = .bl true) fun _ _ _ => False) :
    PySem.W.WalkO q loose XP YP l.row.toRowW d [] (fun f vs => PySem.call f vs) := by
  refine Att.attach_call most nodef fun w s₀ s₁ mg mb fa o pm cd doc a vs ns G Y _ _ _ isf obj isI len gens => ?_
  have kx := kin w _ Y
  obtain ⟨fd, cs, t1, t2, t3, bd, ok⟩ := F w mg fa _ Y kx G.T.g isf
  exact law_callGT kx G.T.g G.T.b G.T.builtins G.T.nolimit gens t1 t2 t3 G.T.bmain obj isI (Nat.le_trans len few) room ok bd fun H hT sq => want w H a ns cs len hT sq
end G
namespace G
open PySem L2
section
variable {P : Program} {w : World} {K : PySem.W.Frag} {mg : Str → Option Value} {base : Heap} {g : Gp}
end
end G
namespace G
open PySem L2
def cutT (ts : List Addr) (H : Hp) : Hp := fun b => if b ∈ ts then none else H b
theorem cutT_ex {ts : List Addr} {H : Hp} : Evl.Ex (cutT ts H) H := fun b o e => by
  unfold cutT at e
  split at e
  · cases e
  · exact e
theorem cutT_sq {K : PySem.W.Frag} {ts : List Addr} {H : Hp} {a : Addr} {xs : List V} (hT : ∀ b ∈ ts, H b = some (.tbl #[])) (h : SqL K H a xs) : SqL K (cutT ts H) a xs := by
  have ne : ∀ {o : HO}, H a = some o → o ≠ .tbl #[] → cutT ts H a = some o := fun {o} e n => by
    unfold cutT
    rw [if_neg fun z => n (Option.some.inj (e.symm.trans (hT a z)))]
    exact e
  rcases h with (h | ⟨o, h⟩) | h
  · exact .inl (.inl (ne h fun z => nomatch z))
  · exact .inl (.inr ⟨o, ne h fun z => nomatch z⟩)
  · exact .inr h
theorem cutT_tab {g : Gp} {ts : List Addr} {H : Hp} (hT : ∀ b ∈ ts, H b = some (.tbl #[])) (hg : ∀ p ∈ g.T, p.1 ∈ ts) : TabF g.T (cutT ts H) H :=
  ⟨fun p hp => ⟨#[], hT _ (hg p hp), True.intro, fun pos cv hc => by
    have z : codeAmong pos [] = some cv := hc
    simp [codeAmong] at z⟩, fun p hp => by unfold cutT; rw [if_pos (hg p hp)]⟩
end G
namespace G
open PySem L2
structure LamOk (P : Program) (w : World) (K : PySem.W.Frag) (mg : Str → Option Value) (base : Heap) (g : Gp) (k : Nat) (n : Str) (S : Spec) : Prop where
  run : ∀ (A : Around) (outer : List Env) (s : Shared) (H : Hp) (f c' : Addr) (us : List Value) (vs : List V) (Q : VK) (E : XK), Room k A → Calm A → Env0 P w K mg base A outer s H → H f = some (LamO f c' (g.lam n)) → H c' = some (LamX.CodeO c' (g.lam n).qual) → Vals vs us → spOf K g S vs H Q E →
    codeAny (model P w) A (.call (.ref f) ⟨us, []⟩) (CR CX0 outer P w H s Q E) s
section
variable {P : Program} {w : World} {K : PySem.W.Frag} {mg : Str → Option Value} {base : Heap} {g : Gp}
theorem LamOk.mono {j k : Nat} {n : Str} {S : Spec} (L : LamOk P w K mg base g j n S) (h : j ≤ k) : LamOk P w K mg base g k n S := ⟨fun A outer s H f c' us vs Q E hr => L.run A outer s H f c' us vs Q E (hr.mono h)⟩
end
section
variable {g : Gp} {X : Cx} {e : Expr} {es : List Expr} {da : DA} {pos p1 : Pos}
end
end G
namespace G
open PySem L2
end G
namespace G
open PySem L2
section
variable {g : Gp} {X : Cx} {da : DA} {k : Nat} {f : Addr} {fd : FuncData} {ps : List Str} {S : Spec} {x : Str} {p pos : Pos}
end
end G
namespace G
open PySem L2
open PySem.W (AlikeAll minD min_list_data dataLt alike)
section
variable {K : PySem.W.Frag} {g : Gp}
theorem okdL_all : ∀ {ds : List D} {n : Nat}, ds.all (·.okd n) = true → okdL ds n = true
  | [], _, _ => by simp [okdL]
  | d :: r, n, h => by
    rw [List.all_cons, Bool.and_eq_true] at h
    simp only [okdL, Bool.and_eq_true]
    exact ⟨h.1, okdL_all h.2⟩
end
end G
namespace G
open PySem L2
def DicV (P : Program) (w : World) (o : Obj) (xs : List (List Key × Addr × V)) : Prop := o.ExactDict ∧ xs.length ≤ sizeLine ∧ ∃ (es : Array DictEntry) (ep : Nat) (ys : List (List Key × Addr × Value)), o.data = .dict es ep ∧
  es.toList = ys.map (PySem.entryOfKey (PySem.tupleKind (mixKind P w))) ∧ (ys.map (·.1)).Nodup ∧ Paired (fun (x : List Key × Addr × V) (y : List Key × Addr × Value) => x.1 = y.1 ∧ x.2.1 = y.2.1 ∧ RelV x.2.2 y.2.2) xs ys
def putX (xs : List (List Key × Addr × V)) (k : List Key) (b : Addr) (v : V) : List (List Key × Addr × V) := if (xs.any fun x => decide (x.1 = k)) = true then xs.map (fun x => if x.1 = k then (x.1, x.2.1, v) else x) else xs ++ [(k, b, v)]
def getX (xs : List (List Key × Addr × V)) (k : List Key) : Option V := (xs.find? fun x => decide (x.1 = k)).map (·.2.2)
section
variable {X : Cx} {pos : Pos}
end
end G
namespace G
open PySem L2
section
open PySem.Spec PyProof.Rows
variable {P : Program} {w : World} {K : PySem.W.Frag} {tg : Expr} {d : Addr} {o : Obj} {es : Array DictEntry} {ep : Nat} {xs : List (List Key × Addr × V)}
end
section
open PySem.Spec PyProof.Rows
variable {X : Cx} {tg e : Expr} {td : TE} {apos cpos : Pos}
end
section
variable {K : PySem.W.Frag} {g : Gp} {F H : Hp}
inductive KtR (K : PySem.W.Frag) (g : Gp) (F : Hp) : List (List Key × D) → List (List Key × Addr × V) → Prop
  | nil : KtR K g F [] []
  | cons {k : List Key} {b : Addr} {d : D} {v : V} {kds : List (List Key × D)} {xs : List (List Key × Addr × V)} : SqT K F b (k.map kV) → Rep K g F d v → KtR K g F kds xs → KtR K g F ((k, d) :: kds) ((k, b, v) :: xs)
theorem KtR.of : ∀ {kds : List (List Key × D)} {xs : List (List Key × Addr × V)}, xs.map (·.1) = kds.map (·.1) → (∀ x ∈ xs, SqT K F x.2.1 (x.1.map kV)) → RepL K g F (kds.map (·.2)) (xs.map (·.2.2)) → KtR K g F kds xs
  | [], [], _, _, _ => .nil
  | [], _ :: _, h, _, _ => by cases h
  | _ :: _, [], h, _, _ => by cases h
  | (k, d) :: kds, (k', b, v) :: xs, h, hx, r => by
    rw [List.map_cons, List.map_cons] at h
    obtain ⟨h1, h2⟩ := List.cons.inj h
    cases (show k' = k from h1)
    cases r with
    | cons r1 r2 => exact .cons (hx _ (List.mem_cons_self ..)) r1 (KtR.of h2 (fun x z => hx x (List.mem_cons_of_mem _ z)) r2)
theorem KtR.keys : ∀ {kds : List (List Key × D)} {xs : List (List Key × Addr × V)}, KtR K g F kds xs → xs.map (·.1) = kds.map (·.1)
  | _, _, .nil => rfl
  | _, _, .cons _ _ t => by rw [List.map_cons, List.map_cons, t.keys]
theorem KtR.sq : ∀ {kds : List (List Key × D)} {xs : List (List Key × Addr × V)}, KtR K g F kds xs → ∀ x ∈ xs, SqT K F x.2.1 (x.1.map kV)
  | _, _, .nil, x, h => by cases h
  | _, _, .cons a _ t, x, h => by
    rcases List.mem_cons.mp h with rfl | h
    · exact a
    · exact t.sq x h
theorem KtR.vals : ∀ {kds : List (List Key × D)} {xs : List (List Key × Addr × V)}, KtR K g F kds xs → RepL K g F (kds.map (·.2)) (xs.map (·.2.2))
  | _, _, .nil => .nil
  | _, _, .cons _ r t => .cons r t.vals
theorem KtR.mono {F' : Hp} (e : Ex F F') : ∀ {kds : List (List Key × D)} {xs : List (List Key × Addr × V)}, KtR K g F kds xs → KtR K g F' kds xs
  | _, _, .nil => .nil
  | _, _, .cons a r t => .cons (Evl.ex_t e a) (r.mono e) (t.mono e)
theorem KtR.len : ∀ {kds : List (List Key × D)} {xs : List (List Key × Addr × V)}, KtR K g F kds xs → xs.length = kds.length
  | _, _, .nil => rfl
  | _, _, .cons _ _ t => by rw [List.length_cons, List.length_cons, t.len]
theorem KtR.at : ∀ {kds : List (List Key × D)} {xs : List (List Key × Addr × V)} {i : Nat} {kd : List Key × D}, KtR K g F kds xs → kds[i]? = some kd → ∃ b v, xs[i]? = some (kd.1, b, v) ∧ SqT K F b (kd.1.map kV) ∧ Rep K g F kd.2 v
  | _, _, _, _, .nil, e => by simp at e
  | _, _, 0, _, .cons a r _, e => by simp at e; subst e; exact ⟨_, _, rfl, a, r⟩
  | _, _, i + 1, _, .cons _ _ t, e => by
    obtain ⟨b, v, h1, h2⟩ := KtR.at (i := i) t (by simpa using e)
    exact ⟨b, v, by simpa using h1, h2⟩
def ktGet (kds : List (List Key × D)) (k : List Key) : Option D := (kds.find? fun kv => decide (kv.1 = k)).map (·.2)
def ktPut (kds : List (List Key × D)) (k : List Key) (d : D) : List (List Key × D) := if (kds.any fun kv => decide (kv.1 = k)) = true then kds.map (fun kv => if kv.1 = k then (kv.1, d) else kv) else kds ++ [(k, d)]
theorem KtR.get (k : List Key) {d : D} {v : V} (r : Rep K g F d v) : ∀ {kds : List (List Key × D)} {xs : List (List Key × Addr × V)}, KtR K g F kds xs → Rep K g F ((ktGet kds k).getD d) ((getX xs k).getD v)
  | _, _, .nil => r
  | _, _, @KtR.cons _ _ _ k' b d' v' kds xs a r1 t => by
    have ih := KtR.get k r t
    unfold ktGet getX at ih ⊢
    rw [List.find?_cons, List.find?_cons]
    cases z : decide (k' = k) with
    | true => exact r1
    | false => exact ih
theorem KtR.any (k : List Key) : ∀ {kds : List (List Key × D)} {xs : List (List Key × Addr × V)}, KtR K g F kds xs → (xs.any fun x => decide (x.1 = k)) = kds.any fun kv => decide (kv.1 = k)
  | _, _, .nil => rfl
  | _, _, .cons _ _ t => by rw [List.any_cons, List.any_cons, t.any k]
theorem KtR.snoc {k : List Key} {b : Addr} {d : D} {v : V} (a : SqT K F b (k.map kV)) (r : Rep K g F d v) : ∀ {kds : List (List Key × D)} {xs : List (List Key × Addr × V)}, KtR K g F kds xs → KtR K g F (kds ++ [(k, d)]) (xs ++ [(k, b, v)])
  | _, _, .nil => .cons a r .nil
  | _, _, .cons a' r' t => .cons a' r' (t.snoc a r)
theorem KtR.repl {k : List Key} {d : D} {v : V} (r : Rep K g F d v) : ∀ {kds : List (List Key × D)} {xs : List (List Key × Addr × V)}, KtR K g F kds xs → KtR K g F (kds.map fun kv => if kv.1 = k then (kv.1, d) else kv) (xs.map fun x => if x.1 = k then (x.1, x.2.1, v) else x)
  | _, _, .nil => .nil
  | _, _, @KtR.cons _ _ _ k' b d' v' kds xs a r1 t => by
    rw [List.map_cons, List.map_cons]
    by_cases z : k' = k
    · rw [if_pos z, if_pos z]; exact .cons a r (t.repl r)
    · rw [if_neg z, if_neg z]; exact .cons a r1 (t.repl r)
theorem KtR.put {k : List Key} {b : Addr} {d : D} {v : V} (a : SqT K F b (k.map kV)) (r : Rep K g F d v) {kds : List (List Key × D)} {xs : List (List Key × Addr × V)} (h : KtR K g F kds xs) : KtR K g F (ktPut kds k d) (putX xs k b v) := by
  unfold ktPut putX
  rw [h.any k]
  split
  · exact h.repl r
  · exact h.snoc a r
def keysDT (kds : List (List Key × D)) : List D := kds.map fun kd => kD kd.1
end
section
variable {g : Gp} {X : Cx} {tg a b e e2 : Expr} {d da db dk dv d2 : DE} {pos p cpos apos : Pos}
theorem upd_fresh {c : Option Addr} {F H F2 H2 : Hp} {p : Addr} {o o' : HO} {m : Nat} {K : PySem.W.Frag} {env : Env'} {σ : L2.St} (hc : c ≠ some p) (hp : H p = none) (r : Rel K g c F2 env m σ H2) (f : Fresh c F (upd H p o) F2 H2) (h2 : H2 p = some o) (hF : F2 p = none) (t : isT o = false) (tc : ∀ c q, o ≠ LamX.CodeO c q) (no : ¬ Own env σ p) :
    Rel K g c F2 env m σ (upd H2 p o') ∧ Fresh c F H F2 (upd H2 p o') := by
  have hh : ∀ a, a ≠ p → upd H2 p o' a = H2 a := fun a n => upd_ne n
  refine ⟨⟨fun a u z => ?_, r.len, fun i s h => (r.slot i s h).keep (fun _ _ z => z) fun a ha => ⟨((r.slot i s h).at ha).1, hh a fun z => no ⟨i, s, h, z ▸ ha⟩⟩, r.sep, ⟨fun a h => ?_, r.ck.tb.upd h2 t tc⟩⟩, ⟨f.ff, fun a u z => ?_, fun a u z n => ?_, fun a u z => ?_, f.nc⟩⟩
  · rw [hh a fun e => by rw [e, hF] at z; cases z]; exact r.sub _ _ z
  · obtain ⟨h3, xs, h4, h5⟩ := r.ck a h
    exact ⟨h3, xs, by rw [hh a fun e => hc (e ▸ h)]; exact h4, h5⟩
  · rw [hh a fun e => by rw [e, hF] at z; cases z]; exact f.fh _ _ z
  · have ne : a ≠ p := fun e => by rw [e, hp] at z; cases z
    rw [hh a ne]
    exact f.hk a u (by rw [upd_ne ne]; exact z) n
  · rcases f.new a u z with y | y
    · exact .inl y
    · by_cases q : a = p
      · subst q; exact .inr hp
      · rw [upd_ne q] at y; exact .inr y
end
end G
namespace G
open PySem L2
open PySem.W (dataLe AllAlike Sortable EachIs dataLt alike alikeAll)
section
variable {K : PySem.W.Frag} {g : Gp} {P : Program} {w : World}
def sortedXD : List D → Option (List D)
  | [.dit kds] => if sortOk (keysDT kds) then some (sortL (keysDT kds)) else none
  | _ => none
end
end G
namespace K24
open PySem L2 G
open T hiding ckOk
def sgn (b : Bool) : Nat := if b then 43 else 45
def lnS (L : List Bool) : Str := ⟨(L.map sgn).toArray⟩
abbrev lnD (L : List Bool) : D := .str (lnS L)
def way (p : Nat × Nat) (b : Bool) : Nat × Nat := if b then p else (p.2, p.1)
def ways (T : List (Nat × Nat)) (L : List Bool) : List (Nat × Nat) := List.zipWith way T L
def cnt (P : List Nat) (W : List (Nat × Nat)) : List Int := P.map fun a => ((W.countP fun p => p.1 == a : Nat) : Int)
def rowD (r : List Int) : D := .tup (r.map D.int)
def IsRow (P : List Nat) (T : List (Nat × Nat)) (k : List Int) : Prop := ∃ L : List Bool, L.length = T.length ∧ k = cnt P (ways T L)
def keyI (k : List Int) : List Key := k.map Sum.inl
structure RowKeys (P : List Nat) (T : List (Nat × Nat)) (kds : List (List Key × D)) (ks : List (List Int)) : Prop where
  eq : kds.map (·.1) = ks.map keyI
  nd : ks.Nodup
  all : ∀ k, k ∈ ks ↔ IsRow P T k
  few : ks.length ≤ LL
def apart (a b : List Int) : Int := ((a.zip b).map fun p => ((p.1 - p.2).natAbs : Int)).sum
structure Least (P : List Nat) (T : List (Nat × Nat)) (r : List Int) (d : Int) : Prop where
  one : ∃ k, IsRow P T k ∧ apart r k = d
  all : ∀ k, IsRow P T k → d ≤ apart r k
structure Nearest (P : List Nat) (T : List (Nat × Nat)) (r k : List Int) : Prop where
  row : IsRow P T k
  all : ∀ k', IsRow P T k' → apart r k < apart r k' ∨ (apart r k = apart r k' ∧ D.lt (rowD k') (rowD k) = false)
def RowOk (P : List Nat) (r : List Int) : Prop := r.length = P.length ∧ ∀ i ∈ r, 0 ≤ i ∧ i ≤ 1000000
def S_distance_to_row : G.Spec := fun as m Q => ∃ P T r, WbOk P T ∧ RowOk P r ∧ as = [.val (webD P T), .val (rowD r)] ∧ ∀ d, Least P T r d → Q (.int d) m
def S_nearest_row : G.Spec := fun as m Q => ∃ P T r, WbOk P T ∧ RowOk P r ∧ as = [.val (webD P T), .val (rowD r)] ∧ ∀ k, Nearest P T r k → Q (rowD k) m
def S_law_take : G.Spec := fun as m Q => ∃ n : Int, 0 < n ∧ n < 1000 ∧ m < 1000000 ∧ as = [.cask, .val (.int n)] ∧ ∀ d : Nat, (d : Int) < n → Q (.int d) (m + 1)
def S_law_one : G.Spec := fun as m Q => (∃ (P : List Nat), P ≠ [] ∧ P.length < 1000 ∧ m < 1000000 ∧ as = [.cask, .val (plD P)] ∧ ∀ a ∈ P, Q (.str (c1 a)) (m + 1)) ∨ (∃ Ls : List D, Ls ≠ [] ∧ Ls.length < 1000 ∧ m < 1000000 ∧ as = [.cask, .val (.lst Ls)] ∧ ∀ L ∈ Ls, Q L (m + 1))
def S_law_web : G.Spec := fun as m Q => m ≤ 500000 ∧ as = [.cask, .val (.int 4), .val (.int 5)] ∧ ∀ P T m', WbOk P T → P.length ≤ 4 → T.length ≤ 5 → m' ≤ m + 100 → Q (.tup [plD P, .tup (T.map wayD)]) m'
def S_law_lean : G.Spec := fun as m Q => ∃ T : List (Nat × Nat), T.length ≤ 11 ∧ m ≤ 500000 ∧ as = [.cask, .val (.tup (T.map wayD))] ∧ ∀ L m', L.length = T.length → m' ≤ m + 20 → Q (lnD L) m'
def S_law_ways : G.Spec := fun as m Q => ∃ (T : List (Nat × Nat)) (L : List Bool), T.length ≤ 11 ∧ L.length = T.length ∧ as = [.val (.tup (T.map wayD)), .val (lnD L)] ∧ Q (.lst ((ways T L).map wayD)) m
def S_law_leanings : G.Spec := fun as m Q => ∃ n : Nat, n ≤ 11 ∧ as = [.val (natD n)] ∧ ∀ Ls : List (List Bool), Ls.length ≤ 2048 → (∀ L, L ∈ Ls ↔ L.length = n) → Q (.lst (Ls.map lnD)) m
def S_law_rows : G.Spec := fun as m Q => ∃ P T, WbOk P T ∧ as = [.val (plD P), .val (.tup (T.map wayD))] ∧ ∀ kds ks, RowKeys P T kds ks → Q (.dit kds) m
def S_law_tuple : G.Spec := fun as m Q => ∃ P T, WbOk P T ∧ m ≤ 400000 ∧ as = [.cask, .val (plD P), .val (.tup (T.map wayD))] ∧ ∀ r m', r.length = P.length → (∀ i ∈ r, 0 ≤ i ∧ i ≤ 1000) → m' ≤ m + 100 → Q (rowD r) m'
def S_law_right : G.Spec := fun as m Q => m ≤ 1000 ∧ as = [.cask] ∧ ∀ m', Q (.bl true) m'
theorem S_law_take_len : ∀ as m Q, S_law_take as m Q → as.length = 2 := by rintro as m Q ⟨_, _, _, _, rfl, _⟩; rfl
theorem S_law_one_len : ∀ as m Q, S_law_one as m Q → as.length = 2 := by rintro as m Q (⟨_, _, _, _, rfl, _⟩ | ⟨_, _, _, _, rfl, _⟩) <;> rfl
theorem S_law_web_len : ∀ as m Q, S_law_web as m Q → as.length = 3 := by rintro as m Q ⟨_, rfl, _⟩; rfl
theorem S_law_ways_len : ∀ as m Q, S_law_ways as m Q → as.length = 2 := by rintro as m Q ⟨_, _, _, _, rfl, _⟩; rfl
theorem S_law_leanings_len : ∀ as m Q, S_law_leanings as m Q → as.length = 1 := by rintro as m Q ⟨_, _, rfl, _⟩; rfl
theorem S_law_right_len : ∀ as m Q, S_law_right as m Q → as.length = 1 := by rintro as m Q ⟨_, rfl, _⟩; rfl
def ckOk : Nat → List V → Prop := fun m xs => ∃ s f l : Int, xs = [.int s, .int f, .int l] ∧ 0 ≤ s ∧ s < 2147483399 ∧ 0 ≤ f ∧ 0 ≤ l ∧ l ≤ m
end K24
namespace K24
open PySem L2 G
open T hiding ckOk
def pm10 {α : Type} : List α → List α
  | [x0, x1] => [x1, x0]
  | l => l
def d_law_one : DS := (dRet (dOp ixD (dVarB 1) (dCall S_law_take (dConsC 0 (dConsA (dCallB lenD0 (dConsL (dVarB 1) dNilL)) dNilA)))))
abbrev n_law_one : Nat := 2
def d_law_web : DS := (dSeq (dMix [3, 4] (dConsW (dNew (dCallN listD (dConsL (dC (.str "abcdefgh")) dNilL))) (dConsW (dNew (dLst dNilL)) dNilA)))
  (dSeq (dFor (dIRng (dOp addD (dC (.int 1)) (dCall S_law_take (dConsC 0 (dConsA (dVar 1) dNilA))))) (tgN 5) (dAppPop 4 3 (dCall S_law_take (dConsC 0 (dConsA (dCallB lenD0 (dConsL (dVarB 3) dNilL)) dNilA)))))
  (dSeq (dMix [6, 7] (dConsA (dMt D.isS joinD (dC (.str "")) (dConsL (dNew (dCallN sortedD (dConsL (dVarB 4) dNilL))) dNilL)) (dConsW (dNew (dLst dNilL)) dNilA)))
  (dSeq (dFor (dIRng (dCall S_law_take (dConsC 0 (dConsA (dOp addD (dVarB 2) (dC (.int 1))) dNilA)))) (tgN 5) (dSeq (dPar 8 9 (dConsL (dCall S_law_one (dConsC 0 (dConsA (dVar 6) dNilA))) (dConsL (dCall S_law_one (dConsC 0 (dConsA (dVar 6) dNilA))) dNilL)))
  (dSeq (dAsg 9 (dIfE (dAnd (dTest (dOp eqD (dVarB 8) (dVarB 9))) (dTest (dOp gtD (dCall S_law_take (dConsC 0 (dConsA (dC (.int 3)) dNilA))) (dC (.int 0))))) (dCall S_law_one (dConsC 0 (dConsA (dVar 6) dNilA))) (dVar 9)))
  (dApp 7 (dOp addD (dCallB minD2 (dConsL (dVarB 8) (dConsL (dVarB 9) dNilL))) (dCallB maxD2 (dConsL (dVarB 8) (dConsL (dVarB 9) dNilL))))))))
  (dRet (dTup (dConsL (dVar 6) (dConsL (dCallB tupleD (dConsL (dVarB 7) dNilL)) dNilL))))))))
abbrev n_law_web : Nat := 10
def d_law_ways : DS := (dRet (dNew (dLc (dIRng (dCallB lenD0 (dConsL (dVarB 0) dNilL))) (tgN 2) dYes (dIfE (dTest (dOp eqD (dOp ixD (dVarB 1) (dVarB 2)) (dC (.str "+")))) (dOp ixD (dVarB 0) (dVarB 2)) (dRev (dOp ixD (dVarB 0) (dVarB 2)))) [2])))
abbrev n_law_ways : Nat := 3
def d_law_leanings : DS := (dSeq (dAsg 1 (dNew (dLst (dConsL (dC (.str "")) dNilL))))
  (dSeq (dFor (dIRng (dVar 0)) (tgN 2) (dAsg 1 (dOp addD (dNew (dLc (dISrc (dVarB 1)) (tgN 3) dYes (dOp addD (dVarB 3) (dC (.str "+"))) [3])) (dNew (dLc (dISrc (dVarB 1)) (tgN 3) dYes (dOp addD (dVarB 3) (dC (.str "-"))) [3])))))
  (dRet (dNew (dCallN sortedD (dConsL (dVarB 1) dNilL))))))
abbrev n_law_leanings : Nat := 4
def d_law_right : DS := (dSeq (dAsgT (tgT (tgCons (tgN 1) (tgCons (tgN 2) tgNil)) 2) (dCall S_law_web (dConsC 0 (dConsA (dC (.int 4)) (dConsA (dC (.int 5)) dNilA)))))
  (dSeq (dPar 3 4 (dConsL (dMake (dConsA (dVar 1) (dConsA (dVar 2) dNilA))) (dConsL (dNew (dCallN sortedXD (dConsL (dCall S_law_rows (dConsA (dVar 1) (dConsA (dVar 2) dNilA))) dNilL))) dNilL)))
  (dSeq (dFor (dIRng (dC (.int 5))) (tgN 5) (dSeq (dAsg 6 (dCall S_law_tuple (dConsC 0 (dConsA (dVar 1) (dConsA (dVar 2) dNilA)))))
  (dSeq (dIf (dTest (dOp eqD (dCall S_law_take (dConsC 0 (dConsA (dC (.int 4)) dNilA))) (dC (.int 0)))) (dSeq (dPar 7 8 (dConsL (dCall S_law_take (dConsC 0 (dConsA (dCallB lenD0 (dConsL (dVarB 6) dNilL)) dNilA))) (dConsL (dCall S_law_one (dConsC 0 (dConsA (dNew (dLst (dConsL (dC (.int 3)) (dConsL (dC (.int 7)) (dConsL (dOp subD (dOp powD (dC (.int 10)) (dC (.int 6))) (dOp ixD (dVarB 6) (dC (.int 0)))) dNilL))))) dNilA))) dNilL)))
  (dAsg 6 (dOp addD (dOp addD (dSlice (dVarB 6) dNoP (dP (dVar 7))) (dTup (dConsL (dCallB minD2 (dConsL (dOp powD (dC (.int 10)) (dC (.int 6))) (dConsL (dOp addD (dOp ixD (dVarB 6) (dVarB 7)) (dVarB 8)) dNilL))) dNilL))) (dSlice (dVarB 6) (dP (dOp addD (dVarB 7) (dC (.int 1)))) dNoP)))) dNext)
  (dSeq (dAsg 9 (dNew (dLc (dISrc (dVarB 4)) (tgN 12) dYes (dCallB sumD (dConsL (dNew (dLc (dIRng (dCallB lenD0 (dConsL (dVarB 6) dNilL))) (tgN 13) dYes (dCallB absD (dConsL (dOp subD (dOp ixD (dVarB 12) (dVarB 13)) (dOp ixD (dVarB 6) (dVarB 13))) dNilL)) [13])) dNilL)) [12])))
  (dSeq (dAsg 10 (dCallB minD1 (dConsL (dVarB 9) dNilL)))
  (dSeq (dAsg 11 (dNew (dLst (dConsL (dVar 10) (dConsL (dOp ixD (dVarB 4) (dMt D.isL indexD (dVarB 9) (dConsL (dVarB 10) dNilL))) dNilL)))))
  (dSeq (dIf (dTest (dOp neD (dNew (dLst (dConsL (dCall S_distance_to_row (dConsA (dVar 3) (dConsA (dVar 6) dNilA))) (dConsL (dCall S_nearest_row (dConsA (dVar 3) (dConsA (dVar 6) dNilA))) dNilL)))) (dVarB 11))) (dRet (dC (.bl false))) dNext)
  (dSeq (dIf (dTest (dOp neD (dNew (dLst (dConsL (dCallK S_distance_to_row pm10 (dConsA (dVar 6) (dConsA (dVar 3) dNilA))) (dConsL (dCallK S_nearest_row pm10 (dConsA (dVar 6) (dConsA (dVar 3) dNilA))) dNilL)))) (dVarB 11))) (dRet (dC (.bl false))) dNext)
  (dIf (dTest (dOp neD (dOp eqD (dVarB 10) (dC (.int 0))) (dOp inQD (dVarB 6) (dVarB 4)))) (dRet (dC (.bl false))) dNext)))))))))
  (dRet (dC (.bl true))))))
abbrev n_law_right : Nat := 14
end K24
namespace K24
open PySem L2 G
open T hiding ckOk
theorem plus_is : (Str.ofString "+") = c1 43 := by decide +kernel
theorem minus_is : (Str.ofString "-") = c1 45 := by decide +kernel
theorem eq_plus (b : Bool) : eqD (.str (c1 (sgn b))) (.str "+") = some (.bl b) := by
  rw [plus_is, eqD_str, c1_eq]
  cases b <;> rfl
theorem ways_zip (T : List (Nat × Nat)) (L : List Bool) : ways T L = (T.zip L).map fun p => way p.1 p.2 := by
  unfold ways
  rw [List.zip_eq_zipWith, List.map_zipWith]
theorem ways_len {T : List (Nat × Nat)} {L : List Bool} (h : L.length = T.length) : (ways T L).length = T.length := by
  unfold ways; rw [List.length_zipWith]; omega
theorem law_law_one : ∀ as m Q, S_law_one as m Q → d_law_one (padn n_law_one as) m (fin Q) := by
  rintro as m Q (⟨P, hne, hl, hm, rfl, q⟩ | ⟨Ls, hne, hl, hm, rfl, q⟩)
  · have hl2 : P.length ≤ LL := by have := llv; omega
    have hpos : 0 < P.length := List.length_pos_iff.mpr hne
    refine ⟨_, rfl, _, rfl, .inl rfl, _, rfl, .int (P.length : Nat), if_pos hl2, (P.length : Int), by omega, by omega, hm, rfl, fun d hd => ?_⟩
    have hd' : d < P.length := by omega
    exact ⟨_, ix_pl hl2 (List.getElem?_eq_getElem hd'), q _ (List.getElem_mem hd')⟩
  · have hpos : 0 < Ls.length := List.length_pos_iff.mpr hne
    refine ⟨_, rfl, _, rfl, .inl rfl, _, rfl, .int (Ls.length : Nat), rfl, (Ls.length : Int), by omega, by omega, hm, rfl, fun d hd => ?_⟩
    have hd' : d < Ls.length := by omega
    exact ⟨_, atI_nat (List.getElem?_eq_getElem hd'), q _ (List.getElem_mem hd')⟩
theorem ix_ln {L : List Bool} {i : Nat} {b : Bool} (hl : L.length ≤ LL) (h : L[i]? = some b) : ixD (.str (lnS L)) (natD i) = some (.str (c1 (sgn b))) :=
  ix_pl (P := L.map sgn) (by rw [List.length_map]; exact hl) (by rw [List.getElem?_map, h]; rfl)
theorem ways_get {T : List (Nat × Nat)} {L : List Bool} {i : Nat} {p : Nat × Nat} {b : Bool} (h1 : T[i]? = some p) (h2 : L[i]? = some b) : (ways T L)[i]? = some (way p b) := by
  unfold ways
  rw [List.getElem?_zipWith, h1, h2]
theorem law_law_ways : ∀ as m Q, S_law_ways as m Q → d_law_ways (padn n_law_ways as) m (fin Q) := by
  rintro as m Q ⟨T, L, h11, hL, rfl, q⟩
  have e : ((T.map wayD).length : Int) = (T.length : Nat) := by rw [List.length_map]
  refine ⟨_, rfl, _, rfl, (T.length : Nat), by rw [e], by omega, by omega, ?_⟩
  rw [natD_map]
  refine ⟨by rw [List.length_map, List.length_range]; exact len11 h11, ?_⟩
  refine lcR_m natD (fun i => wayD ((ways T L).getD i (0, 0))) _ m _ (fun i hi => ?_) ?_
  · have hi' : i < T.length := List.mem_range.mp hi
    have h1 : T[i]? = some T[i] := List.getElem?_eq_getElem hi'
    have h2 : L[i]? = some (L[i]'(by omega)) := List.getElem?_eq_getElem _
    have h3 := ways_get h1 h2
    have h4 : (ways T L).getD i (0, 0) = way T[i] (L[i]'(by omega)) := by rw [List.getD_eq_getElem?_getD, h3]; rfl
    refine ⟨_, rfl, fun m Q q => ⟨_, rfl, _, rfl, _, ix_ln (by rw [hL]; exact len11 h11) h2, _, eq_plus _, _, rfl, ?_⟩⟩
    rw [h4] at q
    cases hb : (L[i]'(by omega)) with
    | true =>
      rw [hb] at q
      exact ⟨_, rfl, _, rfl, _, ix_tup h1, q⟩
    | false =>
      rw [hb] at q
      exact ⟨_, rfl, _, rfl, _, ix_tup h1, tS T[i], rfl, (by decide : 2 ≤ LL), q⟩
  · have e2 : (List.range T.length).map (fun i => wayD ((ways T L).getD i (0, 0))) = (ways T L).map wayD := by
      refine List.ext_getElem (by simp [ways_len hL]) fun i h1 h2 => ?_
      simp [List.getD_eq_getElem?_getD]
      rw [List.getElem?_eq_getElem (by simpa using h2)]
      rfl
    rw [e2]
    exact q
theorem law_law_web : ∀ as m Q, S_law_web as m Q → d_law_web (padn n_law_web as) m (fin Q) := by
  rintro as m Q ⟨hm, rfl, q⟩
  have el : listD [.str "abcdefgh"] = some ([97, 98, 99, 100, 101, 102, 103, 104].map cD) := by
    show (if (Str.ofString "abcdefgh").length ≤ LL then some (charsD (Str.ofString "abcdefgh")) else none) = _
    rw [letters_chars, if_pos (by decide +kernel)]
  refine ⟨_, el, by decide, rfl, ?_⟩
  refine ⟨_, rfl, .inl rfl, _, rfl, 4, by decide, by decide, by omega, rfl, fun d1 hd1 => ?_⟩
  refine ⟨_, rfl, ((1 + d1 : Nat) : Int), by show D.int (1 + (d1 : Int)) = _; congr 1, by omega, by omega, ?_⟩
  refine forR_ind (fun its env m' => ∃ (left found : List Nat) (x5 : Sl), m' = m + 1 + found.length ∧ found.length + its.length = 1 + d1 ∧ (left ++ found).Perm [97, 98, 99, 100, 101, 102, 103, 104] ∧ env = [.cask, .val (.int 4), .val (.int 5), .own (left.map cD), .own (found.map cD), x5, .no, .no, .no, .no]) ?_ ?_ _ _ _
    ⟨[97, 98, 99, 100, 101, 102, 103, 104], [], .no, rfl, ?_, by simp, rfl⟩
  · rintro env m' ⟨left, found, x5, rfl, hlen, hp, rfl⟩
    simp at hlen
    have hin : ∀ a ∈ found, 97 ≤ a ∧ a ≤ 104 := fun a ha => by
      have := hp.mem_iff.mp (List.mem_append_right left ha)
      simp at this
      omega
    have hnd : found.Nodup := by
      have : (left ++ found).Nodup := hp.nodup_iff.mpr (by decide)
      exact (List.nodup_append.mp this).2.1
    have hPl : PlOk (srt found) := ⟨srt_inc hnd, fun a ha => hin a ((srt_perm found).mem_iff.mp ha), by rw [(srt_perm found).length_eq]; omega, by rw [(srt_perm found).length_eq]; omega⟩
    have hpl := (srt_perm found).length_eq
    have hsrt := sorted_c1 (l := found) (by have := llv; omega) fun a ha => by have := hin a ha; omega
    generalize srt found = P at *
    have hL : P.length ≤ LL := Nat.le_trans hPl.few (by decide)
    have hne : P ≠ [] := List.length_pos_iff.mp hPl.pos
    refine ⟨rfl, _, rfl, P.map cD, ?_, .str (plS P), ?_, by decide, rfl, ?_⟩
    · exact hsrt
    · exact joinD_c1 P hL
    refine ⟨_, rfl, .inl rfl, _, rfl, .int 6, rfl, 6, by decide, by decide, by omega, rfl, fun d2 hd2 => ?_⟩
    refine ⟨(d2 : Nat), rfl, by omega, by omega, ?_⟩
    refine forR_ind (fun its env m' => ∃ (T : List (Nat × Nat)) (x5 x8 x9 : Sl), m' ≤ m + 20 + 5 * T.length ∧ T.length + its.length = d2 ∧ (∀ p ∈ T, p.1 ∈ P ∧ p.2 ∈ P ∧ p.1 ≤ p.2) ∧ env = [.cask, .val (.int 4), .val (.int 5), .own (left.map cD), .own (found.map cD), x5, .val (.str (plS P)), .own (T.map wayD), x8, x9]) ?_ ?_ _ _ _
      ⟨[], _, _, _, by omega, ?_, by simp, rfl⟩
    · rintro env m' ⟨T, x5, x8, x9, hm', hlen', hT, rfl⟩
      simp at hlen'
      refine ⟨_, rfl, _, rfl, _, rfl, (by decide : 2 ≤ LL), q P T m' ⟨hPl, by omega, hT⟩ (by omega) (by omega) (by omega)⟩
    · rintro d ds env m' ⟨T, x5, x8, x9, hm', hlen', hT, rfl⟩
      rw [List.length_cons] at hlen'
      refine ⟨_, rfl, fun K hK => ?_⟩
      have hP1000 : P.length < 1000 := by have := hPl.few; omega
      refine ⟨_, rfl, .inl rfl, _, rfl, .inl ⟨P, hne, hP1000, by omega, rfl, fun a ha => ?_⟩⟩
      refine ⟨_, rfl, .inl rfl, _, rfl, .inl ⟨P, hne, hP1000, by omega, rfl, fun b hb => ?_⟩⟩
      refine ⟨_, _, rfl, ?_⟩
      have fin' : ∀ (b' : Nat) (m2 : Nat), b' ∈ P → m2 ≤ m' + 4 → dApp 7 (dOp addD (dCallB minD2 (dConsL (dVarB 8) (dConsL (dVarB 9) dNilL))) (dCallB maxD2 (dConsL (dVarB 8) (dConsL (dVarB 9) dNilL))))
          [.cask, .val (.int 4), .val (.int 5), .own (left.map cD), .own (found.map cD), .val d, .val (.str (plS P)), .own (T.map wayD), .val (cD a), .val (cD b')] m2 { nx := K, rt := Q } := fun b' m2 hb' hm2 => by
        refine ⟨_, rfl, _, rfl, _, rfl, _, min_c a b', _, rfl, _, rfl, _, max_c a b', _, add_c1 _ _, by rw [List.length_map]; have := llv; omega, hK _ _ ⟨T ++ [(min a b', max a b')], .val d, .val (cD a), .val (cD b'), by rw [List.length_append, List.length_singleton]; omega, by rw [List.length_append, List.length_singleton]; omega, fun p hp => ?_, by rw [List.map_append]; rfl⟩⟩
        rcases List.mem_append.mp hp with hp | hp
        · exact hT p hp
        · rw [List.mem_singleton] at hp
          subst hp
          refine ⟨?_, ?_, by show min a b' ≤ max a b'; omega⟩
          · show min a b' ∈ P
            rcases Nat.le_total a b' with h | h
            · rw [Nat.min_eq_left h]; exact ha
            · rw [Nat.min_eq_right h]; exact hb'
          · show max a b' ∈ P
            rcases Nat.le_total a b' with h | h
            · rw [Nat.max_eq_right h]; exact hb'
            · rw [Nat.max_eq_left h]; exact ha
      refine ⟨_, rfl, _, rfl, _, eqD_str _ _, _, rfl, ?_⟩
      rw [c1_eq]
      by_cases hab : a = b
      · rw [decide_eq_true hab]
        refine ⟨_, rfl, .inl rfl, 3, by decide, by decide, by omega, rfl, fun d3 hd3 => ⟨_, rfl, _, rfl, ?_⟩⟩
        by_cases h3 : (0 : Int) < (d3 : Nat)
        · rw [decide_eq_true h3]
          exact ⟨_, rfl, .inl rfl, _, rfl, .inl ⟨P, hne, hP1000, by omega, rfl, fun b' hb' => fin' b' _ hb' (by omega)⟩⟩
        · rw [decide_eq_false h3]
          exact ⟨_, rfl, fin' b _ hb (by omega)⟩
      · rw [decide_eq_false hab]
        exact ⟨_, rfl, fin' b _ hb (by omega)⟩
    · rw [natD_map, List.length_map, List.length_range]; simp
  · rintro d ds env m' ⟨left, found, x5, rfl, hlen, hp, rfl⟩
    rw [List.length_cons] at hlen
    have hl8 := hp.length_eq
    simp at hl8
    refine ⟨_, rfl, fun K hK => ?_⟩
    refine ⟨_, _, rfl, rfl, by decide, _, rfl, .inl rfl, _, rfl, _, rfl, (left.length : Nat), by omega, by omega, by omega, by rw [List.length_map], fun k hk => ?_⟩
    have hk' : k < left.length := by omega
    have hkx : left[k]? = some left[k] := List.getElem?_eq_getElem hk'
    refine ⟨k, cD left[k], rfl, by rw [List.getElem?_map, hkx]; rfl, by rw [List.length_map]; have := llv; omega, by rw [List.length_map]; have := llv; omega, hK _ _ ⟨left.eraseIdx k, found ++ [left[k]], .val d, by rw [List.length_append, List.length_singleton]; omega, by rw [List.length_append, List.length_singleton]; omega, ?_, ?_⟩⟩
    · have h1 := T.erase_perm left k _ hkx
      have h2 : (left.eraseIdx k ++ (found ++ [left[k]])).Perm ((left[k] :: left.eraseIdx k) ++ found) := by
        have : (left.eraseIdx k ++ (found ++ [left[k]])).Perm ((left.eraseIdx k ++ found) ++ [left[k]]) := by rw [List.append_assoc]
        exact this.trans (List.perm_append_comm (l₁ := left.eraseIdx k ++ found) (l₂ := [left[k]]))
      exact (h2.trans (h1.append_right found)).trans hp
    · rw [erase_map, List.map_append]; rfl
  · rw [natD_map, List.length_map, List.length_range]; simp
end K24
namespace HT
open PySem PyProof.Rows
section
variable {prog : Program} {w : World} {A : Around} {E : Value → Shared → Prop} {s : Shared}
end
end HT
namespace G
open PySem L2
section
variable {X : Cx}
theorem Vals.snoc {xs : List V} {vs : List Value} {x : V} {v : Value} (h : Vals xs vs) (r : RelV x v) : Vals (xs ++ [x]) (vs ++ [v]) := by
  induction h with
  | nil => exact .cons r .nil
  | cons a _ ih => exact .cons a ih
end
section
variable {g : Gp} {X : Cx} {e : Expr} {d : DE} {pos : Pos}
theorem RepL.snoc {K : PySem.W.Frag} {F : Hp} {ds : List D} {vs : List V} {x : D} {v : V} (h : RepL K g F ds vs) (r : Rep K g F x v) : RepL K g F (ds ++ [x]) (vs ++ [v]) := by
  induction vs generalizing ds with
  | nil => cases h; exact .cons r .nil
  | cons a t ih =>
    cases h with
    | cons h1 h2 => exact .cons h1 (ih h2)
end
end G
namespace L2
open PySem PySem.Spec PyProof.Rows
def Raw (rc : List (Addr × Value)) (h : Heap) : Prop := ∀ p ∈ rc, h.IsCell p.1 (some p.2)
theorem Raw.keeps {rc : List (Addr × Value)} {h h' : Heap} (r : Raw rc h) (k : ∀ b o, h.get? b = some o → h'.get? b = some o) : Raw rc h' := fun p hp => (r p hp).keeps k
def Own1 (X : Cx) (rc : List (Addr × Value)) : Prop := ∀ p ∈ rc, ∃ x, X.env.cells.lookup x = some p.1 ∧ X.fn x = true
theorem own_nofs {X : Cx} {pins : List (Addr × Obj)} {σ : St} {H : Hp} {s : Shared} {rc : List (Addr × Value)} (I : Inv X pins σ H s) (o : Own1 X rc) : ∀ p ∈ rc, p.1 ∉ frs X.stack := fun p hp z => by
  obtain ⟨x, hx, hf⟩ := o p hp
  rcases List.mem_cons.mp (I.stkSub _ z) with e | e
  · exact I.cne x _ hx e
  · obtain ⟨_, ob, ho, _⟩ := I.ok.funs.mem e
    exact absurd (Nat.lt_of_lt_of_le (Heap.lt_size ho) (I.ok.cab x _ hf hx)) (Nat.lt_irrefl _)
section
variable {X : Cx}
def PIER (X : Cx) (rc : List (Addr × Value)) (pins : List (Addr × Obj)) (σ : St) (tg : Expr) (R : It → Hp → Prop) (itv : Value) (s2 : Shared) : Prop := PIE X pins σ tg R itv s2 ∧ Raw rc s2.heap
structure RawB (X : Cx) (rc : List (Addr × Value)) (s : Shared) (H : Hp) (fp : List Addr) : Prop where
  raw : Raw rc s.heap
  free : ∀ p ∈ rc, H p.1 = none
  nofs : ∀ p ∈ rc, p.1 ∉ frs X.stack
  nofp : ∀ p ∈ rc, p.1 ∉ fp
theorem RawB.at {X : Cx} {rc : List (Addr × Value)} {s s' : Shared} {H H' : Hp} {fp : List Addr} {scope : Scope} {cenv : Env} {pins : List (Addr × Obj)} {σ : St} (r : RawB X rc s H fp) (I : Inv (X.blk s H scope cenv fp) pins σ H' s') : Raw rc s'.heap := fun p hp => by
  obtain ⟨o, ho, hd⟩ := r.raw p hp
  exact ⟨o, I.base.keep p.1 o ho (r.free p hp) (r.nofs p hp) (r.nofp p hp), hd⟩
theorem lc_raw {rc : List (Addr × Value)} {pins : List (Addr × Obj)} {s : Shared} {σ : St} {H : Hp} {elt tg iter : Expr} {scope : Scope} {own : List (Str × Nat)} {pos pos' : Pos} {g : TG} {te : TE} {use : Option (Value → Sem Unit)} {Qf : Value → Shared → Prop} {R : It → Hp → Prop} {Q : VK}
    (hc : X.calm = true) (hN : X.N.Nodup) (I : Inv X pins σ H s) (hrc : Own1 X rc) (ok : BlkOk X.N X.env.scope scope own)
    (hi : wpAny (model X.prog X.w) X.A (eval iter X.env) (fun v s1 => wpAny (model X.prog X.w) X.A (pyIter v) (PIER X rc pins σ tg R) X.xe s1) X.xe s)
    (hg : ∀ (s : Shared) (H : Hp) (C : Addr) (cl : List (Str × Addr)) (fp : List Addr), PG (X.blk s H scope (compEnvC scope cl C X.env) fp) tg g)
    (he : ∀ (s : Shared) (H : Hp) (fp : List Addr), RawB X rc s H fp → PE (X.blk s H scope (compEnvC scope (cellsFrom (s.heap.objs.size + 1) scope.names (cloFrom X.env.cells scope.names [])) s.heap.objs.size X.env) fp) elt te)
    (hs : ∀ x, foldedSetIterable iter X.env x = pure x)
    (h : ∀ J H1, R J H1 → ∀ D, H1 D = none → ∃ W : Nat → Nat → Hp → Prop, (∃ m, W 0 m (upd H1 D (.lst []))) ∧ ∀ i m H, W i m H →
      (J.stop i H ∧ Q (.ref D) H) ∨ (J.go i H ∧ ∃ Nx : Hp → Prop, (∀ H', Nx H' → ∃ m', m' < m ∧ W (i + 1) m' H') ∧ ∀ x H', J.yld i H x H' → g x (wipe σ (own.map (·.2))) H' fun σ2 H2 => wipe σ2 (own.map (·.2)) = wipe σ (own.map (·.2)) ∧
        te σ2 H2 fun y H4 => ∃ acc, H4 D = some (.lst acc) ∧ acc.length < sizeLine ∧ Nx (upd H4 D (.lst (acc ++ [y])))))
    (hRR : ∀ D C s' m H', Inv X pins σ H' s' → Q (.ref D) H' → Raw rc s'.heap → s'.heap.Ns C m → FpOk X pins H' C → compPost (model X.prog X.w) X.A X.xe use Qf (.ref D) C (.ok .next) s') :
    wpAny (model X.prog X.w) X.A (comprehension (.ListComp elt [⟨tg, iter, [], 0⟩] scope pos) scope X.env pos' (newList []) false (eval iter X.env) use) Qf X.xe s := by
  have hfree : ∀ y ∈ scope.names, y.2 = .free → ∃ c, X.env.cells.lookup y.1 = some c := fun y hy e => by
    rcases ok.free y hy e with k | k
    · exact I.ok.has _ (.inl k)
    · exact I.ok.has _ (.inr k)
  refine wpAny_comprehension_free (use := use) rfl hs (closure_ok hfree) ok.kind (fun y hy e => by rw [ok.uniq y hy, e])
    (thn hi fun xv s1 hx => thn hx fun itv s2 h2 => ?_)
  obtain ⟨⟨it, fp, tn, J, H2, e, I2, T, st2, f2, q⟩, raw2⟩ := h2
  subst e
  refine wpAny_newObj_type (newEnv_comp ?_) (by show 0 ≤ sizeLine; decide)
  generalize hD : s2.heap.objs.size = D
  have hDn : H2 D = none := I2.hok.fresh (Nat.le_of_eq hD)
  obtain ⟨W, ⟨m0, w0⟩, turn⟩ := h J H2 q D hDn
  generalize hs3 : ({ s2 with heap := s2.heap.push { cls := .type "list", data := .seq ([] : List Value).toArray } } : Shared) = s3
  have k3 : ∀ b o, s2.heap.get? b = some o → s3.heap.get? b = some o := fun b o e => by rw [← hs3]; exact Heap.get?_push_of_some _ e
  have I3 : Inv X pins σ (upd H2 D (.lst [])) s3 := by
    rw [← hs3]
    refine I2.laid (t' := s2.toks) (fun b o e => Heap.get?_push_of_some _ e) (Nat.le_of_eq hD) ⟨Nat.zero_le _, [], 0, .nil, ?_⟩
    rw [← hD]
    exact Heap.get?_push_size _ rfl
  have h3 : s3.heap = s2.heap.push { cls := .type "list", data := .seq ([] : List Value).toArray } := by rw [← hs3]
  have f3 : ∀ b ∈ fp, FpOk X pins (upd H2 D (.lst [])) b ∧ b < s3.heap.objs.size := fun b hb => by
    obtain ⟨o, eo, _⟩ := T.obj _ _ st2 b hb
    have hlt := Heap.lt_size eo
    refine ⟨⟨?_, (f2 b hb).2⟩, by rw [h3, Heap.size_push]; exact Nat.lt_succ_of_lt hlt⟩
    rw [upd_ne (by rw [← hD]; exact Nat.ne_of_lt hlt)]
    exact (f2 b hb).1
  have st3 : tn 0 s3.heap := T.keep _ _ _ st2 fun b _ o e => k3 b o e
  have rb : RawB X rc s3 (upd H2 D (.lst [])) fp := ⟨raw2.keeps k3, fun p hp => by
    obtain ⟨x, hx, _⟩ := hrc p hp
    exact I3.freeC x _ hx, own_nofs I3 hrc, fun p hp z => by
    obtain ⟨x, hx, _⟩ := hrc p hp
    exact (f3 _ z).1.2.2.2.2.1 x _ hx rfl⟩
  have I4 := block_start I3 ok hN f3
  have pg := hg s3 (upd H2 D (.lst [])) s3.heap.objs.size (cellsFrom (s3.heap.objs.size + 1) scope.names (cloFrom X.env.cells scope.names [])) fp
  have pe := he s3 (upd H2 D (.lst [])) fp rb
  show codeAny _ _ (.compStart (.ListComp elt [⟨tg, iter, [], 0⟩] scope pos) 0 (.ref it) (.ref D) (compEnvC scope (cellsFrom (s3.heap.objs.size + 1) scope.names (cloFrom X.env.cells scope.names [])) s3.heap.objs.size X.env)) (compPost (model X.prog X.w) X.A X.xe use Qf (.ref D) s3.heap.objs.size) { s3 with heap := pushCells (s3.heap.push { cls := .type "dict", data := .dict #[] }) scope.names }
  have nfp : ∀ b ∈ fp, (upd H2 D (.lst [])) b = none := fun b hb => (f3 b hb).1.1
  generalize hce : compEnvC scope (cellsFrom (s3.heap.objs.size + 1) scope.names (cloFrom X.env.cells scope.names [])) s3.heap.objs.size X.env = ce at I4 pg pe ⊢
  have cL : ce.locals = s3.heap.objs.size := by subst hce; rfl
  generalize hH3 : upd H2 D (.lst []) = H3 at I3 I4 pg pe w0 nfp f3 rb
  generalize hs4 : ({ s3 with heap := pushCells (s3.heap.push { cls := .type "dict", data := .dict #[] }) scope.names } : Shared) = s4 at I4 ⊢
  have st4 : tn 0 s4.heap := T.keep _ _ _ st3 fun b _ o e => by rw [← hs4]; exact pushCells_keeps _ _ _ _ (Heap.get?_push_of_some _ e)
  have stat : ∀ {σ' : St} {H' : Hp} {s' : Shared}, Inv (X.blk s3 H3 scope ce fp) [] σ' H' s' → (∀ b ∈ fp, H' b = none) → ∀ b ∈ fp, FpOk (X.blk s3 H3 scope ce fp) [] H' b := fun {σ' H' s'} I' hn b hb =>
    ⟨hn b hb, (I'.ok.exf b hb).1, I'.ok.exfs b hb, .inl hb, fun x c e => (I'.ok.exf b hb).2 x c e, fun p hp => absurd (show p ∈ ([] : List (Addr × Obj)) ++ [] from hp) (by simp)⟩
  have loop : codeAny (model X.prog X.w) X.A (.compLoop (.ListComp elt [⟨tg, iter, [], 0⟩] scope pos) 0 (.ref it) (.ref D) ce) (compPost (model X.prog X.w) X.A X.xe use Qf (.ref D) s3.heap.objs.size) s4 := by
    refine compLoop_any (fun n s' => ∃ i H', Inv (X.blk s3 H3 scope ce fp) [] (wipe σ (own.map (·.2))) H' s' ∧ tn i s'.heap ∧ (∀ b ∈ fp, H' b = none) ∧ W i n H') ?_ m0 ⟨0, H3, I4, st4, nfp, w0⟩
    rintro n s5 ⟨i, H5, I5, st5, n5, w5⟩
    rcases turn i n H5 w5 with ⟨stop, qq⟩ | ⟨go, Nx, hNx, step⟩
    · refine thnF (T.done (X.blk s3 H3 scope ce fp) rfl rfl rfl hc i [] s5 _ H5 (fun _ _ => False) I5 (stat I5 n5) st5 stop) fun r s6 ⟨hr, I6⟩ => ?_
      subst hr
      have I7 : Inv X pins σ H5 s6 := I3.call' (ch := fp) I6.os I6.base I6.hok I6.bare fun b hb => ⟨(f3 b hb).1.2.2.2.1, (f3 b hb).1.2.1, (f3 b hb).1.2.2.2.2.1, (f3 b hb).1.2.2.2.2.2⟩
      have nC : H5 s3.heap.objs.size = none := by
        have z : H5 ce.locals = none := I6.free
        rw [cL] at z
        exact z
      obtain ⟨m, hn, _⟩ := I6.loc
      have hn : s6.heap.Ns ce.locals m := hn
      rw [cL] at hn
      exact hRR D s3.heap.objs.size s6 m H5 I7 qq (rb.at I6) hn (I3.fpOk (Nat.le_refl _) nC)
    · refine thnF (T.item (X.blk s3 H3 scope ce fp) rfl rfl rfl hc i [] s5 _ H5 (fun _ _ => False) I5 (stat I5 n5) st5 go) fun r s6 ⟨u, hr, h6⟩ => ?_
      subst hr
      refine thnF h6 fun _ s7 ⟨x, H7, I7, r7, y7, st7, n7⟩ => ?_
      have I7' := I7.pinned (stat I7 n7) (T.obj _ _ st7)
      refine thnF (pg.run _ s7 _ H7 x u _ I7' r7 (step x H7 y7)) fun _ s8 ⟨σ8, H8, I8, hw8, q8⟩ => ?_
      refine thnF ((pts_nil (X := X.blk s3 H3 scope ce fp)).run _ s8 σ8 H8 (fun b H9 => b = true ∧ H9 = H8) I8 ⟨rfl, rfl⟩) fun b s9 ⟨H9, I9, hb9, hH9⟩ => ?_
      subst hb9 hH9
      have fin : ∀ {s' : Shared} {H' : Hp}, Inv (X.blk s3 H3 scope ce fp) ([] ++ pinsAt fp s7.heap) σ8 H' s' → Nx H' → ∃ m, m < n ∧ ∃ i H', Inv (X.blk s3 H3 scope ce fp) [] (wipe σ (own.map (·.2))) H' s' ∧ tn i s'.heap ∧ (∀ b ∈ fp, H' b = none) ∧ W i m H' := fun {s' H'} I' nx => by
        obtain ⟨m', hm, w'⟩ := hNx H' nx
        have pin' : ∀ b ∈ fp, ∀ o, s7.heap.get? b = some o → s'.heap.get? b = some o ∧ H' b = none := fun b hb o e =>
          let z := I'.pin (b, o) (List.mem_append_right _ (List.mem_append_right _ (mem_pinsAt hb e)))
          ⟨z.1, z.2.1⟩
        have hl : (wipe σ (own.map (·.2))).length = σ8.length := by rw [← hw8, wipe_length]
        refine ⟨m', hm, i + 1, H', (I'.unpinned (pins := [])).weak hl (fun j v e => ?_), T.keep _ _ _ st7 fun b hb o e => (pin' b hb o e).1, fun b hb => ?_, w'⟩
        · rw [← hw8] at e
          exact (wipe_some e).1
        · obtain ⟨o, e, _⟩ := T.obj _ _ st7 b hb
          exact (pin' b hb o e).2
      simp only [if_true]
      refine thnF (pe.run _ s9 σ8 H9 _ I9 q8) fun z s10 ⟨yv, H10, I10, r10, acc, hD10, hz10, nx⟩ => ?_
      exact app_ok (X := X.blk s3 H3 scope ce fp) I10 hD10 hz10 r10 fun s11 I11 => fin I11 nx
  exact codeAny_compStart_list loop (T.self X.A 0 _ _ _ st4 loop)
end
section
variable {Y : Cx} {pins : List (Addr × Obj)} {σ : St} {H : Hp} {s : Shared}
theorem raw_cell {x : Str} {c : Addr} {v : Value} {pos : Pos} {Q E : Value → Shared → Prop} (I : Inv Y pins σ H s) (hk : Y.env.kindOf x = some .cell ∨ Y.env.kindOf x = some .free) (hc : Y.env.cells.lookup x = some c) (hv : s.heap.IsCell c (some v)) (q : Q v s)
    (hd : (x == ("__debug__" : Str)) = false := by decide) (hcd : (x == ("__classdict__" : Str)) = false := by decide) : wpAny (model Y.prog Y.w) Y.A (eval (.Name x pos) Y.env) Q E s := by
  rcases hk with hk | hk
  · exact wpAny_Name (wpAny_loadName_cell I.ok.kind hk hc hv q) hd
  · exact wpAny_Name (wpAny_loadName_free I.ok.kind hk hc hv q hcd) hd
end
end L2
namespace L2
open PySem PySem.Spec PyProof.Rows
end L2
namespace L2
open PySem PySem.Spec PyProof.Rows G
section
variable {prog : Program} {w : World} {A : Around} {E : Value → Shared → Prop}
theorem item_raw {s : Shared} {it : Addr} {x : Str} {t : Tok} {i c : Nat} {Q : Option Value → Shared → Prop} (st : s.heap.IsStrIter it (strIterType x) x t i) (hx : x.cps[i]? = some c)
    (hQ : ∀ h', h'.IsStrIter it (strIterType x) x t (i + 1) → Heap.SameBut it s.heap h' → Q (some (.str ⟨#[c]⟩ s.toks)) { s with heap := h', toks := s.toks + 1 }) : wpAny (model prog w) A (pyNext (.ref it)) Q E s := by
  cases ha : x.cps.all (· < 128)
  · have e : strIterType x = "str_iterator" := by simp [strIterType, ha]
    rw [e] at st hQ
    exact wpAny_pyNext_wide_item st hx hQ
  · have e : strIterType x = "str_ascii_iterator" := by simp [strIterType, ha]
    rw [e] at st hQ
    exact wpAny_pyNext_ascii_item st hx hQ
end
section
variable {X : Cx} {pins : List (Addr × Obj)} {σ : St} {H : Hp} {s : Shared}
end
end L2
namespace L2
open PySem PySem.Spec PyProof.Rows G
def Fine (n : Nat) (xs : List Nat) (its : List Value) : Prop := its.length = xs.length ∧ ∀ (i c : Nat), xs[i]? = some c → ∃ t : Tok, its[i]? = some (Value.str ⟨#[c]⟩ t) ∧ t ≠ 0 ∧ t < n
theorem Fine.nil {n : Nat} : Fine n [] [] := ⟨rfl, fun i c h => by simp at h⟩
theorem Fine.mono {n m : Nat} {xs : List Nat} {its : List Value} (h : Fine n xs its) (e : n ≤ m) : Fine m xs its := ⟨h.1, fun i c z => by
  obtain ⟨t, a, b, d⟩ := h.2 i c z
  exact ⟨t, a, b, Nat.lt_of_lt_of_le d e⟩⟩
theorem Fine.snoc {n : Nat} {xs : List Nat} {its : List Value} {c : Nat} {t : Tok} (h : Fine n xs its) (t0 : t ≠ 0) (tn : t < n) : Fine n (xs ++ [c]) (its ++ [Value.str ⟨#[c]⟩ t]) := by
  refine ⟨by simp [h.1], fun i d z => ?_⟩
  by_cases hi : i < xs.length
  · rw [List.getElem?_append_left hi] at z
    obtain ⟨u, a, b, e⟩ := h.2 i d z
    exact ⟨u, by rw [List.getElem?_append_left (by rw [h.1]; exact hi)]; exact a, b, e⟩
  · rw [List.getElem?_append_right (by omega)] at z
    have hz : i - xs.length = 0 := by
      have := (List.getElem?_eq_some_iff.mp z).1
      simp at this
      omega
    rw [hz] at z
    have ed : c = d := by simpa using z
    subst ed
    refine ⟨t, ?_, t0, tn⟩
    rw [List.getElem?_append_right (by rw [h.1]; omega), h.1, hz]
    rfl
theorem Fine.vals {n : Nat} : ∀ {xs : List Nat} {its : List Value}, Fine n xs its → Vals (xs.map fun c => V.str ⟨#[c]⟩) its
  | [], [], _ => .nil
  | [], _ :: _, h => by cases h.1
  | _ :: _, [], h => by cases h.1
  | c :: xs, v :: its, h => by
    obtain ⟨t, a, _⟩ := h.2 0 c rfl
    have e : v = Value.str ⟨#[c]⟩ t := by simpa using a
    refine .cons ⟨t, e⟩ (Fine.vals (n := n) ⟨by simpa using h.1, fun i d z => ?_⟩)
    obtain ⟨u, a, b⟩ := h.2 (i + 1) d (by simpa using z)
    exact ⟨u, by simpa using a, b⟩
def TokL (D : Addr) (xs : List Nat) (n : Nat) (h : Heap) : Prop := ∃ (its : List Value) (k : Nat), Fine n xs its ∧ h.get? D = some { cls := .type "list", data := .seq its.toArray k }
theorem TokL.ok {P : Program} {w : World} {H : Hp} {h : Heap} {D : Addr} {xs : List Nat} {n : Nat} (t : TokL D xs n h) : ObjOk P w H h D (.ext (TokL D xs n)) :=
  ⟨t, let ⟨_, _, _, e⟩ := t; ⟨_, e⟩, fun h1 h2 ⟨its, k, f, e⟩ z => ⟨its, k, f, z _ e⟩⟩
section
variable {X : Cx} {pins : List (Addr × Obj)} {σ : St} {H : Hp} {s : Shared}
theorem cell_raw {M : Model} {A : Around} {E : Value → Shared → Prop} {i : Nat} {x : Str} {v : V} {u : Value} {c : Addr} {Q : Unit → Shared → Prop} (I : Inv X pins σ H s) (hN : X.N.Nodup) (hi : X.N[i]? = some x) (hk : X.env.scope.names.lookup x = some .cell) (hfn : X.fn x = true)
    (hc : X.env.cells.lookup x = some c) (r : RelV v u) (h : ∀ h', Inv X pins (σ.set i (some v)) H { s with heap := h' } → h'.IsCell c (some u) → Heap.SameBut c s.heap h' → Q () { s with heap := h' }) : wpAny M A (storeName X.env x u) Q E s := by
  obtain ⟨m, hn, hl⟩ := id I.loc
  have hiσ : i < σ.length := by rw [I.len]; exact (List.getElem?_eq_some_iff.mp hi).1
  have cne := I.cne
  obtain ⟨w', z⟩ := I.cell x c hc
  refine wpAny_storeName_cell I.ok.kind hk hc z (fun h' hc' hs => ?_)
  obtain ⟨oc, hoc, hocd⟩ := id z
  have low : ∀ b o, X.s_0.heap.get? b = some o → h'.get? b = s.heap.get? b := fun b o e => hs.2 b (Nat.ne_of_lt (Nat.lt_of_lt_of_le (Heap.lt_size e) (I.ok.cab x c hfn hc)))
  refine h h' ⟨I.ok, I.os, I.bare, ⟨fun b o e n hb hx => (low b o e).trans (I.base.keep b o e n hb hx), fun b o e n hb hx => ?_, I.base.free, fun b o e hx => ?_, I.base.tups, I.base.frzs, I.base.tbls⟩, ⟨m, hn.sameBut hs (Ne.symm (cne x c hc)), fun j y v' e1 e2 e3 => ?_⟩, fun y c' e => ?_, I.free, I.freeC, fun p hp => ?_, ?_, by simpa using I.len⟩ hc' hs
  · obtain ⟨sl, e1⟩ := I.base.slot b o e n hb hx
    exact ⟨sl, (low b o e).trans e1⟩
  · obtain ⟨o', e1⟩ := I.base.there b o e hx
    exact ⟨o', (low b o e).trans e1⟩
  · by_cases hj : j = i
    · subst hj
      rw [hi] at e1; cases e1
      rw [List.getElem?_set_self hiσ] at e2
      cases e2
      exact ⟨u, r, .inr ⟨.inl hk, c, hc, hc'⟩⟩
    · rw [List.getElem?_set_ne (Ne.symm hj)] at e2
      obtain ⟨u', r', q⟩ := hl j y v' e1 e2 e3
      refine ⟨u', r', ?_⟩
      rcases q with q | ⟨k, c', e, z'⟩
      · exact .inl q
      · refine .inr ⟨k, c', e, z'.sameBut hs ?_⟩
        rintro rfl
        exact hj (nodup_ix hN e1 (I.ok.inj _ _ _ e hc ▸ hi))
  · by_cases hcc : c' = c
    · subst hcc; exact ⟨_, hc'⟩
    · obtain ⟨w2, z2⟩ := I.cell y c' e
      exact ⟨w2, z2.sameBut hs hcc⟩
  · obtain ⟨e, n, ne, nf, d⟩ := I.pin p hp
    refine ⟨(hs.2 p.1 ?_).trans e, n, ne, nf, d⟩
    intro q
    rw [q, hoc] at e
    have q' : oc = p.2 := Option.some.inj e
    exact d w' (by rw [← q']; exact hocd)
  · refine fun b ob e => (I.hok b ob e).stay (fun c2 w2 hc2 q => (hs.2 c2 ?_).trans q) (fun _ q => q) fun _ _ q => q
    rintro rfl
    rcases hc2 with rfl | hc2
    · rw [I.freeC x c2 hc] at e; cases e
    · rw [I.freeC x c2 hc] at hc2; cases hc2
end
section
variable {X : Cx}
abbrev Bk (X : Cx) (s0 : Shared) (H0 : Hp) (scope : Scope) (fp : List Addr) : Cx := X.blk s0 H0 scope (compEnvC scope (cellsFrom (s0.heap.objs.size + 1) scope.names (cloFrom X.env.cells scope.names [])) s0.heap.objs.size X.env) fp
theorem lc_tok {pins : List (Addr × Obj)} {s : Shared} {σ : St} {H : Hp} {iter cond : Expr} {pn : Str} {pp pe : Pos} {ip : Nat} {scope : Scope} {pos pos' : Pos} {use : Option (Value → Sem Unit)} {Qf : Value → Shared → Prop} {x : Str} {P : Nat → Bool}
    (hc : X.calm = true) (hN : X.N.Nodup) (I : Inv X pins σ H s) (h1 : 1 ≤ s.toks) (ok : BlkOk X.N X.env.scope scope [(pn, ip)]) (hpn : scope.names.lookup pn = some .cell) (hpl : (relabel scope X.env).names.lookup pn = some .cell) (hpd : (pn == ("__debug__" : Str)) = false) (hpc : (pn == ("__classdict__" : Str)) = false)
    (hi : wpAny (model X.prog X.w) X.A (eval iter X.env) (fun v s1 => (∃ t, v = .str x t) ∧ Inv X pins σ H s1 ∧ 1 ≤ s1.toks) X.xe s) (hx : x.cps.size ≤ 1000)
    (hcond : ∀ (s0 : Shared) (H0 : Hp) (fp : List Addr) (c : Nat) (t : Tok) (a : Addr) (pins' : List (Addr × Obj)) (s' : Shared) (H' : Hp), Ex H H' → c ∈ x.cps.toList → (Bk X s0 H0 scope fp).env.cells.lookup pn = some a →
      Inv (Bk X s0 H0 scope fp) pins' ((wipe σ [ip]).set ip (some (.str ⟨#[c]⟩))) H' s' → s'.heap.IsCell a (some (.str ⟨#[c]⟩ t)) →
      wpAny (model X.prog X.w) X.A (isTrue cond (Bk X s0 H0 scope fp).env (eval cond (Bk X s0 H0 scope fp).env)) (fun b s2 => b = P c ∧ ∃ H2, Ex H' H2 ∧ Inv (Bk X s0 H0 scope fp) pins' ((wipe σ [ip]).set ip (some (.str ⟨#[c]⟩))) H2 s2 ∧ s2.heap.IsCell a (some (.str ⟨#[c]⟩ t))) (fun _ _ => False) s')
    (hs : ∀ x, foldedSetIterable iter X.env x = pure x)
    (hRR : ∀ D C s' m H', Inv X pins σ H' s' → Ex H H' → H D = none → (∃ n, n ≤ s'.toks ∧ H' D = some (.ext (TokL D (x.cps.toList.filter P) n))) → s'.heap.Ns C m → FpOk X pins H' C → compPost (model X.prog X.w) X.A X.xe use Qf (.ref D) C (.ok .next) s') :
    wpAny (model X.prog X.w) X.A (comprehension (.ListComp (.Name pn pe) [⟨.Name pn pp, iter, [cond], 0⟩] scope pos) scope X.env pos' (newList []) false (eval iter X.env) use) Qf X.xe s := by
  have hfree : ∀ y ∈ scope.names, y.2 = .free → ∃ c, X.env.cells.lookup y.1 = some c := fun y hy e => by
    rcases ok.free y hy e with k | k
    · exact I.ok.has _ (.inl k)
    · exact I.ok.has _ (.inr k)
  refine wpAny_comprehension_free (use := use) rfl hs (closure_ok hfree) ok.kind (fun y hy e => by rw [ok.uniq y hy, e])
    (thn hi fun xv s1 hx1 => ?_)
  obtain ⟨⟨tx, rfl⟩, I1, ht1⟩ := hx1
  refine wpAny_pyIter_strU ?_
  generalize hit : s1.heap.objs.size = it
  have hty : strIterType x = "str_ascii_iterator" ∨ strIterType x = "str_iterator" := by
    unfold strIterType
    split
    · exact .inl rfl
    · exact .inr rfl
  have T : Turn X.prog X.w X.K (.Name pn pp) (Its x) [it] it (fun i h => h.IsStrIter it (strIterType x) x tx i) := turn_str it x tx _ hty
  generalize hs2 : ({ s1 with heap := s1.heap.push { cls := .type (strIterType x), data := .fields #[.str x tx, .int 0 0] } } : Shared) = s2
  have h2h : s2.heap = s1.heap.push { cls := .type (strIterType x), data := .fields #[.str x tx, .int 0 0] } := by rw [← hs2]
  have t2 : s2.toks = s1.toks := by rw [← hs2]
  have st2 : s2.heap.IsStrIter it (strIterType x) x tx 0 := ⟨_, by rw [h2h, ← hit]; exact Heap.get?_push_size _ rfl, rfl, rfl⟩
  have I2 : Inv X pins σ H s2 := by rw [← hs2]; exact I1.kept (t' := s1.toks) fun b o e => Heap.get?_push_of_some _ e
  have f2 : ∀ b ∈ [it], FpOk X pins H b := fun b hb => by
    have e : b = it := by simpa using hb
    subst e
    exact I1.fpOk (Nat.le_of_eq hit) (I1.hok.fresh (Nat.le_of_eq hit))
  refine wpAny_newObj_type (newEnv_comp ?_) (by show 0 ≤ sizeLine; decide)
  generalize hD : s2.heap.objs.size = D
  have hDn : H D = none := I2.hok.fresh (Nat.le_of_eq hD)
  generalize hs3 : ({ s2 with heap := s2.heap.push { cls := .type "list", data := .seq ([] : List Value).toArray } } : Shared) = s3
  have k3 : ∀ b o, s2.heap.get? b = some o → s3.heap.get? b = some o := fun b o e => by rw [← hs3]; exact Heap.get?_push_of_some _ e
  have t3 : s3.toks = s1.toks := by rw [← hs3]; exact t2
  have tl3 : TokL D [] s1.toks s3.heap := ⟨[], 0, .nil, by rw [← hs3, ← hD]; exact Heap.get?_push_size _ rfl⟩
  have I3 : Inv X pins σ (upd H D (.ext (TokL D [] s1.toks))) s3 := by
    rw [← hs3] at tl3 ⊢
    exact I2.laid (t' := s2.toks) (fun b o e => Heap.get?_push_of_some _ e) (Nat.le_of_eq hD) tl3.ok
  have h3 : s3.heap = s2.heap.push { cls := .type "list", data := .seq ([] : List Value).toArray } := by rw [← hs3]
  have f3 : ∀ b ∈ [it], FpOk X pins (upd H D (.ext (TokL D [] s1.toks))) b ∧ b < s3.heap.objs.size := fun b hb => by
    obtain ⟨o, eo, _⟩ := T.obj _ _ st2 b hb
    have hlt := Heap.lt_size eo
    refine ⟨⟨?_, (f2 b hb).2⟩, by rw [h3, Heap.size_push]; exact Nat.lt_succ_of_lt hlt⟩
    rw [upd_ne (by rw [← hD]; exact Nat.ne_of_lt hlt)]
    exact (f2 b hb).1
  have st3 : s3.heap.IsStrIter it (strIterType x) x tx 0 := T.keep _ _ _ st2 fun b _ o e => k3 b o e
  have I4 : Inv (Bk X s3 (upd H D (.ext (TokL D [] s1.toks))) scope [it]) [] (wipe σ [ip]) (upd H D (.ext (TokL D [] s1.toks))) { s3 with heap := pushCells (s3.heap.push { cls := .type "dict", data := .dict #[] }) scope.names } := block_start I3 ok hN f3
  show codeAny _ _ (.compStart (.ListComp (.Name pn pe) [⟨.Name pn pp, iter, [cond], 0⟩] scope pos) 0 (.ref it) (.ref D) (compEnvC scope (cellsFrom (s3.heap.objs.size + 1) scope.names (cloFrom X.env.cells scope.names [])) s3.heap.objs.size X.env)) (compPost (model X.prog X.w) X.A X.xe use Qf (.ref D) s3.heap.objs.size) { s3 with heap := pushCells (s3.heap.push { cls := .type "dict", data := .dict #[] }) scope.names }
  have nfp : ∀ b ∈ [it], (upd H D (.ext (TokL D [] s1.toks))) b = none := fun b hb => (f3 b hb).1.1
  have hcond3 := hcond s3 (upd H D (.ext (TokL D [] s1.toks))) [it]
  have cL : (Bk X s3 (upd H D (.ext (TokL D [] s1.toks))) scope [it]).env.locals = s3.heap.objs.size := rfl
  have hpl : (Bk X s3 (upd H D (.ext (TokL D [] s1.toks))) scope [it]).env.scope.names.lookup pn = some .cell := hpl
  have hfn : (Bk X s3 (upd H D (.ext (TokL D [] s1.toks))) scope [it]).fn pn = true := by
    show (scope.names.lookup pn == some .cell) = true
    rw [hpn]; rfl
  have hex : Ex H (upd H D (.ext (TokL D [] s1.toks))) := Evl.Ex.new hDn
  have hNi : X.N[ip]? = some pn := ok.ix (pn, ip) (by simp)
  show codeAny _ _ (.compStart (.ListComp (.Name pn pe) [⟨.Name pn pp, iter, [cond], 0⟩] scope pos) 0 (.ref it) (.ref D) (Bk X s3 (upd H D (.ext (TokL D [] s1.toks))) scope [it]).env) _ _
  have Ysz : (Bk X s3 (upd H D (.ext (TokL D [] s1.toks))) scope [it]).ex = [it] := rfl
  generalize hY : Bk X s3 (upd H D (.ext (TokL D [] s1.toks))) scope [it] = Y at *
  have hcal : Y.calm = true := by rw [← hY]; exact hc
  have hYN : Y.N = X.N := by rw [← hY]
  have hYA : Y.A = X.A := by rw [← hY]
  have hYp : Y.prog = X.prog := by rw [← hY]
  have hYw : Y.w = X.w := by rw [← hY]
  have hYK : Y.K = X.K := by rw [← hY]
  generalize hs4 : ({ s3 with heap := pushCells (s3.heap.push { cls := .type "dict", data := .dict #[] }) scope.names } : Shared) = s4
  have t4 : s4.toks = s1.toks := by rw [← hs4]; exact t3
  have I4' : Inv Y [] (wipe σ [ip]) (upd H D (.ext (TokL D [] s1.toks))) s4 := by rw [← hs4]; exact I4
  have st4 : s4.heap.IsStrIter it (strIterType x) x tx 0 := T.keep _ _ _ st3 fun b _ o e => by rw [← hs4]; exact pushCells_keeps _ _ _ _ (Heap.get?_push_of_some _ e)
  have stat : ∀ {σ' : St} {H' : Hp} {s' : Shared}, Inv Y [] σ' H' s' → (∀ b ∈ [it], H' b = none) → ∀ b ∈ [it], FpOk Y [] H' b := fun {σ' H' s'} I' hn b hb =>
    ⟨hn b hb, (I'.ok.exf b (by rw [Ysz]; exact hb)).1, I'.ok.exfs b (by rw [Ysz]; exact hb), .inl (by rw [Ysz]; exact hb), fun x c e => (I'.ok.exf b (by rw [Ysz]; exact hb)).2 x c e, fun p hp => absurd (show p ∈ ([] : List (Addr × Obj)) ++ [] from by rw [← hY] at hp; exact hp) (by simp)⟩
  have loop : codeAny (model X.prog X.w) X.A (.compLoop (.ListComp (.Name pn pe) [⟨.Name pn pp, iter, [cond], 0⟩] scope pos) 0 (.ref it) (.ref D) Y.env) (compPost (model X.prog X.w) X.A X.xe use Qf (.ref D) s3.heap.objs.size) s4 := by
    refine compLoop_any (fun n s' => ∃ i H' T, i + n = x.cps.size ∧ Inv Y [] (wipe σ [ip]) H' s' ∧ s'.heap.IsStrIter it (strIterType x) x tx i ∧ (∀ b ∈ [it], H' b = none) ∧ Ex H H' ∧ 1 ≤ s'.toks ∧ T ≤ s'.toks ∧ H' D = some (.ext (TokL D ((x.cps.toList.take i).filter P) T))) ?_ x.cps.size ⟨0, _, s1.toks, by omega, I4', st4, nfp, hex, by rw [t4]; exact ht1, by rw [t4]; exact Nat.le_refl _, upd_same⟩
    rintro n s5 ⟨i, H5, T5, hin, I5, st5, n5, x5, p5, l5, d5⟩
    by_cases hi' : i < x.cps.size
    · have hgi : x.cps[i]? = some x.cps[i] := Array.getElem?_eq_getElem hi'
      generalize hcc : x.cps[i] = cc at hgi
      have hmem : cc ∈ x.cps.toList := by rw [← hcc]; exact Array.getElem_mem_toList hi'
      obtain ⟨f0, f1, f2', f3', f4, f5⟩ := stat I5 n5 it (by simp)
      refine item_raw st5 hgi fun h6 st6 sb6 => ?_
      have I6 : Inv Y [] (wipe σ [ip]) H5 { s5 with heap := h6, toks := s5.toks + 1 } := I5.turned (fun b o hb e => (sb6.2 b hb).trans e) f0 f1 f3' f4 f5
      obtain ⟨oi, eo, co, dd⟩ := id st6
      have hno : ["enumerate", "zip", "dict_itemiterator", "dict_reverseitemiterator", "odict_iterator", "itertools.zip_longest", "itertools.pairwise"].contains (strIterType x) = false := by
        rcases hty with e | e
        · rw [e]; decide
        · rw [e]; decide
      refine go_of (s := { s5 with heap := h6, toks := s5.toks + 1 }) eo co dd hno ?_
      have I6' := I6.pinned (stat I6 n5) (T.obj _ _ st6)
      obtain ⟨ca, hca⟩ := I6.ok.has pn (.inl hpl)
      refine wpAny_assign_Name (cell_raw (i := ip) (v := .str ⟨#[cc]⟩) I6' (by rw [hYN]; exact hN) (by rw [hYN]; exact hNi) hpl hfn hca ⟨_, rfl⟩ fun h7 I7 hc7 sb7 => ?_)
      refine wpAny_tests_one (wpAny_mono (wpAny_toks_of (n := s5.toks + 1) (Nat.le_refl _) (hcond3 cc s5.toks ca _ _ H5 x5 hmem hca I7 hc7)) (fun b s8 z => ?_) fun _ _ z => z.2.elim)
      obtain ⟨htk8, hb8, H8, x8, I8, hc8⟩ := z
      subst hb8
      have back : ∀ {s' : Shared} {H' : Hp}, Inv Y ([] ++ pinsAt [it] h6) ((wipe σ [ip]).set ip (some (.str ⟨#[cc]⟩))) H' s' → Inv Y [] (wipe σ [ip]) H' s' ∧ s'.heap.IsStrIter it (strIterType x) x tx (i + 1) ∧ ∀ b ∈ [it], H' b = none := fun {s' H'} I' => by
        have pin' : ∀ b ∈ [it], ∀ o, h6.get? b = some o → s'.heap.get? b = some o ∧ H' b = none := fun b hb o e =>
          let z := I'.pin (b, o) (List.mem_append_right _ (List.mem_append_right _ (mem_pinsAt hb e)))
          ⟨z.1, z.2.1⟩
        refine ⟨(I'.unpinned (pins := [])).weak (by simp) fun j v e => ?_, T.keep _ _ _ st6 fun b hb o e => (pin' b hb o e).1, fun b hb => ?_⟩
        · by_cases hj : j = ip
          · subst hj
            exfalso
            have e' : (σ.set j none)[j]? = some (some v) := e
            rw [List.getElem?_set] at e'
            simp at e'
          · rw [List.getElem?_set_ne (Ne.symm hj)]; exact e
        · obtain ⟨o, e, _⟩ := T.obj _ _ st6 b hb
          exact (pin' b hb o e).2
      have htake : x.cps.toList.take (i + 1) = x.cps.toList.take i ++ [cc] := by
        rw [List.take_succ]
        have : x.cps.toList[i]? = some cc := by rw [Array.getElem?_toList]; exact hgi
        rw [this]; rfl
      have d8 := x8 D _ d5
      by_cases hP : P cc = true
      · rw [if_pos hP]
        have rc := raw_cell (Y := Y) (pos := pe) (Q := fun v s' => v = .str ⟨#[cc]⟩ s5.toks ∧ s' = s8) (E := fun _ _ => False) I8 (.inl hpl) hca hc8 ⟨rfl, rfl⟩ hpd hpc
        rw [hYp, hYw, hYA] at rc
        refine thnF rc fun v s9 ⟨ev, es⟩ => ?_
        subst ev es
        obtain ⟨tl, _, _⟩ := I8.hok D _ d8
        obtain ⟨its, k, fn, hl⟩ := tl
        have hlen : its.length ≤ 1000 := by
          have h1 := List.length_filter_le P (x.cps.toList.take i)
          have h2 := List.length_take_le i x.cps.toList
          rw [fn.1]
          omega
        refine append_at (hsz := by rw [List.size_toArray]; exact Nat.le_trans hlen (by decide)) hl fun h9 sb9 ho9 => ?_
        have tl9 : TokL D ((x.cps.toList.take (i + 1)).filter P) (max T5 (s5.toks + 1)) h9 := by
          refine ⟨its ++ [.str ⟨#[cc]⟩ s5.toks], k + 1, ?_, by rw [ho9]; simp⟩
          rw [htake, List.filter_append]
          have : [cc].filter P = [cc] := by simp [hP]
          rw [this]
          exact (fn.mono (Nat.le_max_left _ _)).snoc (Nat.ne_of_gt p5) (Nat.lt_of_lt_of_le (Nat.lt_succ_self _) (Nat.le_max_right _ _))
        have I9 := I8.write (t' := s9.toks) (h' := h9) (x := D) (e := D) (o := .ext (TokL D ((x.cps.toList.take (i + 1)).filter P) (max T5 (s5.toks + 1)))) (by rw [d8]; trivial) (.inl rfl) (fun b u hb q => (sb9.2 b hb).trans q) ⟨_, ho9⟩ tl9.ok
        obtain ⟨I10, st10, n10⟩ := back I9
        refine ⟨n - 1, by omega, i + 1, _, _, by omega, I10, st10, n10, ?_, Nat.le_trans p5 (Nat.le_trans (Nat.le_succ _) htk8), Nat.max_le.mpr ⟨Nat.le_trans l5 (Nat.le_trans (Nat.le_succ _) htk8), htk8⟩, upd_same⟩
        intro a o e
        rw [upd_ne]
        · exact x8 a o (x5 a o e)
        · rintro rfl
          rw [hDn] at e; cases e
      · rw [if_neg hP]
        obtain ⟨I10, st10, n10⟩ := back I8
        refine ⟨n - 1, by omega, i + 1, H8, T5, by omega, I10, st10, n10, fun a o e => x8 a o (x5 a o e), Nat.le_trans p5 (Nat.le_trans (Nat.le_succ _) htk8), Nat.le_trans l5 (Nat.le_trans (Nat.le_succ _) htk8), ?_⟩
        rw [d8, htake, List.filter_append]
        have : [cc].filter P = [] := by simp [hP]
        rw [this, List.append_nil]
    · have e : i = x.cps.size := by omega
      subst e
      have td := T.done Y hYp hYw hYK hcal x.cps.size [] s5 _ H5 (fun _ _ => False) I5 (stat I5 n5) st5 (Nat.le_refl _)
      rw [hYA] at td
      refine wpAny_mono (wpAny_toks td) (fun r s6 z => ?_) fun _ _ z => z.2.elim
      obtain ⟨htk6, hr, I6⟩ := z
      subst hr
      have I7 : Inv X pins σ H5 s6 := I3.call' (ch := [it]) (by rw [← hY] at I6; exact I6.os) (by rw [← hY] at I6; exact I6.base) (by rw [← hYp, ← hYw]; exact I6.hok) I6.bare fun b hb => ⟨(f3 b hb).1.2.2.2.1, (f3 b hb).1.2.1, (f3 b hb).1.2.2.2.2.1, (f3 b hb).1.2.2.2.2.2⟩
      have nC : H5 s3.heap.objs.size = none := by
        have z : H5 Y.env.locals = none := I6.free
        rw [cL] at z
        exact z
      obtain ⟨m, hn, _⟩ := I6.loc
      have hn : s6.heap.Ns Y.env.locals m := hn
      rw [cL] at hn
      refine hRR D s3.heap.objs.size s6 m H5 I7 x5 hDn ⟨T5, Nat.le_trans l5 htk6, ?_⟩ hn (I3.fpOk (Nat.le_refl _) nC)
      rw [d5, List.take_of_length_le (by simp)]
  exact codeAny_compStart_list loop (T.self X.A 0 _ _ _ st4 loop)
end
end L2
namespace L2
open PySem PySem.Spec PyProof.Rows G
section
variable {Y : Cx} {pins : List (Addr × Obj)} {σ : St} {H : Hp} {s : Shared}
theorem iterl_raw {rc : List (Addr × Value)} {i : Nat} {wx : Str} {a : Addr} {xs : List V} {p1 : Pos} {tg : Expr} {E : Value → Shared → Prop} (I : Inv Y pins σ H s) (raw : Raw rc s.heap) (hN : Y.N[i]? = some wx) (hv : Vis Y.env.scope wx) (hσ : σ[i]? = some (some (.ref a))) (ht : SqL Y.K H a xs)
    (hd : (wx == ("__debug__" : Str)) = false := by decide) (hcd : (wx == ("__classdict__" : Str)) = false := by decide) :
    wpAny (model Y.prog Y.w) Y.A (eval (.Name wx p1) Y.env) (fun v s1 => wpAny (model Y.prog Y.w) Y.A (pyIter v) (PIER Y rc pins σ tg fun J H1 => J = Itl Y.K a ∧ H1 = H) E s1) E s := by
  refine raw_name hN hv I hσ (fun u ru => ?_) hd hcd
  obtain rfl : u = Value.ref a := ru
  obtain ⟨its, rv, p, hz⟩ := I.list ht
  refine wpAny_pyIter_list p.isList ?_
  refine ⟨⟨s.heap.objs.size, [s.heap.objs.size], _, _, H, rfl, I.kept (t' := s.toks) fun b o e => Heap.get?_push_of_some _ e, turn_list a _, ⟨_, Heap.get?_push_size _ rfl, rfl, rfl⟩, fun b hb => ?_, rfl, rfl⟩, raw.keeps fun b o e => Heap.get?_push_of_some _ e⟩
  have e : b = s.heap.objs.size := by simpa using hb
  subst e
  exact I.fpOk (Nat.le_refl _) (I.hok.fresh (Nat.le_refl _))
theorem any_raw {E : Value → Shared → Prop} {a : Addr} {bs : List Bool} {Q : Value → Shared → Prop} (hc : Y.calm = true) (I : Inv Y pins σ H s) (hs : SqL Y.K H a (bs.map V.bl))
    (h : ∀ h' tk, (∀ b o, s.heap.get? b = some o → h'.get? b = some o) → Inv Y pins σ H { s with heap := h', toks := tk } → Q (.bool (bs.any id)) { s with heap := h', toks := tk }) : wpAny (model Y.prog Y.w) Y.A (call (.builtin "any") [.ref a]) Q E s := by
  obtain ⟨its, rv, hl, _⟩ := I.list hs
  have hb := rv.bls
  refine call_any_walk (iter_any hl.isList fun s₂ e2 st hne => ?_)
  subst e2
  refine ⟨_, _, _, _, _, _, _, rfl, Walks.list (A := Y.A.in1) (I.ok.hd hc) _ a hne its.toArray, st, truth_bools hb, fun h' tk hk => ?_⟩
  have kk : ∀ b o, s.heap.get? b = some o → h'.get? b = some o := fun b o eo => hk b o (fun hmem => by
    rcases List.mem_cons.mp hmem with e1 | hmem
    · exact absurd (e1 ▸ Heap.lt_size eo) (Nat.lt_irrefl _)
    · cases hmem) (Heap.get?_push_of_some _ eo)
  have e : (List.range its.toArray.size).any (fun i => bs.getD i false) = bs.any id := by
    rw [← any_range, hb, List.size_toArray, List.length_map]
  rw [e]
  exact h h' tk kk (I.kept kk)
theorem notany_raw {rc : List (Addr × Value)} {elt : Expr} {wn wx : Str} {iw ix : Nat} {scope : Scope} {aw : Addr} {ws : List Str} {te : TE} {f : Str → Bool} {pw pi pl pa pc pn : Pos} {whole : Sem Value}
    (hc : Y.calm = true) (hN : Y.N.Nodup) (I : Inv Y pins σ H s) (hrc : Own1 Y rc) (raw : Raw rc s.heap) (ok : BlkOk Y.N Y.env.scope scope [(wn, iw)]) (hwn : scope.names.lookup wn = some .local)
    (hNx : Y.N[ix]? = some wx) (hvx : Vis Y.env.scope wx) (hσ : σ[ix]? = some (some (.ref aw))) (hw : SqL Y.K H aw (ws.map V.str)) (hlen : ws.length ≤ 1000) (hga : Gl Y "any") (hma : Y.mg "any" = none)
    (he : ∀ (s : Shared) (H : Hp) (fp : List Addr), PE (Bk Y s H scope fp) elt te)
    (hte : ∀ (H2 : Hp) (Q : VK) (w : Str), w ∈ ws → Q (.bl (f w)) H2 → te ((wipe σ [iw]).set iw (some (.str w))) H2 Q)
    (hd : (wx == ("__debug__" : Str)) = false := by decide) (hcd : (wx == ("__classdict__" : Str)) = false := by decide) :
    wpAny (model Y.prog Y.w) Y.A (isTrue (.UnaryOp .Not (.Call (.Name "any" pa) [.ListComp elt [⟨.Name wn pw, .Name wx pi, [], 0⟩] scope pl] [] pc) pn) Y.env whole)
      (fun b s2 => b = !(ws.any f) ∧ ∃ H2, Ex H H2 ∧ Inv Y pins σ H2 s2 ∧ Raw rc s2.heap) Y.xe s := by
  refine isTrue_not ?_
  refine isTrue_plain ?_ rfl
  refine wpAny_Call_Name_kw (ld_blt I hga hma rfl ?_ (by decide) (by decide))
  refine PyProof.Rows.callWith_builtin1 ?_ rfl rfl
  refine Calls.spliced_cons ?_
  rw [eval_ListComp]
  refine thn (lc_raw (X := Y) (rc := rc) (own := [(wn, iw)]) (g := gName iw) (te := te) (R := fun J H1 => J = Itl Y.K aw ∧ H1 = H) (use := none)
    (Q := fun x H' => ∃ D, x = .ref D ∧ H D = none ∧ H' = upd H D (.lst ((ws.map f).map V.bl)))
    (Qf := fun v s1 => ∃ D, v = .ref D ∧ H D = none ∧ Inv Y pins σ (upd H D (.lst ((ws.map f).map V.bl))) s1 ∧ Raw rc s1.heap) hc hN I hrc ok (iterl_raw I raw hNx hvx hσ hw hd hcd)
    (fun s H C cl fp => pg_name (i := iw) hN (ok.ix (wn, iw) (by simp)) (.inl (lookup_relabel_local hwn)) (.inr (lookup_relabel_local hwn))) (fun s H fp _ => he s H fp) (fun _ => rfl)
    (fun J H1 hJ D hD => ?_) (fun D C s' m H' I' hq raw' hn fp => ?_)) (fun v s1 hq => ?_)
  · obtain ⟨rfl, rfl⟩ := hJ
    have ht : ∀ o, SqL Y.K (upd H1 D o) aw (ws.map V.str) := fun o => Evl.ex_l (Evl.Ex.new hD) hw
    refine ⟨fun i' m' H' => H' = upd H1 D (.lst (((ws.take i').map f).map V.bl)) ∧ i' + m' = ws.length, ⟨ws.length, rfl, by omega⟩, ?_⟩
    rintro i' m' _ ⟨rfl, em⟩
    by_cases hi : i' < ws.length
    · have gi : (ws.map V.str)[i']? = some (.str ws[i']) := by rw [List.getElem?_map, List.getElem?_eq_getElem hi]; rfl
      refine .inr ⟨⟨_, _, ht _, gi⟩, fun H'' => H'' = upd H1 D (.lst (((ws.take (i' + 1)).map f).map V.bl)), fun H'' hn => ⟨m' - 1, by omega, hn, by omega⟩, fun x H'' hy => ?_⟩
      obtain ⟨rfl, fv⟩ := hy
      have ev : x = .str ws[i'] := Option.some.inj ((fv _ (ht _)).symm.trans gi)
      subst ev
      refine ⟨by simp [wipe], hte _ _ _ (List.getElem_mem hi) ⟨_, upd_same, ?_, ?_⟩⟩
      · rw [List.length_map, List.length_map, List.length_take]
        exact Nat.lt_of_le_of_lt (Nat.le_trans (Nat.min_le_right _ _) hlen) (by decide)
      · rw [upd_upd, List.take_succ, List.getElem?_eq_getElem hi, List.map_append, List.map_append]
        rfl
    · refine .inl ⟨⟨_, ht _, by rw [List.length_map]; omega⟩, D, rfl, hD, ?_⟩
      have : i' = ws.length := by omega
      rw [this, List.take_length]
  · obtain ⟨D', eD, hD, rfl⟩ := hq
    cases eD
    refine ⟨m, hn, fun h2 sb => ?_⟩
    obtain ⟨f0, f1, f2, f3, f4, f5⟩ := fp
    refine ⟨D, rfl, hD, I'.turned (t' := s'.toks) (fun b o hb e => (sb.2 b hb).trans e) f0 f1 f3 f4 f5, fun p hp => ?_⟩
    obtain ⟨x, hx, _⟩ := hrc p hp
    exact (raw' p hp).sameBut sb (f4 x _ hx)
  · obtain ⟨D, rfl, hD, I1, raw1⟩ := hq
    refine Calls.spliced_nil ?_
    refine any_raw (bs := ws.map f) hc I1 (SqL.of upd_same) fun h' tk kk I2 => ?_
    refine wpAny_truthy_bool ⟨by rw [List.any_map]; rfl, _, Evl.Ex.new hD, I2, raw1.keeps kk⟩
end
end L2
namespace L2
open PySem PySem.Spec PyProof.Rows
section
open PySem.W
variable {prog : Program} {w : World} {A : Around} {E : Value → Shared → Prop} {s : Shared} {K : Frag} {x C f L : Addr} {h₀ : Heap} {m : Str → Option Value} {ox : Obj} {od : Option Obj}
end
section
variable {X : Cx} {k : Nat} {C f : Addr} {fd : FuncData} {ps : List Str} {sp : Sp}
end
end L2
namespace G
open PySem L2
section
variable {g : Gp} {X : Cx} {k : Nat} {f : Addr} {fd : FuncData} {ps : List Str} {S : Spec} {pos : Pos} {a b : Expr} {da db : DE}
end
end G
namespace G
open PySem PySem.Spec PyProof.Rows L2
theorem const_toks {M : Model} {A : Around} {E : Value → Shared → Prop} {z : Str} {j : Nat} {p : Pos} {env : Env} {Q : Value → Shared → Prop} {s : Shared} (h : wpAny M A (eval (.Constant (.str z) j p) env) Q E s) :
    wpAny M A (eval (.Constant (.str z) j p) env) (fun v s' => 1 ≤ s'.toks ∧ Q v s') E s := fun Γ p hΓ => ⟨Nat.succ_pos _, h Γ p hΓ⟩
def GTT (g : Gp) (X : Cx) (e : Expr) (t : DT) : Prop := ∀ (pins : List (Addr × Obj)) (s : Shared) (σ : L2.St) (H : Hp) (Q : Bool → Hp → Prop), Inv X pins σ H s → tT X.K g t σ H Q →
  wpAny (model X.prog X.w) X.A (isTrue e X.env (eval e X.env)) (fun b s' => 1 ≤ s'.toks ∧ TP X pins σ Q b s') X.xe s
def GSsT (g : Gp) (X : Cx) (sts : List Stmt) (d : DS) : Prop := PSsT X sts (tSD X.K g d)
section
variable {g : Gp} {X : Cx} {a : Expr} {da : DE} {pos p2 : Pos} {z : Str} {j : Nat}
theorem gtt_cmp {op : CmpOp} {r : R2} {f : D → D → Option D} (ho : OpR X (compareOp op) r) (od : OpD X.K g r f) (ha : GB g X a da) (hm : behindInMarks op (.Constant (.str z) j p2) = false) : GTT g X (.Compare a [op] [.Constant (.str z) j p2] pos) (dTest (dOp f da (dC (.str z)))) := by
  intro pins s σ H Q I h
  have h' := test_weak (op_weak od) σ H Q h
  refine wpAny_isTrue_Compare1 (thn (ha.run pins s σ H _ I h') fun v s1 ⟨x, H1, I1, r1, q1⟩ => thn (const_toks ((gb_e (ge_str (g := g) (X := X) (x := z) (j := j) (pos := p2))).run pins s1 σ H1 _ I1 q1)) fun u s2 ⟨k2, y, H2, I2, r2, q2⟩ =>
    thn (wpAny_mono (wpAny_toks_of k2 (ho pins s2 σ H2 x y v u _ I2 r1 r2 q2)) (fun _ _ z => z) fun _ _ z => z.2) fun c s3 ⟨k3, z, H3, I3, r3, k, e, q3⟩ => ?_) hm
  subst e
  cases r3
  exact wpAny_truthy_bool ⟨k3, H3, I3, q3⟩
theorem ps_whileT {c : Expr} {body : List Stmt} {t : DT} {tb : TS} (hp : PassesOwn (model X.prog X.w) X.A X.env X.xe) (hc : GTT g X c t) (hb : PSsT X body tb) : PS X (.While c body [] pos) (tWhile (tT X.K g t) tb) := by
  refine ⟨fun pins s σ H D I h => ?_⟩
  obtain ⟨W, ⟨m0, w0⟩, turn⟩ := h
  refine wpAny_While (codeAny_whileLoop (fun n s' => ∃ σ' H', Inv X pins σ' H' s' ∧ W n σ' H') ?_ m0 ⟨σ, H, I, w0⟩)
  rintro n s1 ⟨σ1, H1, I1, w1⟩
  refine wpAny_passesOwn hp (thn (hc pins s1 σ1 H1 _ I1 (turn n σ1 H1 w1)) fun b s2 ⟨k2, H2, I2, q2⟩ => ?_)
  cases b with
  | true =>
    obtain ⟨N, hN, q2⟩ := q2
    rw [if_pos rfl]
    refine wpAny_passesOwn hp (thn (hb pins s2 σ1 H2 _ k2 I2 q2) fun f s3 q3 => ?_)
    cases f with
    | next =>
      obtain ⟨σ3, H3, I3, n3⟩ := q3
      obtain ⟨m', hm, w3⟩ := hN σ3 H3 n3
      exact ⟨m', hm, σ3, H3, I3, w3⟩
    | cont =>
      obtain ⟨σ3, H3, I3, n3⟩ := q3
      obtain ⟨m', hm, w3⟩ := hN σ3 H3 n3
      exact ⟨m', hm, σ3, H3, I3, w3⟩
    | brk => exact q3
    | ret v => exact q3
  | false =>
    rw [if_neg Bool.false_ne_true]
    exact wpAny_execs_nil ⟨σ1, H2, I2, q2⟩
theorem gs_whileT {cc : Expr} {body : List Stmt} {t : DT} {s : DS} (hp : PassesOwn (model X.prog X.w) X.A X.env X.xe) (hc : GTT g X cc t) (hb : GSsT g X body s) : GS g X (.While cc body [] pos) (dWhile t s) := PS.weak (ps_whileT hp hc hb) fun D σ H ⟨c, F, env, m, E, r, ⟨W, ⟨k0, w0⟩, turn⟩, o⟩ => by
  refine ⟨fun k σ' H' => ∃ F' env' m', Rel X.K g c F' env' m' σ' H' ∧ Evo c (Own env σ) F H (Own env' σ') F' H' ∧ W k env' m', ⟨k0, F, env, m, r, r.evo (Fresh.refl r.sub r.ck), w0⟩, ?_⟩
  rintro k σ' H' ⟨F', env', m', r', v', w'⟩
  refine ⟨c, F', env', m', _, r', turn k env' m' w', fun b H1 F1 m1 r1 f1 q => ?_⟩
  have v1 := v'.trans (r'.evo f1)
  cases b with
  | true =>
    refine ⟨fun σ2 H2 => ∃ k' F2 env2 m2, k' < k ∧ Rel X.K g c F2 env2 m2 σ2 H2 ∧ Evo c (Own env σ) F H (Own env2 σ2) F2 H2 ∧ W k' env2 m2, fun σ2 H2 ⟨k', F2, env2, m2, hk, a1, a2, a3⟩ => ⟨k', hk, F2, env2, m2, a1, a2, a3⟩, ?_⟩
    refine ⟨c, F1, env', m1, _, r1, q, ⟨fun σ5 H5 F5 env5 m5 r5 v5 ⟨k', hk, q5⟩ => ⟨k', F5, env5, m5, hk, r5, v1.trans v5, q5⟩, fun σ5 H5 F5 env5 m5 r5 v5 q5 => o.nx σ5 H5 F5 env5 m5 r5 (v1.trans v5) q5, fun σ5 H5 F5 env5 m5 r5 v5 ⟨k', hk, q5⟩ => ⟨k', F5, env5, m5, hk, r5, v1.trans v5, q5⟩, fun u H5 F5 m5 y k5 v5 rp5 q5 => o.rt u H5 F5 m5 y k5 (v1.trans v5) rp5 q5⟩⟩
  | false => exact o.nx σ' H1 F1 env' m1 r1 v1 q
end
end G
namespace G
open PySem PySem.Spec PyProof.Rows L2
def hitW (l : Str) (c : Nat) (w : Str) : Bool := decide (V.str ⟨#[w.cps.toList.getD 1 0]⟩ = V.str ⟨#[c]⟩) && decide (w.cps.toList.getD 0 0 ∈ l.cps.toList)
def frees (ws : List Str) (l : Str) : List Nat := l.cps.toList.filter fun c => !(ws.any (hitW l c))
def dTok (iw il ifd ifr : Nat) : DS := fun env m E => ∃ ws l f, env[iw]? = some (.val (.lst (ws.map D.str))) ∧ env[il]? = some (.val (.str l)) ∧ env[ifd]? = some (.val (.str f)) ∧ ws.length ≤ 1000 ∧ l.cps.size ≤ 1000 ∧ f.length ≤ 1000 ∧ (∀ w ∈ ws, w.cps.size = 2) ∧ (∀ c ∈ l.cps.toList, PyData.strOk ⟨#[c]⟩ = true) ∧
  (match frees ws l with
   | [] => E.rt .non m
   | c :: _ => E.nx (((env.set ifr .no).set ifd (.val (.str (f ++ ⟨#[c]⟩)))).set il (.val (.str (Txt.replace l ⟨#[c]⟩ (Str.ofString ""))))) m)
def teW (iy ip il : Nat) : TE := tAndV (tOp rEq (tOp rIxS (tVar iy) (tC (.int 1))) (tVar ip)) (tOp (fun x y H Q => ∃ (c : Nat) (z : Str), x = .str ⟨#[c]⟩ ∧ y = .str z ∧ Q (.bl (decide (c ∈ z.cps.toList))) H) (tOp rIxS (tVar iy) (tC (.int 0))) (tVar il))
theorem str2 {w : Str} (h : w.cps.size = 2) : ∃ a b, w = ⟨#[a, b]⟩ := by
  obtain ⟨⟨l⟩⟩ := w
  match l, h with
  | [a, b], _ => exact ⟨a, b, rfl⟩
theorem teW_of {iy ip il : Nat} {σ : L2.St} {c : Nat} {l w : Str} {H : Hp} {Q : VK} (hy : σ[iy]? = some (some (.str w))) (hp : σ[ip]? = some (some (.str ⟨#[c]⟩))) (hl : σ[il]? = some (some (.str l))) (hw : w.cps.size = 2) (q : Q (.bl (hitW l c w)) H) : teW iy ip il σ H Q := by
  obtain ⟨a, b, rfl⟩ := str2 hw
  have h2 : (⟨#[a, b]⟩ : Str).length ≤ sizeLine := by show 2 ≤ sizeLine; decide
  refine ⟨_, hy, _, 1, b, rfl, rfl, h2, rfl, _, hp, rfl, _, rfl, ?_⟩
  have e1 : (⟨#[a, b]⟩ : Str).cps.toList.getD 1 0 = b := rfl
  have e0 : (⟨#[a, b]⟩ : Str).cps.toList.getD 0 0 = a := rfl
  unfold hitW at q
  rw [e1, e0] at q
  by_cases h : V.str ⟨#[b]⟩ = V.str ⟨#[c]⟩
  · rw [if_pos (decide_eq_true h)]
    rw [decide_eq_true h, Bool.true_and] at q
    exact ⟨_, hy, _, 0, a, rfl, rfl, h2, rfl, _, hl, a, l, rfl, rfl, q⟩
  · rw [if_neg (by rw [decide_eq_false h]; exact Bool.false_ne_true)]
    rw [decide_eq_false h, Bool.false_and] at q
    exact q
section
variable {X : Cx} {pins : List (Addr × Obj)} {σ : L2.St} {H : Hp} {s : Shared}
theorem st1_tok {sc1 sc2 : Scope} {ip iy il iw ifr : Nat} {aw : Addr} {ws : List Str} {l : Str} {py p1 p2 p3 p4 p5 p6 p7 p8 p9 p10 p11 p12 p13 p14 p15 p16 p17 p18 p19 p20 spos : Pos} {k1 k2 : Nat}
    (hc : X.calm = true) (hN : X.N.Nodup) (hNw : X.N[iw]? = some "ways") (hNl : X.N[il]? = some "left") (hNr : X.N[ifr]? = some "free") (hNp : X.N[ip]? = some "place") (hNy : X.N[iy]? = some "way")
    (kl : X.env.scope.names.lookup ("left" : Str) = some .cell) (kr : X.env.scope.names.lookup ("free" : Str) = some .local) (cr : X.env.cells.lookup ("free" : Str) = none)
    (ok1 : BlkOk X.N X.env.scope sc1 [("place", ip)]) (s1p : sc1.names.lookup ("place" : Str) = some .cell) (r1p : (relabel sc1 X.env).names.lookup ("place" : Str) = some .cell) (v1w : Vis (relabel sc1 X.env) "ways")
    (ok2 : BlkOk X.N (relabel sc1 X.env) sc2 [("way", iy)]) (s2y : sc2.names.lookup ("way" : Str) = some .local)
    (v2y : ∀ cl C, Vis (relabel sc2 (compEnvC sc1 cl C X.env)) "way") (v2p : ∀ cl C, Vis (relabel sc2 (compEnvC sc1 cl C X.env)) "place") (v2l : ∀ cl C, Vis (relabel sc2 (compEnvC sc1 cl C X.env)) "left")
    (ga : (relabel sc1 X.env).names.lookup ("any" : Str) = some .globalImplicit) (hma : X.mg "any" = none)
    {pfin : Pos} (hsw' : swapsWith (.ListComp (.Name "place" p1) [⟨.Name "place" p2, .Name "left" p3, [.UnaryOp .Not (.Call (.Name "any" p4) [.ListComp (.BoolOp .And [.Compare (.Subscript (.Name "way" p5) (.Constant (.int 1) k1 p6) p7) [.Eq] [.Name "place" p8] p9, .Compare (.Subscript (.Name "way" p10) (.Constant (.int 0) k2 p11) p12) [.In] [.Name "left" p13] p14] p15) [⟨.Name "way" p16, .Name "ways" p17, [], 0⟩] sc2 p18] [] p19) p20], 0⟩] sc1 py) (some (.Name "free" spos)) pfin.line X.env = pure true)
    (I : L2.Inv X pins σ H s) (h1 : 1 ≤ s.toks) (hσw : σ[iw]? = some (some (.ref aw))) (hw : SqL X.K H aw (ws.map V.str)) (hlen : ws.length ≤ 1000) (hw2 : ∀ w ∈ ws, w.cps.size = 2) (hσl : σ[il]? = some (some (.str l))) (hll : l.cps.size ≤ 1000) :
    wpAny (model X.prog X.w) X.A (exec (.Assign [.Name "free" spos] (.ListComp (.Name "place" p1) [⟨.Name "place" p2, .Name "left" p3, [.UnaryOp .Not (.Call (.Name "any" p4) [.ListComp (.BoolOp .And [.Compare (.Subscript (.Name "way" p5) (.Constant (.int 1) k1 p6) p7) [.Eq] [.Name "place" p8] p9, .Compare (.Subscript (.Name "way" p10) (.Constant (.int 0) k2 p11) p12) [.In] [.Name "left" p13] p14] p15) [⟨.Name "way" p16, .Name "ways" p17, [], 0⟩] sc2 p18] [] p19) p20], 0⟩] sc1 py) pfin) X.env)
      (fun f s' => f = .next ∧ ∃ (D : Addr) (H' : Hp) (its : List Value) (k n : Nat), L2.Inv X pins (σ.set ifr (some (.ref D))) (upd H' D (.frz { cls := .type "list", data := .seq its.toArray k } (.lst ((frees ws l).map fun c => V.str ⟨#[c]⟩)))) s' ∧ Ex H H' ∧ H D = none ∧ Fine n (frees ws l) its ∧ n ≤ s'.toks) X.xe s := by
  have nyp : iy ≠ ip := fun e => by rw [e, hNp] at hNy; exact absurd hNy (by decide)
  have nyl : iy ≠ il := fun e => by rw [e, hNl] at hNy; exact absurd hNy (by decide)
  have nwp : ip ≠ iw := fun e => by rw [e, hNw] at hNp; exact absurd hNp (by decide)
  have nlp : ip ≠ il := fun e => by rw [e, hNl] at hNp; exact absurd hNp (by decide)
  have hip : ip < σ.length := by rw [I.len]; exact (List.getElem?_eq_some_iff.mp hNp).1
  have hiy : iy < σ.length := by rw [I.len]; exact (List.getElem?_eq_some_iff.mp hNy).1
  rw [exec_Assign_Name_used _ _ _ _ hsw']
  refine wpAny_bind (wpAny_standAt (wpAny_bind ?_))
  refine wpAny_bind (thn (lc_tok (X := X) (σ := σ) (H := H) (ip := ip) (x := l) (P := fun c => !(ws.any (hitW l c))) (use := some (assign (.Name "free" spos) X.env))
    (Qf := fun _ s' => ∃ (D : Addr) (H' : Hp) (its : List Value) (k n : Nat), L2.Inv X pins (σ.set ifr (some (.ref D))) (upd H' D (.frz { cls := .type "list", data := .seq its.toArray k } (.lst ((frees ws l).map fun c => V.str ⟨#[c]⟩)))) s' ∧ Ex H H' ∧ H D = none ∧ Fine n (frees ws l) its ∧ n ≤ s'.toks)
    hc hN I h1 ok1 s1p r1p rfl rfl (raw_name hNl (.inr (.inl kl)) I hσl (fun u r => ⟨r, I, h1⟩)) hll (fun s0 H0 fp c t a pins' s' H' hex hmem ha I' hcell => ?_) (fun _ => rfl) (fun D C s' m H' I' hex hD hn' hns hfp => ?_)) fun _ s' hq => wpAny_pure (wpAny_pure ⟨rfl, hq⟩))
  · have hrc : Own1 (Bk X s0 H0 sc1 fp) [(a, .str ⟨#[c]⟩ t)] := fun p hp => by
      have e : p = (a, Value.str ⟨#[c]⟩ t) := by simpa using hp
      subst e
      refine ⟨"place", ha, ?_⟩
      show (sc1.names.lookup ("place" : Str) == some .cell) = true
      rw [s1p]; rfl
    have raw : Raw [(a, .str ⟨#[c]⟩ t)] s'.heap := fun p hp => by
      have e : p = (a, Value.str ⟨#[c]⟩ t) := by simpa using hp
      subst e
      exact hcell
    have e1 : ((wipe σ [ip]).set ip (some (.str ⟨#[c]⟩)))[iw]? = some (some (.ref aw)) := by
      show ((σ.set ip none).set ip _)[iw]? = _
      rw [List.getElem?_set_ne nwp, List.getElem?_set_ne nwp]; exact hσw
    refine wpAny_mono (notany_raw (Y := Bk X s0 H0 sc1 fp) (rc := [(a, .str ⟨#[c]⟩ t)]) (iw := iy) (ix := iw) (ws := ws) (te := teW iy ip il) (f := hitW l c) hc hN I' hrc raw ok2 s2y hNw v1w e1 (Evl.ex_l hex hw) hlen ga hma (fun s2 H2 fp2 => ?_) (fun H2 Q w hw1 q => ?_)) (fun b s2 z => ?_) fun _ _ z => z
    · refine pe_and (pe_cmpR op_eq (pe_ix ix_str (pe_var hNy (v2y _ _)) pe_int (fun _ _ => rfl)) (pe_var hNp (v2p _ _)) rfl) (pe_one (pe_cmpR op_in_sign (pe_ix ix_str (pe_var hNy (v2y _ _)) pe_int (fun _ _ => rfl)) (pe_var hNl (v2l _ _)) rfl))
    · refine teW_of (w := w) (c := c) (l := l) ?_ ?_ ?_ (hw2 w hw1) q
      · rw [List.getElem?_set_self]
        simp [wipe]; exact hiy
      · rw [List.getElem?_set_ne nyp]
        show (((σ.set ip none).set ip _).set iy none)[ip]? = _
        rw [List.getElem?_set_ne nyp, List.getElem?_set_self (by simpa using hip)]
      · rw [List.getElem?_set_ne nyl]
        show (((σ.set ip none).set ip _).set iy none)[il]? = _
        rw [List.getElem?_set_ne nyl, List.getElem?_set_ne nlp, List.getElem?_set_ne nlp]; exact hσl
    · obtain ⟨eb, H3, ex3, I3, raw3⟩ := z
      exact ⟨eb, H3, ex3, I3, raw3 (a, _) (by simp)⟩
  · obtain ⟨n, hn, hD'⟩ := hn'
    show wpAny _ _ (assign (.Name "free" spos) X.env (.ref D)) _ _ _
    refine wpAny_assign_Name (wpAny_mono (wpAny_toks (store_ok2 (i := ifr) (v := V.ref D) (Q := fun _ s2 => L2.Inv X pins (σ.set ifr (some (.ref D))) H' s2 ∧ ∃ a, Heap.SameBut a s'.heap s2.heap ∧ (a = X.env.locals ∨ X.env.cells.lookup ("free" : Str) = some a)) I' hN hNr (.inl kr) rfl (fun s2 I2 z => ⟨I2, z⟩) (.inr kr))) (fun _ s2 z => ?_) fun _ _ z => z.2)
    obtain ⟨htk, I2, a, sb, ha⟩ := z
    obtain ⟨f0, f1, f2, f3, f4, f5⟩ := hfp
    have haL : a = X.env.locals := ha.elim id fun z => by rw [cr] at z; cases z
    have haC : C ≠ a := by rw [haL]; exact f1
    refine ⟨m, hns.sameBut sb haC, fun h3 sb3 => ?_⟩
    have I3 : L2.Inv X pins (σ.set ifr (some (.ref D))) H' { s2 with heap := h3 } := I2.turned (t' := s2.toks) (fun b o hb e => (sb3.2 b hb).trans e) f0 f1 f3 f4 f5
    obtain ⟨⟨its, k, fn, hg⟩, _, _⟩ := I3.hok D _ hD'
    have hsz : ((frees ws l).map fun c => V.str ⟨#[c]⟩).length ≤ sizeLine := by
      rw [List.length_map]
      have h1 := List.length_filter_le (fun c => !(ws.any (hitW l c))) l.cps.toList
      have h2 : l.cps.toList.length = l.cps.size := Array.length_toList
      exact Nat.le_trans (show (frees ws l).length ≤ 1000 by unfold frees; omega) (by decide)
    have I4 := I3.write (t' := s2.toks) (h' := h3) (x := D) (e := D) (o := .frz { cls := .type "list", data := .seq its.toArray k } (.lst ((frees ws l).map fun c => V.str ⟨#[c]⟩))) (by rw [hD']; trivial) (.inl rfl) (fun b u hb q => q) ⟨_, hg⟩ ⟨hg, hsz, its, k, Fine.vals fn, hg⟩
    exact ⟨D, H', its, k, n, I4, hex, hD, fn, Nat.le_trans hn htk⟩
end
end G
namespace G
open PySem PySem.Spec PyProof.Rows L2
section
variable {X : Cx} {pins : List (Addr × Obj)} {σ : L2.St} {H : Hp} {s : Shared}
theorem st3_tok {il ifd ifr : Nat} {D : Addr} {its : List Value} {k n c : Nat} {xs : List Nat} {l f : Str} {a1 a2 pt b1 b2 b3 b4 b5 c1 c2 c3 c4 c5 c6 c7 pt2 pos : Pos} {kt k3 k4 k5 k6 : Nat}
    (hc : X.calm = true) (hN : X.N.Nodup) (hNl : X.N[il]? = some "left") (hNf : X.N[ifd]? = some "found") (hNr : X.N[ifr]? = some "free")
    (kl : X.env.scope.names.lookup ("left" : Str) = some .cell) (kf : X.env.scope.names.lookup ("found" : Str) = some .local) (kr : X.env.scope.names.lookup ("free" : Str) = some .local) (hfl : X.fn "left" = true)
    (hs : swapsWithSole [.Tuple [.Name "found" a1, .Name "left" a2] kt pt] (.Tuple [.BinOp (.Name "found" b1) .Add (.Subscript (.Name "free" b2) (.Constant (.int 0) k3 b3) b4) b5, .Call (.Attribute (.Name "left" c1) "replace" c2) [.Subscript (.Name "free" c3) (.Constant (.int 0) k4 c4) c5, .Constant (.str "") k5 c6] [] c7] k6 pt2) pos.line X.env = pure false)
    (hw : swappedStores [.Tuple [.Name "found" a1, .Name "left" a2] kt pt] (.Tuple [.BinOp (.Name "found" b1) .Add (.Subscript (.Name "free" b2) (.Constant (.int 0) k3 b3) b4) b5, .Call (.Attribute (.Name "left" c1) "replace" c2) [.Subscript (.Name "free" c3) (.Constant (.int 0) k4 c4) c5, .Constant (.str "") k5 c6] [] c7] k6 pt2) X.env = pure none)
    (hline : (c2.endLine == c7.line) = true)
    (I : L2.Inv X pins σ H s) (hσl : σ[il]? = some (some (.str l))) (hσf : σ[ifd]? = some (some (.str f))) (hσr : σ[ifr]? = some (some (.ref D)))
    (hD : H D = some (.frz { cls := .type "list", data := .seq its.toArray k } (.lst ((c :: xs).map fun c => V.str ⟨#[c]⟩)))) (fn : Fine n (c :: xs) its) (hn : n ≤ s.toks) (hll : l.cps.size ≤ 1000) (hlf : f.length ≤ 1000) :
    wpAny (model X.prog X.w) X.A (exec (.Assign [.Tuple [.Name "found" a1, .Name "left" a2] kt pt] (.Tuple [.BinOp (.Name "found" b1) .Add (.Subscript (.Name "free" b2) (.Constant (.int 0) k3 b3) b4) b5, .Call (.Attribute (.Name "left" c1) "replace" c2) [.Subscript (.Name "free" c3) (.Constant (.int 0) k4 c4) c5, .Constant (.str "") k5 c6] [] c7] k6 pt2) pos) X.env)
      (fun fl s' => fl = .next ∧ ∃ t, H t = none ∧ L2.Inv X pins ((σ.set ifd (some (.str (f ++ ⟨#[c]⟩)))).set il (some (.str (Txt.replace l ⟨#[c]⟩ (Str.ofString ""))))) (upd H t (.tup [.str (f ++ ⟨#[c]⟩), .str (Txt.replace l ⟨#[c]⟩ (Str.ofString ""))])) s') X.xe s := by
  have hg : PG X (.Tuple [.Name "found" a1, .Name "left" a2] kt pt) _ := pg_tup (pos := pt) (k := kt) (n := 2) hc (pgs_cons (pg_name hN hNf (.inl kf) (.inr kf)) (pgs_cons (pg_name hN hNl (.inr kl) (.inl hfl)) pgs_nil))
  obtain ⟨t, ht, t0, tn⟩ := fn.2 0 c rfl
  have at0 : atI ((c :: xs).map fun c => V.str ⟨#[c]⟩) 0 = some (V.str ⟨#[c]⟩) := by
    unfold atI ixN
    simp
  refine wpAny_Assign_stores (thn (Q := fun v s1 => ∃ t, v = Value.ref t ∧ H t = none ∧ L2.Inv X pins σ (upd H t (.tup [.str (f ++ ⟨#[c]⟩), .str (Txt.replace l ⟨#[c]⟩ (Str.ofString ""))])) s1) ?_ fun v s1 z => ?_) hs hw
  · refine wpAny_Tuple_spliced ?_
    show wpAny _ _ (spliced ((false, eval (.BinOp (.Name "found" b1) .Add (.Subscript (.Name "free" b2) (.Constant (.int 0) k3 b3) b4) b5) X.env) :: backTo pt2 (starEach [.Call (.Attribute (.Name "left" c1) "replace" c2) [.Subscript (.Name "free" c3) (.Constant (.int 0) k4 c4) c5, .Constant (.str "") k5 c6] [] c7] X.env))) _ _ s
    refine Calls.spliced_cons ?_
    refine wpAny_mono (wpAny_toks_of hn ((pe_op (r := rAddS) op_add_str (pe_var hNf (.inl kf)) (pe_ix ix_list (pe_var hNr (.inl kr)) (pe_int (i := 0)) (fun _ _ => rfl))).run pins s σ H (fun v H1 => v = .str (f ++ ⟨#[c]⟩) ∧ H1 = H) I
      ⟨_, hσf, _, hσr, D, _, 0, .str ⟨#[c]⟩, rfl, rfl, .inl (.inr ⟨_, hD⟩), at0, f, ⟨#[c]⟩, rfl, rfl, by
        have h1 : (⟨#[c]⟩ : Str).length = 1 := rfl
        rw [h1]
        exact Nat.le_trans (show f.length + 1 ≤ 1001 by omega) (by decide), rfl, rfl⟩)) (fun u1 s1 z => ?_) fun _ _ z => z.2
    obtain ⟨hn1, v, H1, I1, r1, rfl, rfl⟩ := z
    obtain ⟨tf, rfl⟩ := r1
    show wpAny _ _ (spliced ((false, eval (.Call (.Attribute (.Name "left" c1) "replace" c2) [.Subscript (.Name "free" c3) (.Constant (.int 0) k4 c4) c5, .Constant (.str "") k5 c6] [] c7) X.env) :: backTo pt2 (starEach [] X.env))) _ _ s1
    refine Calls.spliced_cons ?_
    refine PySem.Call_method2 rfl rfl hline (raw_name hNl (.inr (.inl kl)) I1 hσl (fun v r => ?_))
    obtain ⟨tx, rfl⟩ := r
    refine ⟨"str", _, PySem.F.plainAttrs_str, PySem.F.slot_str_replace, PySem.F.type_str_replace, typeIs_str _ _ _, (fun _ e => nomatch e), Calls.callWith_builtin rfl (Calls.evalArgs_plain (Calls.spliced_cons ?_))⟩
    obtain ⟨hgo, _⟩ := I1.hok D _ hD
    have hlist : s1.heap.IsList D its.toArray := ⟨_, hgo, rfl, _, rfl⟩
    refine wpAny_mono (wpAny_toks_of hn1 (raw_ix (k := 0) (Q := fun v s' => v = Value.str ⟨#[c]⟩ t ∧ L2.Inv X pins σ H1 s') hNr (.inl kr) I1 hσr hlist (by omega) (by omega) (by simpa using ht) (fun tk => ⟨rfl, I1.tok tk⟩) (fun _ _ => rfl))) (fun v s2 z => ?_) fun _ _ z => z.2
    obtain ⟨hn2, rfl, I2⟩ := z
    refine Calls.spliced_cons (Calls.Constant_str (Calls.spliced_nil ?_))
    have tn2 : t < s2.toks := Nat.lt_of_lt_of_le tn hn2
    have hy0 : ((⟨#[c]⟩ : Str) == Str.ofString "") = false := by
      rw [beq_eq_false_iff_ne]
      intro z
      have := congrArg Str.length z
      have h0 : (Str.ofString "").length = 0 := by decide +kernel
      rw [h0] at this
      exact absurd (show (1 : Nat) = 0 from this) (by decide)
    have hbd : l.length + (l.length + 1) * (Str.ofString "").length ≤ 16777216 := by
      have h0 : (Str.ofString "").length = 0 := by decide +kernel
      rw [h0]
      have : l.length = l.cps.size := rfl
      omega
    refine PySem.SC.replace t0 (Nat.ne_of_gt (Nat.lt_of_le_of_lt (Nat.zero_le _) tn2)) (Nat.ne_of_lt tn2) hy0 hbd fun t' k' => ?_
    have I3 : L2.Inv X pins σ H1 { s2 with toks := k' } := I2.tok k'
    refine Calls.spliced_nil ⟨by show 2 ≤ sizeLine; decide, ?_⟩
    have hf : H1 s2.heap.objs.size = none := I2.hok.fresh (Nat.le_refl _)
    exact ⟨s2.heap.objs.size, rfl, hf, I3.laid (t' := k') (fun b u e => Heap.get?_push_of_some _ e) (Nat.le_refl _) ⟨by show 2 ≤ sizeLine; decide, _, .cons ⟨tf, rfl⟩ (.cons ⟨t', rfl⟩ .nil), ⟨_, Heap.get?_push_size _ rfl, rfl, _, rfl⟩⟩⟩
  · obtain ⟨t, rfl, ht, I1⟩ := z
    exact thn (hg.run pins s1 σ _ (.ref t) (.ref t) (fun σ' H' => σ' = (σ.set ifd (some (.str (f ++ ⟨#[c]⟩)))).set il (some (.str (Txt.replace l ⟨#[c]⟩ (Str.ofString "")))) ∧ H' = upd H t (.tup [.str (f ++ ⟨#[c]⟩), .str (Txt.replace l ⟨#[c]⟩ (Str.ofString ""))])) I1 rfl ⟨t, _, rfl, SqT.of upd_same, rfl, _, _, rfl, _, _, rfl, rfl, rfl, rfl⟩) fun _ s2 ⟨σ', H', I2, e1, e2⟩ => by
      subst e1 e2
      exact ⟨rfl, t, ht, I2⟩
end
end G
namespace G
open PySem PySem.Spec PyProof.Rows L2
theorem dp_signs {K : PySem.W.Frag} {H : Hp} : ∀ xs : List Nat, DpAll K H (xs.map fun c => V.str ⟨#[c]⟩) (xs.map fun c => PyData.str ⟨#[c]⟩)
  | [] => .nil
  | _ :: xs => .cons (.str _) (dp_signs xs)
theorem lay_signs : ∀ xs : List Nat, (∀ c ∈ xs, PyData.strOk ⟨#[c]⟩ = true) → PyData.canLayAll0 (xs.map fun c => PyData.str ⟨#[c]⟩) = true ∧ PyData.depthAll (xs.map fun c => PyData.str ⟨#[c]⟩) = 0
  | [], _ => ⟨by simp [PyData.canLayAll0], by simp [PyData.depthAll]⟩
  | x :: xs, h => by
    obtain ⟨h1, h2⟩ := lay_signs xs fun c hc => h c (List.mem_cons_of_mem _ hc)
    exact ⟨by simp only [List.map_cons, PyData.canLayAll0, PyData.canLay0, h1, h x (by simp), Bool.and_self], by simp [PyData.depthAll, PyData.depth, h2]⟩
theorem shaped_signs (xs : List Nat) (h : ∀ c ∈ xs, PyData.strOk ⟨#[c]⟩ = true) : SeqAt.shaped (.list (xs.map fun c => PyData.str ⟨#[c]⟩)) = true := by
  obtain ⟨h1, h2⟩ := lay_signs xs h
  unfold SeqAt.shaped
  simp [PyData.canLay0, PyData.depth, h1, h2]
section
variable {g : Gp} {X : Cx}
theorem gsst_tok {sc1 sc2 : Scope} (ip iy il iw ifr ifd : Nat) {py p1 p2 p3 p4 p5 p6 p7 p8 p9 p10 p11 p12 p13 p14 p15 p16 p17 p18 p19 p20 spos pfin : Pos} {k1 k2 : Nat} {a1 a2 pt b1 b2 b3 b4 b5 c1 c2 c3 c4 c5 c6 c7 pt2 pos : Pos} {kt k3 k4 k5 k6 : Nat} {e1 e2 e3 e4 e5 e6 : Pos} {kn : Nat}
    (hc : X.calm = true) (hN : X.N.Nodup) (hNw : X.N[iw]? = some "ways") (hNl : X.N[il]? = some "left") (hNf : X.N[ifd]? = some "found") (hNr : X.N[ifr]? = some "free") (hNp : X.N[ip]? = some "place") (hNy : X.N[iy]? = some "way") (hu : X.A.units + 64 < cLine)
    (kl : X.env.scope.names.lookup ("left" : Str) = some .cell) (kf : X.env.scope.names.lookup ("found" : Str) = some .local) (kr : X.env.scope.names.lookup ("free" : Str) = some .local) (cr : X.env.cells.lookup ("free" : Str) = none) (hfl : X.fn "left" = true)
    (ok1 : BlkOk X.N X.env.scope sc1 [("place", ip)]) (s1p : sc1.names.lookup ("place" : Str) = some .cell) (r1p : (relabel sc1 X.env).names.lookup ("place" : Str) = some .cell) (v1w : Vis (relabel sc1 X.env) "ways")
    (ok2 : BlkOk X.N (relabel sc1 X.env) sc2 [("way", iy)]) (s2y : sc2.names.lookup ("way" : Str) = some .local)
    (v2y : ∀ cl C, Vis (relabel sc2 (compEnvC sc1 cl C X.env)) "way") (v2p : ∀ cl C, Vis (relabel sc2 (compEnvC sc1 cl C X.env)) "place") (v2l : ∀ cl C, Vis (relabel sc2 (compEnvC sc1 cl C X.env)) "left")
    (ga : (relabel sc1 X.env).names.lookup ("any" : Str) = some .globalImplicit) (hma : X.mg "any" = none)
    (hsw' : swapsWith (.ListComp (.Name "place" p1) [⟨.Name "place" p2, .Name "left" p3, [.UnaryOp .Not (.Call (.Name "any" p4) [.ListComp (.BoolOp .And [.Compare (.Subscript (.Name "way" p5) (.Constant (.int 1) k1 p6) p7) [.Eq] [.Name "place" p8] p9, .Compare (.Subscript (.Name "way" p10) (.Constant (.int 0) k2 p11) p12) [.In] [.Name "left" p13] p14] p15) [⟨.Name "way" p16, .Name "ways" p17, [], 0⟩] sc2 p18] [] p19) p20], 0⟩] sc1 py) (some (.Name "free" spos)) pfin.line X.env = pure true)
    (hs : swapsWithSole [.Tuple [.Name "found" a1, .Name "left" a2] kt pt] (.Tuple [.BinOp (.Name "found" b1) .Add (.Subscript (.Name "free" b2) (.Constant (.int 0) k3 b3) b4) b5, .Call (.Attribute (.Name "left" c1) "replace" c2) [.Subscript (.Name "free" c3) (.Constant (.int 0) k4 c4) c5, .Constant (.str "") k5 c6] [] c7] k6 pt2) pos.line X.env = pure false) (hw : swappedStores [.Tuple [.Name "found" a1, .Name "left" a2] kt pt] (.Tuple [.BinOp (.Name "found" b1) .Add (.Subscript (.Name "free" b2) (.Constant (.int 0) k3 b3) b4) b5, .Call (.Attribute (.Name "left" c1) "replace" c2) [.Subscript (.Name "free" c3) (.Constant (.int 0) k4 c4) c5, .Constant (.str "") k5 c6] [] c7] k6 pt2) X.env = pure none) (hline : (c2.endLine == c7.line) = true) :
    GSsT g X [.Assign [.Name "free" spos] (.ListComp (.Name "place" p1) [⟨.Name "place" p2, .Name "left" p3, [.UnaryOp .Not (.Call (.Name "any" p4) [.ListComp (.BoolOp .And [.Compare (.Subscript (.Name "way" p5) (.Constant (.int 1) k1 p6) p7) [.Eq] [.Name "place" p8] p9, .Compare (.Subscript (.Name "way" p10) (.Constant (.int 0) k2 p11) p12) [.In] [.Name "left" p13] p14] p15) [⟨.Name "way" p16, .Name "ways" p17, [], 0⟩] sc2 p18] [] p19) p20], 0⟩] sc1 py) pfin, .If (.Compare (.Name "free" e1) [.Eq] [.List [] e2] e3) [.Return (some (.Constant .none kn e4)) e5] [] e6, .Assign [.Tuple [.Name "found" a1, .Name "left" a2] kt pt] (.Tuple [.BinOp (.Name "found" b1) .Add (.Subscript (.Name "free" b2) (.Constant (.int 0) k3 b3) b4) b5, .Call (.Attribute (.Name "left" c1) "replace" c2) [.Subscript (.Name "free" c3) (.Constant (.int 0) k4 c4) c5, .Constant (.str "") k5 c6] [] c7] k6 pt2) pos] (dTok iw il ifd ifr) := by
  intro pins s σ H E0 h0 I h
  obtain ⟨c, F, env, m, E, r, ⟨ws, l, f, ew, el, ef, hws, hll, hlf, hw2, hok, hM⟩, o⟩ := h
  obtain ⟨vw, σw, rw'⟩ := r.slot iw _ ew
  obtain ⟨vl, σl, rl'⟩ := r.slot il _ el
  obtain ⟨vf, σf, rf'⟩ := r.slot ifd _ ef
  have rw' : Rep X.K g F (.lst (ws.map D.str)) vw := rw'
  have rl' : Rep X.K g F (.str l) vl := rl'
  have rf' : Rep X.K g F (.str f) vf := rf'
  cases rl'
  cases rf'
  cases rw' with
  | @lst aw xs _ hF rL =>
  have exs := repL_strs rL
  subst exs
  have nfr : ifr < σ.length := by rw [I.len]; exact (List.getElem?_eq_some_iff.mp hNr).1
  have nrl : ifr ≠ il := fun e => by rw [e, hNl] at hNr; exact absurd hNr (by decide)
  have nrf : ifr ≠ ifd := fun e => by rw [e, hNf] at hNr; exact absurd hNr (by decide)
  refine wpAny_execs_cons (wpAny_mono (st1_tok (iw := iw) (il := il) (ws := ws) (l := l) hc hN hNw hNl hNr hNp hNy kl kr cr ok1 s1p r1p v1w ok2 s2y v2y v2p v2l ga hma hsw' I h0 σw (.inl (.inl (r.sub _ _ hF))) hws hw2 σl hll) (fun fl s1 z => ?_) fun _ _ z => z)
  obtain ⟨rfl, D, H', its, k, n, I1, hex, hD, fn, hn⟩ := z
  generalize hH1 : upd H' D (.frz { cls := .type "list", data := .seq its.toArray k } (.lst ((frees ws l).map fun c => V.str ⟨#[c]⟩))) = H1 at I1
  have ex1 : Ex H H1 := fun a o e => by
    rw [← hH1, upd_ne]
    · exact hex a o e
    · rintro rfl
      rw [hD] at e; cases e
  have hD1 : H1 D = some (.frz { cls := .type "list", data := .seq its.toArray k } (.lst ((frees ws l).map fun c => V.str ⟨#[c]⟩))) := by rw [← hH1]; exact upd_same
  have σr1 : (σ.set ifr (some (.ref D)))[ifr]? = some (some (V.ref D)) := List.getElem?_set_self nfr
  have eqd : PyData.eqv (.list ((frees ws l).map fun c => PyData.str ⟨#[c]⟩)) (.list []) = (frees ws l).isEmpty := by
    cases frees ws l <;> rfl
  have relx : ∀ {H3 : Hp}, Ex H H3 → Rel X.K g c F env m σ H3 ∧ Evo c (Own env σ) F H (Own env σ) F H3 := fun {H3} ex => by
    have nn : New F H F H3 := ⟨fun _ _ h => h, fun a o e => ex a o (r.sub a o e), ex, fun _ _ h => .inl h⟩
    exact ⟨r.new nn, r.evo (nn.fresh r.ck)⟩
  refine wpAny_execs_cons (wpAny_mono (wpAny_toks_of hn ((ps_if (X := X) (pt_cmpR (op_eqD hu) (pe_var hNr (.inl kr)) (pe_lst (pos := e2) pa_nil) rfl) (pss_cons (ps_ret (pos := e5) (pe_non (j := kn) (pos := e4))) pss_nil) pss_nil).run pins s1 _ H1
    { nx := fun σ' H' => σ' = σ.set ifr (some (.ref D)) ∧ frees ws l ≠ [] ∧ ∃ q, H1 q = none ∧ H' = upd H1 q (.lst []), rt := E0.rt } I1
    ⟨_, σr1, Nat.zero_le _, fun q hq => ⟨.list ((frees ws l).map fun c => PyData.str ⟨#[c]⟩), .list [], .lst (.inl (.inr ⟨_, by
      rw [upd_ne]
      · exact hD1
      · rintro rfl
        rw [hD1] at hq; cases hq⟩)) (dp_signs _), .lst (.inl (.inl upd_same)) .nil, ?_, ?_, _, rfl, ?_⟩⟩)) (fun fl s2 z => ?_) fun _ _ z => z.2)
  · exact shaped_signs _ fun c hc => hok c (List.mem_filter.mp hc).1
  · exact shaped_signs [] fun c hc => by simp at hc
  · rw [eqd]
    cases hfr : frees ws l with
    | nil =>
      rw [hfr] at hM
      rw [if_pos (show ([] : List Nat).isEmpty = true from rfl)]
      have ex3 : Ex H (upd H1 q (.lst [])) := fun a o e => by
        rw [upd_ne]
        · exact ex1 a o e
        · rintro rfl
          rw [ex1 a o e] at hq; cases hq
      obtain ⟨r3, v3⟩ := relx ex3
      exact o.rt .non _ F m .non r3.ck v3.none .non hM
    | cons c0 cs =>
      rw [if_neg (show ¬ (c0 :: cs).isEmpty = true from Bool.false_ne_true)]
      exact ⟨rfl, List.cons_ne_nil _ _, q, hq, rfl⟩
  · obtain ⟨hn2, z⟩ := z
    cases fl with
    | brk => obtain ⟨_, _, _, h⟩ := z; exact h.elim
    | cont => obtain ⟨_, _, _, h⟩ := z; exact h.elim
    | ret v => exact z
    | next =>
      obtain ⟨σ2, H2, I2, rfl, hne, q, hq, rfl⟩ := z
      cases hfr : frees ws l with
      | nil => exact absurd hfr hne
      | cons c0 cs =>
        rw [hfr] at hM hD1 fn
        have hD2 : (upd H1 q (.lst [])) D = some (.frz { cls := .type "list", data := .seq its.toArray k } (.lst ((c0 :: cs).map fun c => V.str ⟨#[c]⟩))) := by
          rw [upd_ne]
          · exact hD1
          · rintro rfl
            rw [hD1] at hq; cases hq
        have σl2 : (σ.set ifr (some (.ref D)))[il]? = some (some (.str l)) := by rw [List.getElem?_set_ne nrl]; exact σl
        have σf2 : (σ.set ifr (some (.ref D)))[ifd]? = some (some (.str f)) := by rw [List.getElem?_set_ne nrf]; exact σf
        refine wpAny_execs_cons (wpAny_mono (st3_tok hc hN hNl hNf hNr kl kf kr hfl hs hw hline I2 σl2 σf2 σr1 hD2 fn hn2 hll hlf) (fun fl s3 z => ?_) fun _ _ z => z)
        obtain ⟨rfl, t, ht, I3⟩ := z
        have ex3 : Ex H (upd (upd H1 q (.lst [])) t (.tup [.str (f ++ ⟨#[c0]⟩), .str (Txt.replace l ⟨#[c0]⟩ (Str.ofString ""))])) := fun a o e => by
          have h1 : (upd H1 q (.lst [])) a = some o := by
            rw [upd_ne]
            · exact ex1 a o e
            · rintro rfl
              rw [ex1 a o e] at hq; cases hq
          rw [upd_ne]
          · exact h1
          · rintro rfl
            rw [h1] at ht; cases ht
        obtain ⟨r3, v3⟩ := relx ex3
        have r4 := ((r3.setNo (i := ifr) (o := some (.ref D))).setV (i := ifd) (d := .str (f ++ ⟨#[c0]⟩)) (.str _)).setV (i := il) (d := .str (Txt.replace l ⟨#[c0]⟩ (Str.ofString ""))) (.str _)
        refine wpAny_execs_nil ⟨_, _, I3, o.nx _ _ F _ m r4 (v3.sub fun x hx => ?_) hM⟩
        have l0 := r.len
        exact own_set l0 sl_no0 (own_set (by simp [l0]) sl_no (own_set (by simp [l0]) sl_no hx))
end
end G
namespace G
open PySem PySem.Spec PyProof.Rows L2
section
variable {X : Cx}
end
section
variable {g : Gp} {X : Cx} {e : Expr} {d : DE} {pos p1 p2 p3 : Pos}
end
end G
namespace G
open PySem L2
open PySem.Spec PyProof.Rows
theorem _root_.L2H.RoomH.units {k : Nat} {A : Around} (r : L2H.RoomH k A) : A.units + 64 < cLine := by have := r.un; omega
def HotF (X : Cx) : Prop := ∃ p : Addr × Obj, L2H.Hot1 X.A p ∧ X.H_0 p.1 = some (.frz p.2 (.ext fun _ => True))
section
variable {X : Cx} {pins : List (Addr × Obj)} {σ : L2.St} {H : Hp} {s : Shared}
theorem HotF.blk {scope : Scope} {ce : Env} {fp : List Addr} (c : HotF X) (I : Inv X pins σ H s) : HotF (X.blk s H scope ce fp) := by
  obtain ⟨p, h, e⟩ := c
  exact ⟨p, h, I.base.frzs _ _ _ e⟩
end
structure TurnF (P : Program) (w : World) (K : PySem.W.Frag) (tg : Expr) (J : It) (fp : List Addr) (it : Addr) (tn : Nat → Heap → Prop) : Prop where
  obj : ∀ (i : Nat) (h : Heap), tn i h → ∀ b ∈ fp, ∃ o, h.get? b = some o ∧ ∀ v, o.data ≠ .cell v
  stay : ∀ (i : Nat) (h h2 : Heap), tn i h → (∀ b ∈ fp, ∀ o, h.get? b = some o → h2.get? b = some o) → tn i h2
  step : ∀ (Y : Cx), Y.prog = P → Y.w = w → Y.K = K → HotF Y → ∀ (i : Nat) (pins : List (Addr × Obj)) (z : Shared) (σ : L2.St) (Hz : Hp), Inv Y pins σ Hz z → (∀ b ∈ fp, FpOk Y pins Hz b) → tn i z.heap → J.go i Hz →
    wpAny (model P w) Y.A (pyNext (.ref it)) (fun r z1 => ∃ u, r = some u ∧ wpAny (model P w) Y.A (letOwnedTupleGo tg (.ref it) u) (fun _ z2 => ∃ x H2, Inv Y pins σ H2 z2 ∧ RelV x u ∧ J.yld i Hz x H2 ∧ tn (i + 1) z2.heap ∧ ∀ b ∈ fp, H2 b = none) (fun _ _ => False) z1) (fun _ _ => False) z
  over : ∀ (Y : Cx), Y.prog = P → Y.w = w → Y.K = K → HotF Y → ∀ (i : Nat) (pins : List (Addr × Obj)) (z : Shared) (σ : L2.St) (Hz : Hp), Inv Y pins σ Hz z → (∀ b ∈ fp, FpOk Y pins Hz b) → tn i z.heap → J.stop i Hz →
    wpAny (model P w) Y.A (pyNext (.ref it)) (fun r z1 => r = none ∧ Inv Y pins σ Hz z1) (fun _ _ => False) z
  same : ∀ (A : Around) (i : Nat) (z : Shared) (Q : Value → Shared → Prop) (E : Value → Shared → Prop), tn i z.heap → Q (.ref it) z → wpAny (model P w) A (pyIter (.ref it)) Q E z
def IterF (X : Cx) (pins : List (Addr × Obj)) (σ : L2.St) (tg : Expr) (R : It → Hp → Prop) (v : Value) (z : Shared) : Prop :=
  ∃ (it : Addr) (fp : List Addr) (tn : Nat → Heap → Prop) (J : It) (Hz : Hp), v = .ref it ∧ Inv X pins σ Hz z ∧ TurnF X.prog X.w X.K tg J fp it tn ∧ tn 0 z.heap ∧ (∀ b ∈ fp, FpOk X pins Hz b) ∧ R J Hz
structure PIF (X : Cx) (tg iter : Expr) (wi : TI) : Prop where
  run : ∀ (pins : List (Addr × Obj)) (s : Shared) (σ : L2.St) (H : Hp) (R : It → Hp → Prop), Inv X pins σ H s → wi σ H R →
    wpAny (model X.prog X.w) X.A (eval iter X.env) (fun v s1 => wpAny (model X.prog X.w) X.A (pyIter v) (IterF X pins σ tg R) X.xe s1) X.xe s
section
variable {X : Cx} {elt tg iter : Expr} {tests : List Expr} {scope : Scope} {own : List (Str × Nat)} {pos : Pos} {wi : TI} {T : TG} {tt : TT} {te : TE}
end
section
variable {g : Gp} {X : Cx} {elt tg iter e : Expr} {tests : List Expr} {scope : Scope} {own : List (Str × Nat)} {p pos : Pos} {di : DL} {d : DE} {T : TG} {f : D → Env' → Option Env'} {js : List Nat} {dt : DT} {de : DE}
theorem PIF.weak {t t' : TI} (h : PIF X tg e t) (w : ∀ σ H Q, t' σ H Q → t σ H Q) : PIF X tg e t' := ⟨fun pins s σ H Q I q => h.run pins s σ H Q I (w σ H Q q)⟩
end
end G
namespace G
open PySem L2
section
variable {P : Program} {w : World} {K : PySem.W.Frag} {mg : Str → Option Value} {base : Heap} {g : Gp}
end
end G
namespace G
open PySem L2
section
variable {g : Gp} {X : Cx} {elt tg iter : Expr} {tests : List Expr} {scope : Scope} {own : List (Str × Nat)} {pos : Pos} {di : DL} {T : TG} {f : D → Env' → Option Env'} {js vs : List Nat} {dt : DT} {de : DE}
end
end G
namespace G
open PySem L2
end G
namespace G
open PySem L2
def reprND : List D → Option D
  | [.non] => some (.str "None")
  | [.bl b] => some (.str (if b then "True" else "False"))
  | [.str z] => if (reprText z).length ≤ LL then some (.str (reprText z)) else none
  | ds => reprID ds
end G
namespace G
open PySem L2
section
variable {g : Gp} {X : Cx} {e : Expr} {d : DE} {p pos tpos : Pos}
end
end G
namespace G
open PySem L2
end G
namespace G
open PySem L2
theorem fn_false {P : Program} {w : World} {K : PySem.W.Frag} {mg : Str → Option Value} {base : Heap} {g : Gp} {k : Nat} {f : Addr} {fd : FuncData} {ps : List Str} {S : Spec} (h : ∀ as m Q, ¬ S as m Q) : FnOk P w K mg base CX0 k f fd ps (spOf K g S) :=
  ⟨fun vs H Q E ⟨_, _, _, _, _, _, _, _, hs, _⟩ => absurd hs (h _ _ _), fun A outer s H args us vs Q E _ _ _ _ ⟨_, _, _, _, _, _, _, _, hs, _⟩ => absurd hs (h _ _ _)⟩
end G
namespace G
open PySem L2
section
variable {P : Program} {w : World} {K : PySem.W.Frag} {mg : Str → Option Value} {base : Heap} {g : Gp}
end
end G
namespace G
open PySem L2
section
variable {g : Gp} {X : Cx} {a b e e2 k : Expr} {es : List Expr} {d da db dk dv d2 : DE} {pos p cpos apos : Pos}
def dDic1 (dk dv : DE) : DE := fun env m Q => dk env m fun x m1 => dv env m1 fun y m2 => ∃ k, x.key = some k ∧ Q (.dic [(k, y)]) m2
theorem gnw_dic1 {kx vx : Expr} (hk : GE g X kx dk) (hv : GE g X vx dv) : GNw g X (.Dict [some kx] [vx] pos) (dDic1 dk dv) :=
  PE.weak (pe_disp (pps_cons hk hv pps_nil) rfl rfl (by simp) (by simp)) fun σ H Q ⟨c, F, env, m, Q1, r, hd, k⟩ p hp => by
  have n := New.lay (F := F) (o := .dK []) r.sub hp
  have hc : c ≠ some p := fun z => by obtain ⟨_, _, y, _⟩ := r.ck p z; rw [y] at hp; cases hp
  have r0 := r.new n
  have no : ∀ {F' H'} {m' : Nat}, Rel X.K g c F' env m' σ H' → ¬ Own env σ p := fun {F' H' m'} _ z => by
    obtain ⟨_, u, y⟩ := r.ownH z
    rw [hp] at y; cases y
  refine ⟨c, F, env, m, _, r0, hd, fun v1 H1 F1 m1 x r1 f1 rp1 q1 => ⟨c, F1, env, m1, _, r1, q1, fun v2 H2 F2 m2 y r2 f2 rp2 ⟨kk, ex, q2⟩ => ?_⟩⟩
  have f12 := f1.trans f2
  have h2 : H2 p = some (.dK []) := f12.hh _ _ upd_same hc
  have hF : F2 p = none := by
    cases z : F2 p with
    | none => rfl
    | some u =>
      rcases f12.new p u z with y' | y'
      · rw [ex_none r.sub hp] at y'; cases y'
      · rw [upd_same] at y'; cases y'
  refine ⟨h2, [(kk, v2)], by show [(v1, v2)] = [(kV kk, v2)]; rw [key_rep ex rp1], by show 1 ≤ 15; decide, ?_⟩
  obtain ⟨r3, f3⟩ := upd_fresh (o' := .dK (mergeK [] [(kk, v2)])) hc hp r2 f12 h2 hF rfl no_code (no r2)
  exact k p _ F2 m2 _ _ r3 f3 hp hF hc upd_same (show ObR X.K g F2 p (.dic [(kk, y)]) (.dK [(kk, v2)]) from ⟨_, rfl, rfl, .cons rp2 .nil⟩) q2
def dGetK (d dk d2 : DE) : DE := fun env m Q => d env m fun x m1 => ∃ kds, x = .dic kds ∧ dk env m1 fun y m2 => ∃ k, y.key = some k ∧ d2 env m2 fun z m3 => Q ((kvGet kds k).getD z) m3
theorem ge_getK (hu : X.A.units + 64 < cLine) (he : GB g X a d) (hk : GE g X k dk) (h2 : GE g X e2 d2) (m : M2 X a "get" apos k e2 cpos) : GE g X (.Call (.Attribute a "get" apos) [k, e2] [] cpos) (dGetK d dk d2) :=
  PE.weak (pe_dget2 (by omega) he hk h2 m) fun σ H Q ⟨c, F, env, m, Q1, r, hd, kk⟩ => ⟨c, F, env, m, _, r, hd, fun v H1 F1 m1 x r1 f1 rp ⟨kds, ex, q1⟩ => by
    subst ex
    obtain ⟨p, kvs, rfl, h1, h2, h3, h4⟩ := rp.dic'
    refine ⟨p, rfl, .inl ⟨kvs, .inl h1⟩, c, F1, env, m1, _, r1, q1, fun v2 H2 F2 m2 y r2 f2 rp2 ⟨k0, ek, q2⟩ => ⟨c, F2, env, m2, _, r2, q2, fun v3 H3 F3 m3 z r3 f3 rp3 q3 => ?_⟩⟩
    have f23 := f2.trans f3
    have h1' := f23.hh _ _ h1 h4
    refine ⟨valV kvs k0, by rw [key_rep ek rp2]; exact DGet.k h1', ?_⟩
    have kr : KvR X.K g F3 kds kvs := KvR.of h2 (RepL.mono f23.ff h3)
    cases hg : kvGet kds k0 with
    | some w =>
      obtain ⟨v', e1, e2⟩ := kr.get hg
      rw [hg] at q3
      rw [e1]
      exact kk _ H3 F3 m3 _ r3 (f1.trans f23) e2 q3
    | none =>
      rw [hg] at q3
      rw [kr.getN hg]
      exact kk _ H3 F3 m3 _ r3 (f1.trans f23) rp3 q3⟩
end
section
variable {g : Gp} {X : Cx} {e : Expr} {es : List Expr} {da : DA} {k : Nat} {x : Str} {p1 pos : Pos}
end
end G
namespace K18
open PySem L2 G
open T hiding ckOk
open K24 hiding S_law_right S_law_right_len S_law_web S_law_web_len
def stt (W : List (Nat × Nat)) (i : Nat) : Nat := (W.getD i (0, 0)).1
def enn (W : List (Nat × Nat)) (i : Nat) : Nat := (W.getD i (0, 0)).2
inductive Rch (W : List (Nat × Nat)) (a : Nat) : Nat → Prop
  | refl : Rch W a a
  | step {b c : Nat} : Rch W a b → (b, c) ∈ W → Rch W a c
def InRing (W : List (Nat × Nat)) (k : Nat) : Prop := Rch W (enn W k) (stt W k)
def Chain (W : List (Nat × Nat)) : Nat → List Nat → Nat → Prop
  | a, [], b => a = b
  | a, i :: l, b => i < W.length ∧ stt W i = a ∧ Chain W (enn W i) l b
def Path (W : List (Nat × Nat)) (a : Nat) (l : List Nat) (b : Nat) : Prop := Chain W a l b ∧ (l.map (stt W) ++ [b]).Nodup
structure IsRing (W : List (Nat × Nat)) (r : List Nat) : Prop where
  ne : r ≠ []
  nd : (r.map (stt W)).Nodup
  cyc : r.map (enn W) = (r.map (stt W)).tail ++ (r.map (stt W)).take 1
structure Known (W : List (Nat × Nat)) (a : Nat) (kn : List (Nat × List Nat)) : Prop where
  all : ∀ b, b ∈ kn.map (·.1) ↔ Rch W a b
  nd : (kn.map (·.1)).Nodup
  way : ∀ p ∈ kn, Path W a p.2 p.1
  few : kn.length ≤ 20
def knD (kn : List (Nat × List Nat)) : D := .dic (kn.map fun p => (Sum.inr (c1 p.1), lotD p.2))
def freeP (W : List (Nat × Nat)) (l : List Nat) : List Nat := l.filter fun p => !(W.any fun w => decide (w.2 = p) && decide (w.1 ∈ l))
def fo (W : List (Nat × Nat)) : Nat → List Nat → Option (List Nat)
  | 0, _ => some []
  | n + 1, l => match freeP W l with
    | [] => none
    | c :: _ => (fo W n (l.filter fun p => decide (p ≠ c))).map (c :: ·)
def ordD (W : List (Nat × Nat)) (P : List Nat) : D := match fo W P.length P with
  | none => .non
  | some R => plD R
def flip (L : List Bool) (l : List Nat) : List Bool := L.zipIdx.map fun p => if p.2 ∈ l then !p.1 else p.1
def frn (W : List (Nat × Nat)) (P : List Nat) : List Nat := P.filter fun p => !(W.any fun w => decide (w.2 = p))
def crs (T : List (Nat × Nat)) (S : List Nat) : List Nat := (List.range T.length).filter fun i => decide ((T.getD i (0, 0)).1 ∈ S) != decide ((T.getD i (0, 0)).2 ∈ S)
structure Ring (W : List (Nat × Nat)) (k : Nat) (l : List Nat) : Prop where
  lot : Lot W.length l
  ring : ∃ r, IsRing W r ∧ r.Perm l
  mem : k ∈ l
structure Cut (T : List (Nat × Nat)) (W : List (Nat × Nat)) (P : List Nat) (k : Nat) (l S : List Nat) : Prop where
  sub : ∃ f : Nat → Bool, S = P.filter f
  lot : l = crs T S
  out : ∀ i ∈ l, stt W i ∈ S
  mem : k ∈ l
structure Lnd (P : List Nat) (T : List (Nat × Nat)) (L : List Bool) : Prop where
  wb : WbOk P T
  len : L.length = T.length
def S_herd_lot : G.Spec := fun as m Q => ∃ P T S, T.length ≤ 11 ∧ S.length ≤ 100 ∧ as = [.val (webD P T), .val (.lst (S.map fun a => D.str (c1 a)))] ∧ Q (lotD (crs T S)) m
def S_ways_of : G.Spec := fun as m Q => ∃ P T L, Lnd P T L ∧ as = [.val (webD P T), .val (lnD L)] ∧ Q (.lst ((ways T L).map wayD)) m
def S_arrows : G.Spec := fun as m Q => ∃ P T L, Lnd P T L ∧ as = [.val (webD P T), .val (lnD L)] ∧ Q (.tup ((ways T L).map wayD)) m
def S_turned : G.Spec := fun as m Q => ∃ P T L l, Lnd P T L ∧ Lot T.length l ∧ as = [.val (webD P T), .val (lnD L), .val (lotD l)] ∧ Q (lnD (flip L l)) m
def S_first_order : G.Spec := fun as m Q => ∃ P T L, Lnd P T L ∧ as = [.val (webD P T), .val (lnD L)] ∧ Q (ordD (ways T L) P) m
def S_has_no_ring : G.Spec := fun as m Q => ∃ P T L, Lnd P T L ∧ as = [.val (webD P T), .val (lnD L)] ∧ Q (.bl (fo (ways T L) P.length P).isSome) m
def S_is_ringless : G.Spec := S_has_no_ring
def S_order_of : G.Spec := S_first_order
def S_ways_to : G.Spec := fun as m Q => ∃ P T L a, Lnd P T L ∧ a ∈ P ∧ as = [.val (webD P T), .val (lnD L), .val (.str (c1 a))] ∧ ∀ kn, Known (ways T L) a kn → Q (knD kn) m
def S_told_ring_or_cut : G.Spec := fun as m Q => ∃ P T L k, Lnd P T L ∧ k < T.length ∧ as = [.val (webD P T), .val (lnD L), .val (natD k)] ∧
  (InRing (ways T L) k → ∀ l, Ring (ways T L) k l → Q (.tup [.str "ring", lotD l]) m) ∧ (¬ InRing (ways T L) k → ∀ l S, Cut T (ways T L) P k l S → Q (.tup [.str "cut", lotD l]) m)
def S_is_all_rings : G.Spec := fun as m Q => ∃ P T L, Lnd P T L ∧ as = [.val (webD P T), .val (lnD L)] ∧ ∀ b : Bool, (b = true ↔ ∀ k, k < T.length → InRing (ways T L) k) → Q (.bl b) m
def S_is_ringed : G.Spec := S_is_all_rings
def S_front_places : G.Spec := fun as m Q => ∃ P T L, Lnd P T L ∧ as = [.val (webD P T), .val (lnD L)] ∧ Q (plD (frn (ways T L) P)) m
def S_fronts : G.Spec := S_front_places
def S_law_web : G.Spec := fun as m Q => m ≤ 500000 ∧ as = [.cask, .val (.int 4), .val (.int 6)] ∧ ∀ P T m', WbOk P T → P.length ≤ 4 → T.length ≤ 6 → m' ≤ m + 100 → Q (.tup [plD P, .tup (T.map wayD)]) m'
def S_law_reach : G.Spec := fun as m Q => ∃ (W : List (Nat × Nat)) (a : Nat), W.length ≤ 11 ∧ as = [.val (.lst (W.map wayD)), .val (.str (c1 a))] ∧ ∀ R : List Nat, (∀ b, b ∈ R ↔ Rch W a b) → R.length ≤ 20 → Q (.lst (R.map fun b => D.str (c1 b))) m
def S_law_in_ring : G.Spec := fun as m Q => ∃ (W : List (Nat × Nat)) (k : Nat), W.length ≤ 11 ∧ k < W.length ∧ as = [.val (.lst (W.map wayD)), .val (natD k)] ∧ ∀ b : Bool, (b = true ↔ InRing W k) → Q (.bl b) m
def lo (T W : List (Nat × Nat)) (S l : List Nat) : Bool := !decide (crs T S = []) && (decide (l = crs T S) && (crs T S).all fun i => decide (stt W i ∈ S))
def S_law_flip : G.Spec := fun as m Q => ∃ (L : List Bool) (l : List Nat), L.length ≤ 11 ∧ l.length ≤ 100 ∧ as = [.val (lnD L), .val (lotD l)] ∧ Q (lnD (flip L l)) m
def S_law_first_order : G.Spec := fun as m Q => ∃ (P : List Nat) (W : List (Nat × Nat)), PlOk P ∧ W.length ≤ 11 ∧ (∀ w ∈ W, w.1 ∈ P ∧ w.2 ∈ P) ∧ as = [.val (plD P), .val (.lst (W.map wayD))] ∧ Q (ordD W P) m
def S_law_ties_right : G.Spec := fun as m Q => ∃ P T L, Lnd P T L ∧ as = [.val (webD P T), .val (plD P), .val (.lst ((ways T L).map wayD)), .val (lnD L)] ∧ Q (.bl true) m
def S_law_right : G.Spec := fun as m Q => m ≤ 1000 ∧ as = [.cask] ∧ ∀ m', Q (.bl true) m'
theorem S_herd_lot_len : ∀ as m Q, S_herd_lot as m Q → as.length = 2 := by rintro as m Q ⟨_, _, _, _, _, rfl, _⟩; rfl
theorem S_ways_of_len : ∀ as m Q, S_ways_of as m Q → as.length = 2 := by rintro as m Q ⟨_, _, _, _, rfl, _⟩; rfl
theorem S_first_order_len : ∀ as m Q, S_first_order as m Q → as.length = 2 := by rintro as m Q ⟨_, _, _, _, rfl, _⟩; rfl
theorem S_has_no_ring_len : ∀ as m Q, S_has_no_ring as m Q → as.length = 2 := by rintro as m Q ⟨_, _, _, _, rfl, _⟩; rfl
theorem S_ways_to_len : ∀ as m Q, S_ways_to as m Q → as.length = 3 := by rintro as m Q ⟨_, _, _, _, _, _, rfl, _⟩; rfl
theorem S_told_ring_or_cut_len : ∀ as m Q, S_told_ring_or_cut as m Q → as.length = 3 := by rintro as m Q ⟨_, _, _, _, _, _, rfl, _⟩; rfl
theorem S_is_all_rings_len : ∀ as m Q, S_is_all_rings as m Q → as.length = 2 := by rintro as m Q ⟨_, _, _, _, rfl, _⟩; rfl
theorem S_front_places_len : ∀ as m Q, S_front_places as m Q → as.length = 2 := by rintro as m Q ⟨_, _, _, _, rfl, _⟩; rfl
theorem S_law_web_len : ∀ as m Q, S_law_web as m Q → as.length = 3 := by rintro as m Q ⟨_, rfl, _⟩; rfl
theorem S_law_reach_len : ∀ as m Q, S_law_reach as m Q → as.length = 2 := by rintro as m Q ⟨_, _, _, rfl, _⟩; rfl
theorem S_law_in_ring_len : ∀ as m Q, S_law_in_ring as m Q → as.length = 2 := by rintro as m Q ⟨_, _, _, _, rfl, _⟩; rfl
theorem S_law_right_len : ∀ as m Q, S_law_right as m Q → as.length = 1 := by rintro as m Q ⟨_, rfl, _⟩; rfl
end K18
namespace K18
open PySem L2 G
open T hiding ckOk
open K24 hiding S_law_right S_law_right_len S_law_web S_law_web_len
theorem Rch.trans {W : List (Nat × Nat)} {a b c : Nat} (h : Rch W a b) (k : Rch W b c) : Rch W a c := by
  induction k with
  | refl => exact h
  | step _ e ih => exact .step ih e
theorem Rch.one {W : List (Nat × Nat)} {w : Nat × Nat} (h : w ∈ W) : Rch W w.1 w.2 := .step .refl h
theorem mem_getD {W : List (Nat × Nat)} {k : Nat} (h : k < W.length) : (stt W k, enn W k) ∈ W := by
  unfold stt enn
  rw [List.getD_eq_getElem?_getD, List.getElem?_eq_getElem h]
  exact List.getElem_mem h
theorem ix_of {W : List (Nat × Nat)} {w : Nat × Nat} (h : w ∈ W) : ∃ k, k < W.length ∧ stt W k = w.1 ∧ enn W k = w.2 := by
  obtain ⟨k, hk, e⟩ := List.getElem_of_mem h
  refine ⟨k, hk, ?_, ?_⟩
  · unfold stt; rw [List.getD_eq_getElem?_getD, List.getElem?_eq_getElem hk]; exact congrArg _ e
  · unfold enn; rw [List.getD_eq_getElem?_getD, List.getElem?_eq_getElem hk]; exact congrArg _ e
theorem cnt_mono {α : Type} {f g : α → Bool} : ∀ (l : List α), (∀ x ∈ l, f x = true → g x = true) → l.countP f ≤ l.countP g
  | [], _ => Nat.le_refl _
  | x :: l, h => by
    have ih := cnt_mono l fun y hy => h y (List.mem_cons_of_mem _ hy)
    rw [List.countP_cons, List.countP_cons]
    by_cases hf : f x = true
    · rw [if_pos hf, if_pos (h x (by simp) hf)]; omega
    · rw [if_neg hf]; omega
theorem cnt_lt {α : Type} {f g : α → Bool} : ∀ (l : List α), (∀ x ∈ l, f x = true → g x = true) → (∃ x ∈ l, g x = true ∧ f x = false) → l.countP f < l.countP g
  | [], _, ⟨_, hx, _⟩ => by cases hx
  | x :: l, h, ⟨y, hy, hg, hf⟩ => by
    have hm : ∀ y ∈ l, f y = true → g y = true := fun y hy => h y (List.mem_cons_of_mem _ hy)
    rw [List.countP_cons, List.countP_cons]
    rcases List.mem_cons.mp hy with e | e
    · subst e
      have := cnt_mono l hm
      rw [if_pos hg, if_neg (by rw [hf]; exact Bool.false_ne_true)]; omega
    · have := cnt_lt l hm ⟨y, e, hg, hf⟩
      by_cases hx : f x = true
      · rw [if_pos hx, if_pos (h x (by simp) hx)]; omega
      · rw [if_neg hx]; omega
open Classical in
theorem back_ring {W : List (Nat × Nat)} {l : List Nat} (hne : l ≠ []) (h : ∀ p ∈ l, ∃ w ∈ W, w.2 = p ∧ w.1 ∈ l) : ∃ k, k < W.length ∧ InRing W k := by
  refine Classical.byContradiction fun no => ?_
  have key : ∀ n, ∃ p ∈ l, n ≤ l.countP fun q => decide (Rch W p q) := by
    intro n
    induction n with
    | zero =>
      obtain ⟨p, hp⟩ := List.exists_mem_of_ne_nil l hne
      exact ⟨p, hp, Nat.zero_le _⟩
    | succ n ih =>
      obtain ⟨p, hp, hn⟩ := ih
      obtain ⟨w, hw, rfl, hl⟩ := h p hp
      refine ⟨w.1, hl, ?_⟩
      have : (l.countP fun q => decide (Rch W w.2 q)) < l.countP fun q => decide (Rch W w.1 q) := by
        refine cnt_lt l (fun q _ hq => ?_) ⟨w.1, hl, decide_eq_true .refl, decide_eq_false fun z => ?_⟩
        · exact decide_eq_true ((Rch.one hw).trans (of_decide_eq_true hq))
        · obtain ⟨k, hk, e1, e2⟩ := ix_of hw
          exact no ⟨k, hk, by unfold InRing; rw [e1, e2]; exact z⟩
      omega
  obtain ⟨p, _, hp⟩ := key (l.length + 1)
  have := List.countP_le_length (l := l) (p := fun q => decide (Rch W p q))
  omega
theorem mem_freeP {W : List (Nat × Nat)} {l : List Nat} {p : Nat} : p ∈ freeP W l ↔ p ∈ l ∧ ∀ w ∈ W, w.2 = p → w.1 ∉ l := by
  unfold freeP
  rw [List.mem_filter]
  simp only [Bool.not_eq_true', List.any_eq_false, Bool.and_eq_true, decide_eq_true_eq, not_and]
theorem out_len {l : List Nat} {c : Nat} (nd : l.Nodup) (h : c ∈ l) : (l.filter fun p => decide (p ≠ c)).length + 1 = l.length := by
  induction l with
  | nil => cases h
  | cons a l ih =>
    obtain ⟨h1, h2⟩ := List.nodup_cons.mp nd
    by_cases e : a = c
    · subst e
      have : (l.filter fun p => decide (p ≠ a)) = l := List.filter_eq_self.mpr fun x hx => decide_eq_true fun z => h1 (z ▸ hx)
      rw [List.filter_cons_of_neg (by simp), this, List.length_cons]
    · rw [List.filter_cons_of_pos (by simpa using e), List.length_cons, ih h2 (by simpa [Ne.symm e] using h), List.length_cons]
theorem out_nd {l : List Nat} {c : Nat} (nd : l.Nodup) : (l.filter fun p => decide (p ≠ c)).Nodup := nd.sublist List.filter_sublist
theorem mem_out {l : List Nat} {c p : Nat} : p ∈ (l.filter fun p => decide (p ≠ c)) ↔ p ∈ l ∧ p ≠ c := by
  rw [List.mem_filter, decide_eq_true_eq]
theorem fo_pos {W : List (Nat × Nat)} : ∀ (n : Nat) (l R : List Nat), fo W n l = some R → l.length = n → l.Nodup → ∃ f : Nat → Nat, ∀ w ∈ W, w.1 ∈ l → w.2 ∈ l → f w.1 < f w.2
  | 0, l, R, _, hl, _ => ⟨fun _ => 0, fun w _ h => by
    have : l = [] := List.length_eq_zero_iff.mp hl
    rw [this] at h; cases h⟩
  | n + 1, l, R, h, hl, nd => by
    unfold fo at h
    cases hf : freeP W l with
    | nil => rw [hf] at h; cases h
    | cons c cs =>
      rw [hf] at h
      have h : (fo W n (l.filter fun p => decide (p ≠ c))).map (c :: ·) = some R := h
      have hc : c ∈ freeP W l := by rw [hf]; simp
      obtain ⟨hcl, hcf⟩ := mem_freeP.mp hc
      cases hr : fo W n (l.filter fun p => decide (p ≠ c)) with
      | none => rw [hr] at h; cases h
      | some R' =>
        have hl' := out_len nd hcl
        obtain ⟨f, hfp⟩ := fo_pos n _ R' hr (by omega) (out_nd nd)
        refine ⟨fun p => if p = c then 0 else f p + 1, fun w hw h1 h2 => ?_⟩
        have n2 : w.2 ≠ c := fun e => hcf w hw e h1
        show (if w.1 = c then 0 else f w.1 + 1) < (if w.2 = c then 0 else f w.2 + 1)
        rw [if_neg n2]
        by_cases n1 : w.1 = c
        · rw [if_pos n1]; omega
        · rw [if_neg n1]
          have := hfp w hw (mem_out.mpr ⟨h1, n1⟩) (mem_out.mpr ⟨h2, n2⟩)
          omega
theorem fo_none {W : List (Nat × Nat)} : ∀ (n : Nat) (l : List Nat), fo W n l = none → l.length = n → l.Nodup → ∃ l' : List Nat, l' ≠ [] ∧ ∀ p ∈ l', ∃ w ∈ W, w.2 = p ∧ w.1 ∈ l'
  | 0, l, h, _, _ => by cases h
  | n + 1, l, h, hl, nd => by
    unfold fo at h
    cases hf : freeP W l with
    | nil =>
      refine ⟨l, fun e => ?_, fun p hp => ?_⟩
      · rw [e] at hl; cases hl
      · refine Classical.byContradiction fun no => ?_
        have : p ∈ freeP W l := mem_freeP.mpr ⟨hp, fun w hw e z => no ⟨w, hw, e, z⟩⟩
        rw [hf] at this; cases this
    | cons c cs =>
      rw [hf] at h
      have h : (fo W n (l.filter fun p => decide (p ≠ c))).map (c :: ·) = none := h
      have hc : c ∈ freeP W l := by rw [hf]; simp
      obtain ⟨hcl, hcf⟩ := mem_freeP.mp hc
      cases hr : fo W n (l.filter fun p => decide (p ≠ c)) with
      | none => exact fo_none n _ hr (by have := out_len nd hcl; omega) (out_nd nd)
      | some R' => rw [hr] at h; cases h
theorem fo_iff {W : List (Nat × Nat)} {P : List Nat} (nd : P.Nodup) (hW : ∀ w ∈ W, w.1 ∈ P ∧ w.2 ∈ P) : (fo W P.length P).isSome = true ↔ ¬ ∃ k, k < W.length ∧ InRing W k := by
  constructor
  · intro h
    rintro ⟨k, hk, hr⟩
    obtain ⟨R, hR⟩ := Option.isSome_iff_exists.mp h
    obtain ⟨f, hf⟩ := fo_pos _ _ R hR rfl nd
    have mono : ∀ a b, Rch W a b → f a ≤ f b := fun a b hab => by
      induction hab with
      | refl => exact Nat.le_refl _
      | step _ e ih => exact Nat.le_trans ih (Nat.le_of_lt (hf _ e (hW _ e).1 (hW _ e).2))
    have h1 := mono _ _ hr
    have hm := mem_getD hk
    have h2 := hf _ hm (hW _ hm).1 (hW _ hm).2
    exact absurd h1 (by simp only at h2; omega)
  · intro h
    cases hf : fo W P.length P with
    | some R => rfl
    | none =>
      obtain ⟨l', h1, h2⟩ := fo_none _ _ hf rfl nd
      exact absurd (back_ring h1 h2) h
theorem chain_eq {W : List (Nat × Nat)} : ∀ {l : List Nat} {a b : Nat}, Chain W a l b → a :: l.map (enn W) = l.map (stt W) ++ [b]
  | [], a, b, h => by
    have h : a = b := h
    rw [h]; rfl
  | i :: l, a, b, ⟨_, e, h⟩ => by
    have := chain_eq h
    rw [List.map_cons, this, List.map_cons, e]; rfl
theorem chain_lt {W : List (Nat × Nat)} : ∀ {l : List Nat} {a b : Nat}, Chain W a l b → ∀ i ∈ l, i < W.length
  | [], _, _, _, i, h => by cases h
  | j :: l, a, b, ⟨h1, _, h⟩, i, hi => by
    rcases List.mem_cons.mp hi with e | e
    · rw [e]; exact h1
    · exact chain_lt h i e
theorem chain_snoc {W : List (Nat × Nat)} : ∀ {l : List Nat} {a b : Nat} {k : Nat}, Chain W a l b → k < W.length → stt W k = b → Chain W a (l ++ [k]) (enn W k)
  | [], a, b, k, h, hk, e => by
    have h : a = b := h
    exact ⟨hk, by rw [e, h], rfl⟩
  | i :: l, a, b, k, ⟨h1, h2, h⟩, hk, e => ⟨h1, h2, chain_snoc h hk e⟩
theorem ring_of {W : List (Nat × Nat)} {k : Nat} {l : List Nat} (hk : k < W.length) (h : Path W (enn W k) l (stt W k)) : Ring W k (srt (l ++ [k])) := by
  obtain ⟨hc, nd⟩ := h
  have e := chain_eq hc
  have nd2 : ((l ++ [k]).map (stt W)).Nodup := by rw [List.map_append]; exact nd
  have nd3 : (l ++ [k]).Nodup := (List.pairwise_map.mp nd2).imp fun h e => h (by rw [e])
  refine ⟨⟨srt_inc nd3, fun i hi => ?_⟩, ⟨l ++ [k], ⟨by simp, nd2, ?_⟩, (srt_perm _).symm⟩, (srt_perm _).mem_iff.mpr (by simp)⟩
  · have := (srt_perm _).mem_iff.mp hi
    rcases List.mem_append.mp this with z | z
    · exact chain_lt hc i z
    · rw [List.mem_singleton.mp z]; exact hk
  · rw [List.map_append, List.map_append]
    show l.map (enn W) ++ [enn W k] = (l.map (stt W) ++ [stt W k]).tail ++ (l.map (stt W) ++ [stt W k]).take 1
    rw [← e]; rfl
end K18
namespace SH
open PySem L2 G T
def sb (p q a : Nat) : Nat := if a = q then p else a
def mgT (T : List (Nat × Nat)) (p q : Nat) : List (Nat × Nat) := T.map fun e => (min (sb p q e.1) (sb p q e.2), max (sb p q e.1) (sb p q e.2))
def mgP (P : List Nat) (q : Nat) : List Nat := P.filter fun a => decide (a ≠ q)
theorem mg_ok {P : List Nat} {T : List (Nat × Nat)} {p q : Nat} (h : WbOk P T) (hp : p ∈ P) (hne : p ≠ q) : WbOk (mgP P q) (mgT T p q) := by
  have hp' : p ∈ mgP P q := List.mem_filter.mpr ⟨hp, decide_eq_true hne⟩
  have hs : ∀ a ∈ P, sb p q a ∈ mgP P q := fun a ha => by
    unfold sb
    by_cases e : a = q
    · rw [if_pos e]; exact hp'
    · rw [if_neg e]; exact List.mem_filter.mpr ⟨ha, decide_eq_true e⟩
  refine ⟨⟨h.pl.inc.filter _, fun a ha => h.pl.let8 a (List.mem_filter.mp ha).1, List.length_pos_iff.mpr fun z => (by rw [z] at hp'; cases hp'), Nat.le_trans (List.length_filter_le _ _) h.pl.few⟩, ?_, fun e he => ?_⟩
  · unfold mgT; rw [List.length_map]; exact h.few
  · obtain ⟨e0, he0, rfl⟩ := List.mem_map.mp he
    obtain ⟨h1, h2, _⟩ := h.ties e0 he0
    exact tie_mk (hs _ h1) (hs _ h2)
theorem repl1 (q : Nat) (z : Str) : ∀ l : List Nat, StrLaws.replL [q] z.cps.toList l = l.flatMap fun a => if a = q then z.cps.toList else [a]
  | [] => StrLaws.replL_nil
  | a :: r => by
    have ih := repl1 q z r
    rw [List.flatMap_cons]
    by_cases e : a = q
    · rw [if_pos e, StrLaws.replL_hit (by simp) (by rw [e]; rfl)]
      show _ ++ StrLaws.replL [q] z.cps.toList r = _
      rw [ih]
    · rw [if_neg e, StrLaws.replL_miss (by intro h; simp at h; exact e h), ih]
      rfl
theorem str_ext {x y : Str} (h : x.cps.toList = y.cps.toList) : x = y := by
  cases x; cases y
  simp at h
  rw [h]
theorem repl_tie (e : Nat × Nat) (p q : Nat) : Txt.replace (tS e) (c1 q) (c1 p) = tS (sb p q e.1, sb p q e.2) := by
  refine str_ext ?_
  rw [StrLaws.replace_list (show 1 ≤ (c1 q).length from Nat.le_refl 1)]
  have := repl1 q (c1 p) [e.1, e.2]
  show StrLaws.replL [q] (c1 p).cps.toList [e.1, e.2] = _
  rw [this]
  unfold sb
  by_cases h1 : e.1 = q <;> by_cases h2 : e.2 = q <;> simp [h1, h2, c1, tS]
theorem repl_pl (P : List Nat) (q : Nat) : Txt.replace (plS P) (c1 q) (Str.ofString "") = plS (mgP P q) := by
  refine str_ext ?_
  rw [StrLaws.replace_list (show 1 ≤ (c1 q).length from Nat.le_refl 1)]
  have h0 : (Str.ofString "").cps.toList = [] := by decide +kernel
  show StrLaws.replL [q] (Str.ofString "").cps.toList (plS P).cps.toList = (mgP P q)
  rw [repl1, h0]
  show P.flatMap _ = P.filter _
  induction P with
  | nil => rfl
  | cons a r ih =>
    rw [List.flatMap_cons, List.filter_cons, ih]
    by_cases e : a = q
    · rw [if_pos e, if_neg (by simp [e])]; rfl
    · rw [if_neg e, if_pos (by simp [e])]; rfl
theorem sb_id {p q a : Nat} (h : a ≠ q) : sb p q a = a := if_neg h
theorem sb_q (p q : Nat) : sb p q q = p := if_pos rfl
theorem con_mm {E : List (Nat × Nat)} {a b : Nat} (h : (min a b, max a b) ∈ E) : Conn E a b := by
  have c : Conn E (min a b) (max a b) := .tie h
  rcases Nat.le_total a b with l | l
  · rw [Nat.min_eq_left l, Nat.max_eq_right l] at c; exact c
  · rw [Nat.min_eq_right l, Nat.max_eq_left l] at c; exact c.symm
theorem con_sb (E : List (Nat × Nat)) (p q a : Nat) : Conn ((p, q) :: E) (sb p q a) a := by
  by_cases e : a = q
  · rw [e, sb_q]; exact .tie (List.mem_cons_self ..)
  · rw [sb_id e]; exact .refl a
theorem con_mg {S : List (Nat × Nat)} {p q a b : Nat} : Conn (mgT S p q) (sb p q a) (sb p q b) ↔ Conn ((p, q) :: S) a b := by
  constructor
  · intro c
    have m : Conn ((p, q) :: S) (sb p q a) (sb p q b) := c.mono fun t ht => by
      obtain ⟨e, he, rfl⟩ := List.mem_map.mp ht
      have ce : Conn ((p, q) :: S) (sb p q e.1) (sb p q e.2) := ((con_sb S p q e.1).trans (.tie (List.mem_cons_of_mem _ he))).trans (con_sb S p q e.2).symm
      show Conn _ (min _ _) (max _ _)
      rcases Nat.le_total (sb p q e.1) (sb p q e.2) with l | l
      · rw [Nat.min_eq_left l, Nat.max_eq_right l]; exact ce
      · rw [Nat.min_eq_right l, Nat.max_eq_left l]; exact ce.symm
    exact ((con_sb S p q a).symm.trans m).trans (con_sb S p q b)
  · intro c
    induction c with
    | refl a => exact .refl _
    | symm _ ih => exact ih.symm
    | trans _ _ i1 i2 => exact i1.trans i2
    | @tie t m =>
      rcases List.mem_cons.mp m with e | e
      · subst e
        show Conn _ (sb p q p) (sb p q q)
        have h1 : sb p q p = p := by unfold sb; split <;> simp
        rw [sb_q, h1]; exact .refl _
      · exact con_mm (List.mem_map.mpr ⟨t, e, rfl⟩)
theorem mem_mgP {P : List Nat} {q a : Nat} : a ∈ mgP P q ↔ a ∈ P ∧ a ≠ q := by unfold mgP; rw [List.mem_filter, decide_eq_true_eq]
theorem mgP_nd {P : List Nat} {q : Nat} (nd : P.Nodup) : (mgP P q).Nodup := nd.filter _
theorem sb_in {P : List Nat} {p q a : Nat} (hp : p ∈ P) (hne : p ≠ q) (ha : a ∈ P) : sb p q a ∈ mgP P q := by
  by_cases e : a = q
  · rw [e, sb_q]; exact mem_mgP.mpr ⟨hp, hne⟩
  · rw [sb_id e]; exact mem_mgP.mpr ⟨ha, e⟩
noncomputable def rep (P : List Nat) (E : List (Nat × Nat)) (a : Nat) : Nat := by
  classical exact if h : ∃ l, l ∈ leasts P E ∧ Conn E a l then h.choose else 0
theorem rep_spec {P : List Nat} {E : List (Nat × Nat)} {a : Nat} (h : a ∈ P) : rep P E a ∈ leasts P E ∧ Conn E a (rep P E a) := by
  have ex : ∃ l, l ∈ leasts P E ∧ Conn E a l := by
    obtain ⟨l, h1, h2⟩ := least_of (P := P) (E := E) a a (Nat.le_refl _) h
    exact ⟨l, h1, h2⟩
  unfold rep
  rw [dif_pos ex]
  exact ex.choose_spec
theorem nc_mg {P : List Nat} {S : List (Nat × Nat)} {p q : Nat} (nd : P.Nodup) (hp : p ∈ P) (hne : p ≠ q) : nc (mgP P q) (mgT S p q) = nc P ((p, q) :: S) := by
  have key := nc_of (P := P) (E := (p, q) :: S) nd (fun a => rep (mgP P q) (mgT S p q) (sb p q a)) (fun a ha b hb => ?_) (leasts_nd (E := mgT S p q) (mgP_nd (q := q) nd)) fun x => ?_
  · exact key
  · have ra := rep_spec (E := mgT S p q) (sb_in hp hne ha)
    have rb := rep_spec (E := mgT S p q) (sb_in hp hne hb)
    constructor
    · intro e
      exact con_mg.mp (ra.2.trans (e ▸ rb.2.symm))
    · intro c
      exact least_one ra.1 rb.1 ((ra.2.symm.trans (con_mg.mpr c)).trans rb.2)
  · constructor
    · intro hx
      have hx' := (mem_leasts.mp hx).1
      obtain ⟨x1, x2⟩ := mem_mgP.mp hx'
      refine ⟨x, x1, ?_⟩
      show rep _ _ (sb p q x) = x
      rw [sb_id x2]
      have rx := rep_spec (E := mgT S p q) hx'
      exact (least_one hx rx.1 rx.2).symm
    · rintro ⟨a, ha, rfl⟩
      exact (rep_spec (sb_in hp hne ha)).1
section
variable {P : List Nat} {T : List (Nat × Nat)} (hW : WbOk P T) {k : Nat} {e : Nat × Nat} (hk : T[k]? = some e)
include hW hk
end
end SH
namespace SH
open PySem L2 G T
end SH
namespace K19
open PySem L2 G
open T hiding ckOk
open K18 (Rch InRing stt enn)
open SH (sb)
def Ac (W : List (Nat × Nat)) : Prop := ∀ w ∈ W, ¬ Rch W w.2 w.1
def Cy (W : List (Nat × Nat)) : Prop := ∀ w ∈ W, Rch W w.2 w.1
theorem rch_trans {W : List (Nat × Nat)} {a b c : Nat} (h : Rch W a b) (k : Rch W b c) : Rch W a c := K18.Rch.trans h k
theorem rch_mono {W V : List (Nat × Nat)} (h : ∀ w ∈ W, w ∈ V) {a b : Nat} (r : Rch W a b) : Rch V a b := by
  induction r with
  | refl => exact .refl
  | step _ m ih => exact .step ih (h _ m)
theorem rch_add {W : List (Nat × Nat)} {u v a b : Nat} : Rch (W ++ [(u, v)]) a b ↔ Rch W a b ∨ (Rch W a u ∧ Rch W v b) := by
  constructor
  · intro r
    induction r with
    | refl => exact .inl .refl
    | @step b c _ m ih =>
      rcases List.mem_append.mp m with m | m
      · rcases ih with h | ⟨h1, h2⟩
        · exact .inl (.step h m)
        · exact .inr ⟨h1, .step h2 m⟩
      · rw [List.mem_singleton] at m
        injection m with e1 e2
        subst e1 e2
        rcases ih with h | ⟨h1, _⟩
        · exact .inr ⟨h, .refl⟩
        · exact .inr ⟨h1, .refl⟩
  · rintro (h | ⟨h1, h2⟩)
    · exact rch_mono (fun w hw => List.mem_append_left _ hw) h
    · exact rch_trans (.step (rch_mono (fun w hw => List.mem_append_left _ hw) h1) (List.mem_append_right _ (List.mem_singleton_self _))) (rch_mono (fun w hw => List.mem_append_left _ hw) h2)
def shW (u v : Nat) (W : List (Nat × Nat)) : List (Nat × Nat) := W.map fun w => (sb u v w.1, sb u v w.2)
theorem sb_cases (u v a : Nat) : (a = v ∧ sb u v a = u) ∨ (a ≠ v ∧ sb u v a = a) := by
  unfold sb
  by_cases h : a = v
  · exact .inl ⟨h, if_pos h⟩
  · exact .inr ⟨h, if_neg h⟩
theorem sb_eq {u v a b : Nat} (h : sb u v a = sb u v b) : a = b ∨ ((a = u ∨ a = v) ∧ (b = u ∨ b = v)) := by
  rcases sb_cases u v a with ⟨h1, h2⟩ | ⟨h1, h2⟩ <;> rcases sb_cases u v b with ⟨h3, h4⟩ | ⟨h3, h4⟩
  · exact .inl (h1.trans h3.symm)
  · rw [h2, h4] at h; exact .inr ⟨.inr h1, .inl h.symm⟩
  · rw [h2, h4] at h; exact .inr ⟨.inl h, .inr h3⟩
  · rw [h2, h4] at h; exact .inl h
def Ux (W : List (Nat × Nat)) (u v a : Nat) : Prop := Rch W a u ∨ Rch W a v
def Vx (W : List (Nat × Nat)) (u v b : Nat) : Prop := Rch W u b ∨ Rch W v b
theorem rch_shut {W : List (Nat × Nat)} {u v a b : Nat} : Rch (shW u v W) (sb u v a) (sb u v b) ↔ Rch W a b ∨ (Ux W u v a ∧ Vx W u v b) := by
  constructor
  · suffices H : ∀ x, Rch (shW u v W) (sb u v a) x → ∀ b, sb u v b = x → Rch W a b ∨ (Ux W u v a ∧ Vx W u v b) from fun r => H _ r b rfl
    intro x r
    induction r with
    | refl =>
      intro b e
      rcases sb_eq e with e | ⟨h1, h2⟩
      · subst e; exact .inl .refl
      · refine .inr ⟨?_, ?_⟩
        · rcases h2 with e | e <;> subst e
          · exact .inl .refl
          · exact .inr .refl
        · rcases h1 with e | e <;> subst e
          · exact .inl .refl
          · exact .inr .refl
    | @step y z _ m ih =>
      intro b e
      obtain ⟨w, hw, e2⟩ := List.mem_map.mp m
      injection e2 with e3 e4
      have key : Rch W a w.2 ∨ (Ux W u v a ∧ Vx W u v w.2) := by
        rcases ih w.1 e3 with h | ⟨h1, h2⟩
        · exact .inl (.step h hw)
        · exact .inr ⟨h1, h2.elim (fun h => .inl (.step h hw)) fun h => .inr (.step h hw)⟩
      rcases sb_eq (e.trans e4.symm) with e5 | ⟨h1, h2⟩
      · subst e5; exact key
      · refine .inr ⟨?_, ?_⟩
        · rcases key with k | ⟨k, _⟩
          · rcases h2 with e | e
            · rw [e] at k; exact .inl k
            · rw [e] at k; exact .inr k
          · exact k
        · rcases h1 with e | e <;> subst e
          · exact .inl .refl
          · exact .inr .refl
  · have up : ∀ {a b}, Rch W a b → Rch (shW u v W) (sb u v a) (sb u v b) := fun r => by
      induction r with
      | refl => exact .refl
      | step _ m ih => exact .step ih (List.mem_map.mpr ⟨_, m, rfl⟩)
    have eu : sb u v u = u := by rcases sb_cases u v u with ⟨_, h⟩ | ⟨_, h⟩ <;> exact h
    have ev : sb u v v = u := if_pos rfl
    rintro (h | ⟨h1, h2⟩)
    · exact up h
    · have l1 : Rch (shW u v W) (sb u v a) u := by
        rcases h1 with h | h
        · have := up h; rw [eu] at this; exact this
        · have := up h; rw [ev] at this; exact this
      have l2 : Rch (shW u v W) u (sb u v b) := by
        rcases h2 with h | h
        · have := up h; rw [eu] at this; exact this
        · have := up h; rw [ev] at this; exact this
      exact rch_trans l1 l2
theorem ac_shut {W : List (Nat × Nat)} {u v : Nat} (hn : u ≠ v) : Ac (shW u v W) ↔ Ac W ∧ ¬ Rch W u v ∧ ¬ Rch W v u := by
  have mem : Ac (shW u v W) ↔ ∀ w ∈ W, ¬ (Rch W w.2 w.1 ∨ (Ux W u v w.2 ∧ Vx W u v w.1)) := by
    unfold Ac
    constructor
    · intro h w hw z
      exact h (sb u v w.1, sb u v w.2) (List.mem_map.mpr ⟨w, hw, rfl⟩) (rch_shut.mpr z)
    · rintro h w hw z
      obtain ⟨w0, hw0, rfl⟩ := List.mem_map.mp hw
      exact h w0 hw0 (rch_shut.mp z)
  rw [mem]
  have last : ∀ {a b : Nat}, Rch W a b → a ≠ b → ∃ w ∈ W, w.2 = b ∧ Rch W a w.1 := fun r hne => by
    cases r with
    | refl => exact absurd rfl hne
    | step r m => exact ⟨_, m, rfl, r⟩
  constructor
  · intro h
    refine ⟨fun w hw r => h w hw (.inl r), fun r => ?_, fun r => ?_⟩
    · obtain ⟨w, hw, e, r2⟩ := last r hn
      exact h w hw (.inr ⟨.inr (e ▸ .refl), .inl r2⟩)
    · obtain ⟨w, hw, e, r2⟩ := last r hn.symm
      exact h w hw (.inr ⟨.inl (e ▸ .refl), .inr r2⟩)
  · rintro ⟨h1, h2, h3⟩ w hw (r | ⟨x, y⟩)
    · exact h1 w hw r
    · have st : Rch W w.1 w.2 := .step .refl hw
      rcases x with x | x <;> rcases y with y | y
      · exact h1 w hw (rch_trans x y)
      · exact h3 (rch_trans y (rch_trans st x))
      · exact h2 (rch_trans y (rch_trans st x))
      · exact h1 w hw (rch_trans x y)
theorem ac_add {W : List (Nat × Nat)} {u v : Nat} : Ac (W ++ [(u, v)]) ↔ Ac W ∧ ¬ Rch W v u := by
  unfold Ac
  constructor
  · intro h
    exact ⟨fun w hw r => h w (List.mem_append_left _ hw) (rch_add.mpr (.inl r)), fun r => h (u, v) (by simp) (rch_add.mpr (.inl r))⟩
  · rintro ⟨h1, h2⟩ w hw r
    rcases List.mem_append.mp hw with hw | hw
    · rcases rch_add.mp r with r | ⟨r1, r2⟩
      · exact h1 w hw r
      · exact h2 (rch_trans r2 (rch_trans (Rch.step Rch.refl hw) r1))
    · rw [List.mem_singleton] at hw
      subst hw
      rcases rch_add.mp r with r | ⟨r1, _⟩
      · exact h2 r
      · exact h2 r1
theorem cy_shut {W : List (Nat × Nat)} {u v : Nat} : Cy (shW u v W) ↔ ∀ w ∈ W, Rch W w.2 w.1 ∨ (Ux W u v w.2 ∧ Vx W u v w.1) := by
  unfold Cy
  constructor
  · intro h w hw
    exact rch_shut.mp (h (sb u v w.1, sb u v w.2) (List.mem_map.mpr ⟨w, hw, rfl⟩))
  · intro h w hw
    obtain ⟨w0, hw0, rfl⟩ := List.mem_map.mp hw
    exact rch_shut.mpr (h w0 hw0)
theorem cy_add {W : List (Nat × Nat)} {u v : Nat} : Cy (W ++ [(u, v)]) ↔ Cy (shW u v W) ∧ Rch W v u := by
  rw [cy_shut]
  unfold Cy
  constructor
  · intro h
    have h0 : Rch W v u := by
      rcases rch_add.mp (h (u, v) (by simp)) with r | ⟨r, _⟩ <;> exact r
    refine ⟨fun w hw => ?_, h0⟩
    rcases rch_add.mp (h w (List.mem_append_left _ hw)) with r | ⟨r1, r2⟩
    · exact .inl r
    · exact .inr ⟨.inl r1, .inr r2⟩
  · rintro ⟨h, h0⟩ w hw
    rcases List.mem_append.mp hw with hw | hw
    · rcases h w hw with r | ⟨x, y⟩
      · exact rch_add.mpr (.inl r)
      · have x' : Rch W w.2 u := x.elim id fun x => rch_trans x h0
        have y' : Rch W v w.1 := y.elim (fun y => rch_trans h0 y) id
        exact rch_add.mpr (.inr ⟨x', y'⟩)
    · rw [List.mem_singleton] at hw
      subst hw
      exact rch_add.mpr (.inl h0)
theorem cy_back {W : List (Nat × Nat)} (h : Cy W) {a b : Nat} (r : Rch W a b) : Rch W b a := by
  induction r with
  | refl => exact .refl
  | step _ m ih => exact rch_trans (h _ m) ih
theorem cy_conn {W : List (Nat × Nat)} (h : Cy W) {a b : Nat} (c : Conn W a b) : Rch W a b := by
  induction c with
  | refl => exact .refl
  | tie m => exact .step .refl m
  | symm _ ih => exact cy_back h ih
  | trans _ _ i1 i2 => exact rch_trans i1 i2
theorem rch_conn {W : List (Nat × Nat)} {a b : Nat} (r : Rch W a b) : Conn W a b := by
  induction r with
  | refl => exact .refl _
  | step _ m ih => exact ih.trans (.tie m)
theorem cy_both {W : List (Nat × Nat)} {u v : Nat} (c : Conn W u v) : Cy W ↔ Cy (shW u v W) ∧ Rch W u v ∧ Rch W v u := by
  constructor
  · intro h
    have h1 := cy_conn h c
    have h2 := cy_back h h1
    exact ⟨cy_shut.mpr fun w hw => .inl (h w hw), h1, h2⟩
  · rintro ⟨h, h1, h2⟩ w hw
    rcases cy_shut.mp h w hw with r | ⟨x, y⟩
    · exact r
    · have x' : Rch W w.2 u := x.elim id fun x => rch_trans x h2
      have y' : Rch W u w.1 := y.elim id fun y => rch_trans h1 y
      exact rch_trans x' y'
theorem cy_one {W : List (Nat × Nat)} {u v : Nat} (h : Cy (shW u v W)) (c : Conn W u v) : Rch W u v ∨ Rch W v u := by
  by_cases h1 : Rch W u v
  · exact .inl h1
  by_cases h2 : Rch W v u
  · exact .inr h2
  exfalso
  have cl : ∀ w ∈ W, Rch W u w.2 → Rch W u w.1 := fun w hw r => by
    rcases cy_shut.mp h w hw with q | ⟨x, y⟩
    · exact rch_trans r q
    · rcases y with y | y
      · exact y
      · have st : Rch W w.1 w.2 := .step .refl hw
        rcases x with x | x
        · exact absurd (rch_trans y (rch_trans st x)) h2
        · exact absurd (rch_trans r x) h1
  have : ∀ {a b}, Conn W a b → (Rch W u a ↔ Rch W u b) := fun c => by
    induction c with
    | refl => exact Iff.rfl
    | tie m => exact ⟨fun r => .step r m, fun r => cl _ m r⟩
    | symm _ ih => exact ih.symm
    | trans _ _ i1 i2 => exact i1.trans i2
  exact h1 ((this c).mp .refl)
end K19
namespace K19
open PySem L2 G
open T hiding ckOk
open K18 (Rch InRing stt enn)
open SH (sb)
def Src (W : List (Nat × Nat)) (x : Nat) : Prop := ∀ w ∈ W, w.2 ≠ x
def Uq (P : List Nat) (W : List (Nat × Nat)) (p : Nat) : Prop := ∀ x ∈ P, Src W x ↔ x = p
def Gd (P : List Nat) (W : List (Nat × Nat)) (p : Nat) : Prop := Ac W ∧ Uq P W p
theorem src_rch {W : List (Nat × Nat)} {a x : Nat} (h : Src W x) (r : Rch W a x) : a = x := by
  cases r with
  | refl => rfl
  | step _ m => exact absurd rfl (h _ m)
theorem src_add {W : List (Nat × Nat)} {u v x : Nat} : Src (W ++ [(u, v)]) x ↔ Src W x ∧ x ≠ v := by
  unfold Src
  constructor
  · intro h
    exact ⟨fun w hw => h w (List.mem_append_left _ hw), fun e => h (u, v) (by simp) e.symm⟩
  · rintro ⟨h1, h2⟩ w hw
    rcases List.mem_append.mp hw with hw | hw
    · exact h1 w hw
    · rw [List.mem_singleton] at hw; subst hw; exact fun e => h2 e.symm
theorem src_shut {W : List (Nat × Nat)} {u v x : Nat} (hx : x ≠ v) : Src (shW u v W) x ↔ if x = u then Src W u ∧ Src W v else Src W x := by
  have key : Src (shW u v W) x ↔ ∀ w ∈ W, sb u v w.2 ≠ x := by
    unfold Src shW
    constructor
    · intro h w hw
      exact h _ (List.mem_map.mpr ⟨w, hw, rfl⟩)
    · intro h w hw
      obtain ⟨w0, hw0, rfl⟩ := List.mem_map.mp hw
      exact h w0 hw0
  rw [key]
  by_cases e : x = u
  · subst e
    rw [if_pos rfl]
    constructor
    · intro h
      refine ⟨fun w hw z => h w hw ?_, fun w hw z => h w hw ?_⟩
      · rcases sb_cases x v w.2 with ⟨_, q⟩ | ⟨_, q⟩
        · exact q
        · rw [q]; exact z
      · rw [z]; exact if_pos rfl
    · rintro ⟨h1, h2⟩ w hw z
      rcases sb_cases x v w.2 with ⟨q1, q⟩ | ⟨_, q⟩
      · exact h2 w hw q1
      · exact h1 w hw (q ▸ z)
  · rw [if_neg e]
    constructor
    · intro h w hw z
      refine h w hw ?_
      rcases sb_cases u v w.2 with ⟨q1, q⟩ | ⟨_, q⟩
      · exact absurd (z.symm.trans q1) hx
      · rw [q]; exact z
    · intro h w hw z
      rcases sb_cases u v w.2 with ⟨q1, q⟩ | ⟨_, q⟩
      · exact e (z.symm.trans q)
      · exact h w hw (q ▸ z)
theorem front_all {P : List Nat} {W : List (Nat × Nat)} {p : Nat} (hW : ∀ w ∈ W, w.1 ∈ P ∧ w.2 ∈ P) (h : Gd P W p) : ∀ x ∈ P, Rch W p x := by
  classical
  intro x hx
  refine Classical.byContradiction fun nx => ?_
  have hl : x ∈ P.filter fun y => decide (¬ Rch W p y) := List.mem_filter.mpr ⟨hx, decide_eq_true nx⟩
  obtain ⟨k, hk, hr⟩ := K18.back_ring (W := W) (l := P.filter fun y => decide (¬ Rch W p y)) (List.ne_nil_of_mem hl) fun y hy => by
    obtain ⟨y1, y2⟩ := List.mem_filter.mp hy
    have y2 := of_decide_eq_true y2
    have ns : ¬ Src W y := fun z => y2 (((h.2 y y1).mp z) ▸ .refl)
    unfold Src at ns
    obtain ⟨w, hw⟩ := Classical.not_forall.mp ns
    obtain ⟨w1, w2⟩ := Classical.not_imp.mp hw
    have w2 := Classical.not_not.mp w2
    exact ⟨w, w1, w2, List.mem_filter.mpr ⟨(hW w w1).1, decide_eq_true fun z => y2 (w2 ▸ .step z w1)⟩⟩
  exact h.1 _ (K18.mem_getD hk) hr
end K19
namespace K19
open PySem L2 G
open T hiding ckOk
open K18 (Rch InRing stt enn)
open SH (sb mgP)
open K24 (way ways)
open Classical in
noncomputable def iv (p : Prop) : Nat := if p then 1 else 0
theorem iv_t {p : Prop} (h : p) : iv p = 1 := if_pos h
theorem iv_f {p : Prop} (h : ¬ p) : iv p = 0 := if_neg h
theorem iv_eq {p q : Prop} (h : p ↔ q) : iv p = iv q := by rw [propext h]
theorem ac_one {W : List (Nat × Nat)} {u v : Nat} (hn : u ≠ v) (h : Ac W) : ¬ (Rch W u v ∧ Rch W v u) := by
  rintro ⟨a, b⟩
  cases a with
  | refl => exact hn rfl
  | step r m => exact h _ m (rch_trans b r)
theorem ac_law {A a b : Prop} (h : A → ¬ (a ∧ b)) : iv (A ∧ ¬ b) + iv (A ∧ ¬ a) = iv A + iv (A ∧ ¬ a ∧ ¬ b) := by
  by_cases h1 : A <;> by_cases h2 : a <;> by_cases h3 : b <;> simp_all [iv]
theorem ac_sum {W : List (Nat × Nat)} {u v : Nat} (hn : u ≠ v) : iv (Ac (W ++ [(u, v)])) + iv (Ac (W ++ [(v, u)])) = iv (Ac W) + iv (Ac (shW u v W)) := by
  rw [iv_eq ac_add, iv_eq ac_add, iv_eq (ac_shut hn)]
  exact ac_law fun h => ac_one hn h
theorem ac_br {W : List (Nat × Nat)} {u v : Nat} (hn : u ≠ v) (nc : ¬ Conn W u v) : iv (Ac (W ++ [(u, v)])) + iv (Ac (W ++ [(v, u)])) = 2 * iv (Ac (shW u v W)) := by
  have h : Ac W ↔ Ac (shW u v W) := by
    rw [ac_shut hn]
    exact ⟨fun h => ⟨h, fun r => nc (rch_conn r), fun r => nc (rch_conn r).symm⟩, fun h => h.1⟩
  rw [ac_sum hn, iv_eq h]; omega
theorem ac_loop {W : List (Nat × Nat)} {u : Nat} : ¬ Ac (W ++ [(u, u)]) := fun h => (ac_add.mp h).2 .refl
theorem cy_sw {W : List (Nat × Nat)} {u v : Nat} : Cy (shW v u W) ↔ Cy (shW u v W) := by
  rw [cy_shut, cy_shut]
  constructor
  · intro h w hw
    exact (h w hw).imp id fun ⟨x, y⟩ => ⟨x.symm, y.symm⟩
  · intro h w hw
    exact (h w hw).imp id fun ⟨x, y⟩ => ⟨x.symm, y.symm⟩
theorem cy_law {C a b : Prop} (h : C → a ∨ b) : iv (C ∧ b) + iv (C ∧ a) = iv (C ∧ a ∧ b) + iv C := by
  by_cases h1 : C <;> by_cases h2 : a <;> by_cases h3 : b <;> simp_all [iv]
theorem cy_sum {W : List (Nat × Nat)} {u v : Nat} (c : Conn W u v) : iv (Cy (W ++ [(u, v)])) + iv (Cy (W ++ [(v, u)])) = iv (Cy W) + iv (Cy (shW u v W)) := by
  rw [iv_eq cy_add, iv_eq cy_add, iv_eq (cy_both c)]
  have e : iv (Cy (shW v u W) ∧ Rch W u v) = iv (Cy (shW u v W) ∧ Rch W u v) := iv_eq (and_congr_left fun _ => cy_sw)
  rw [e]
  exact cy_law fun h => cy_one h c
theorem cy_br {W : List (Nat × Nat)} {u v : Nat} (nc : ¬ Conn W u v) : iv (Cy (W ++ [(u, v)])) + iv (Cy (W ++ [(v, u)])) = 0 := by
  rw [iv_f fun h => nc (rch_conn (cy_add.mp h).2).symm, iv_f fun h => nc (rch_conn (cy_add.mp h).2)]
theorem sh_loop {W : List (Nat × Nat)} {u : Nat} : shW u u W = W := by
  have e : ∀ a, sb u u a = a := fun a => by
    rcases sb_cases u u a with ⟨h1, h2⟩ | ⟨_, h⟩
    · rw [h2, h1]
    · exact h
  unfold shW
  conv => rhs; rw [← List.map_id W]
  exact List.map_congr_left fun w _ => by rw [e, e]; rfl
theorem cy_loop {W : List (Nat × Nat)} {u : Nat} : Cy (W ++ [(u, u)]) ↔ Cy W := by
  rw [cy_add, sh_loop]
  exact ⟨fun h => h.1, fun h => ⟨h, .refl⟩⟩
def Oth (P : List Nat) (W : List (Nat × Nat)) (u v p : Nat) : Prop := ∀ x ∈ P, x ≠ u → x ≠ v → (Src W x ↔ x = p)
theorem split_uv {P : List Nat} {F : Nat → Prop} {u v : Nat} (hu : u ∈ P) (hv : v ∈ P) : (∀ x ∈ P, F x) ↔ (∀ x ∈ P, x ≠ u → x ≠ v → F x) ∧ F u ∧ F v := by
  constructor
  · intro h
    exact ⟨fun x hx _ _ => h x hx, h u hu, h v hv⟩
  · rintro ⟨h1, h2, h3⟩ x hx
    by_cases a : x = u
    · rw [a]; exact h2
    by_cases b : x = v
    · rw [b]; exact h3
    exact h1 x hx a b
theorem split_u {P : List Nat} {F : Nat → Prop} {u v : Nat} (hu : u ∈ P) (hn : u ≠ v) : (∀ x ∈ mgP P v, F x) ↔ (∀ x ∈ P, x ≠ u → x ≠ v → F x) ∧ F u := by
  constructor
  · intro h
    exact ⟨fun x hx _ hv => h x (SH.mem_mgP.mpr ⟨hx, hv⟩), h u (SH.mem_mgP.mpr ⟨hu, hn⟩)⟩
  · rintro ⟨h1, h2⟩ x hx
    obtain ⟨hx, hv⟩ := SH.mem_mgP.mp hx
    by_cases a : x = u
    · rw [a]; exact h2
    exact h1 x hx a hv
theorem gd_law {A O s t a b pu pv : Prop} (h1 : s → ¬ b) (h2 : t → ¬ a) (h3 : A → ¬ (a ∧ b)) (h4 : ¬ (pu ∧ pv)) :
    iv ((A ∧ ¬ b) ∧ O ∧ (s ↔ pu) ∧ ¬ pv) + iv ((A ∧ ¬ a) ∧ O ∧ ¬ pu ∧ (t ↔ pv)) = iv (A ∧ O ∧ (s ↔ pu) ∧ (t ↔ pv)) + iv ((A ∧ ¬ a ∧ ¬ b) ∧ O ∧ (s ∧ t ↔ pu ∨ pv)) := by
  by_cases hA : A
  · by_cases hO : O
    · by_cases x1 : s <;> by_cases x2 : t <;> by_cases x3 : a <;> by_cases x4 : b <;> by_cases x5 : pu <;> by_cases x6 : pv <;> simp_all [iv]
    · simp [iv, hO]
  · simp [iv, hA]
theorem gd_sum {P : List Nat} {W : List (Nat × Nat)} {u v p : Nat} (hn : u ≠ v) (hu : u ∈ P) (hv : v ∈ P) :
    iv (Gd P (W ++ [(u, v)]) p) + iv (Gd P (W ++ [(v, u)]) p) = iv (Gd P W p) + iv (Gd (mgP P v) (shW u v W) (sb u v p)) := by
  have e1 : Gd P (W ++ [(u, v)]) p ↔ (Ac W ∧ ¬ Rch W v u) ∧ Oth P W u v p ∧ (Src W u ↔ u = p) ∧ ¬ (v = p) := by
    unfold Gd Uq
    rw [ac_add, split_uv hu hv]
    refine and_congr_right fun _ => and_congr ?_ (and_congr ?_ ?_)
    · refine forall_congr' fun x => forall_congr' fun _ => forall_congr' fun _ => forall_congr' fun xv => ?_
      rw [src_add]; exact ⟨fun h => ⟨fun s => h.mp ⟨s, xv⟩, fun e => (h.mpr e).1⟩, fun h => ⟨fun s => h.mp s.1, fun e => ⟨h.mpr e, xv⟩⟩⟩
    · rw [src_add]; exact ⟨fun h => ⟨fun s => h.mp ⟨s, hn⟩, fun e => (h.mpr e).1⟩, fun h => ⟨fun s => h.mp s.1, fun e => ⟨h.mpr e, hn⟩⟩⟩
    · rw [src_add]; exact ⟨fun h e => (h.mpr e).2 rfl, fun h => ⟨fun s => absurd rfl s.2, fun e => absurd e h⟩⟩
  have e2 : Gd P (W ++ [(v, u)]) p ↔ (Ac W ∧ ¬ Rch W u v) ∧ Oth P W u v p ∧ ¬ (u = p) ∧ (Src W v ↔ v = p) := by
    unfold Gd Uq
    rw [ac_add, split_uv hu hv]
    refine and_congr_right fun _ => and_congr ?_ (and_congr ?_ ?_)
    · refine forall_congr' fun x => forall_congr' fun _ => forall_congr' fun xu => forall_congr' fun _ => ?_
      rw [src_add]; exact ⟨fun h => ⟨fun s => h.mp ⟨s, xu⟩, fun e => (h.mpr e).1⟩, fun h => ⟨fun s => h.mp s.1, fun e => ⟨h.mpr e, xu⟩⟩⟩
    · rw [src_add]; exact ⟨fun h e => (h.mpr e).2 rfl, fun h => ⟨fun s => absurd rfl s.2, fun e => absurd e h⟩⟩
    · rw [src_add]; exact ⟨fun h => ⟨fun s => h.mp ⟨s, hn.symm⟩, fun e => (h.mpr e).1⟩, fun h => ⟨fun s => h.mp s.1, fun e => ⟨h.mpr e, hn.symm⟩⟩⟩
  have e3 : Gd P W p ↔ Ac W ∧ Oth P W u v p ∧ (Src W u ↔ u = p) ∧ (Src W v ↔ v = p) := by
    unfold Gd Uq
    rw [split_uv hu hv]; exact Iff.rfl
  have e4 : Gd (mgP P v) (shW u v W) (sb u v p) ↔ (Ac W ∧ ¬ Rch W u v ∧ ¬ Rch W v u) ∧ Oth P W u v p ∧ (Src W u ∧ Src W v ↔ u = p ∨ v = p) := by
    unfold Gd Uq
    rw [ac_shut hn, split_u hu hn]
    refine and_congr_right fun _ => and_congr ?_ ?_
    · refine forall_congr' fun x => forall_congr' fun _ => forall_congr' fun xu => forall_congr' fun xv => ?_
      rw [src_shut xv, if_neg xu]
      have : x = sb u v p ↔ x = p := by
        rcases sb_cases u v p with ⟨h1, h2⟩ | ⟨_, h⟩
        · rw [h2, h1]; exact ⟨fun e => absurd e xu, fun e => absurd e xv⟩
        · rw [h]
      rw [this]
    · rw [src_shut hn, if_pos rfl]
      have : u = sb u v p ↔ u = p ∨ v = p := by
        rcases sb_cases u v p with ⟨h1, h2⟩ | ⟨h1, h⟩
        · rw [h2]; exact ⟨fun _ => .inr h1.symm, fun _ => rfl⟩
        · rw [h]; exact ⟨.inl, fun z => z.elim id fun e => absurd e.symm h1⟩
      rw [this]
  rw [iv_eq e1, iv_eq e2, iv_eq e3, iv_eq e4]
  refine gd_law (fun s r => hn ((src_rch s r).symm)) (fun t r => hn (src_rch t r)) (fun h => ac_one hn h) ?_
  rintro ⟨a, b⟩
  exact hn (a.trans b.symm)
theorem gd_none {P : List Nat} {W : List (Nat × Nat)} {u v p : Nat} (hW : ∀ w ∈ W, w.1 ∈ P ∧ w.2 ∈ P) (hu : u ∈ P) (hv : v ∈ P) (nc : ¬ Conn W u v) : ¬ Gd P W p := fun h =>
  nc ((rch_conn (front_all hW h u hu)).symm.trans (rch_conn (front_all hW h v hv)))
def alls : Nat → List (List Bool)
  | 0 => [[]]
  | n + 1 => (alls n).flatMap fun L => [L ++ [true], L ++ [false]]
theorem mem_alls : ∀ {n : Nat} {L : List Bool}, L ∈ alls n ↔ L.length = n
  | 0, L => by simp [alls]
  | n + 1, L => by
    show L ∈ (alls n).flatMap _ ↔ _
    rw [List.mem_flatMap]
    constructor
    · rintro ⟨M, hM, h⟩
      rw [mem_alls] at hM
      simp only [List.mem_cons, List.not_mem_nil, or_false] at h
      rcases h with rfl | rfl <;> simp [hM]
    · intro h
      have hne : L ≠ [] := fun e => by rw [e] at h; cases h
      refine ⟨L.dropLast, mem_alls.mpr (by rw [List.length_dropLast]; omega), ?_⟩
      have e := List.dropLast_concat_getLast hne
      cases z : L.getLast hne with
      | true => rw [z] at e; simp [e]
      | false => rw [z] at e; simp [e]
noncomputable def cn (n : Nat) (f : List Bool → Prop) : Nat := ((alls n).map fun L => iv (f L)).sum
theorem cn_zero (f : List Bool → Prop) : cn 0 f = iv (f []) := by simp [cn, alls]
theorem sum_two {α : Type} (g h : α → Nat) : ∀ l : List α, (l.map g).sum + (l.map h).sum = (l.map fun x => g x + h x).sum
  | [] => rfl
  | x :: l => by
    have := sum_two g h l
    simp only [List.map_cons, List.sum_cons]; omega
theorem cn_succ (n : Nat) (f : List Bool → Prop) : cn (n + 1) f = ((alls n).map fun L => iv (f (L ++ [true])) + iv (f (L ++ [false]))).sum := by
  have key : ∀ l : List (List Bool), (((l.flatMap fun L => [L ++ [true], L ++ [false]])).map fun L => iv (f L)).sum = (l.map fun L => iv (f (L ++ [true])) + iv (f (L ++ [false]))).sum := fun l => by
    induction l with
    | nil => rfl
    | cons x l ih =>
      simp only [List.flatMap_cons, List.map_append, List.sum_append, ih, List.map_cons, List.sum_cons, List.map_nil, List.sum_nil]
      omega
  exact key (alls n)
theorem sum_cong {α : Type} {g h : α → Nat} {l : List α} (e : ∀ x ∈ l, g x = h x) : (l.map g).sum = (l.map h).sum := by rw [List.map_congr_left e]
noncomputable def N (X : List (Nat × Nat) → Prop) (T : List (Nat × Nat)) : Nat := cn T.length fun L => X (ways T L)
theorem ways_snoc : ∀ {T : List (Nat × Nat)} {L : List Bool} (e : Nat × Nat) (b : Bool), L.length = T.length → ways (T ++ [e]) (L ++ [b]) = ways T L ++ [way e b] := fun e b h => by
  unfold ways
  rw [List.zipWith_append (by omega)]; rfl
theorem ways_shut (u v : Nat) : ∀ (T : List (Nat × Nat)) (L : List Bool), ways (shW u v T) L = shW u v (ways T L)
  | [], _ => rfl
  | _ :: _, [] => rfl
  | e :: T, b :: L => by
    have := ways_shut u v T L
    unfold ways shW at *
    simp only [List.map_cons, List.zipWith_cons_cons, this]
    cases b <;> rfl
theorem shW_len (u v : Nat) (T : List (Nat × Nat)) : (shW u v T).length = T.length := List.length_map _
theorem ways_con : ∀ {T : List (Nat × Nat)} {L : List Bool}, L.length = T.length → (∀ w ∈ ways T L, (w.1, w.2) ∈ T ∨ (w.2, w.1) ∈ T) ∧ (∀ e ∈ T, (e.1, e.2) ∈ ways T L ∨ (e.2, e.1) ∈ ways T L)
  | [], [], _ => ⟨fun w hw => (nomatch hw), fun w hw => (nomatch hw)⟩
  | e :: T, b :: L, h => by
    obtain ⟨h1, h2⟩ := ways_con (T := T) (L := L) (by simpa using h)
    have ew : ways (e :: T) (b :: L) = way e b :: ways T L := rfl
    rw [ew]
    constructor
    · intro w hw
      rcases List.mem_cons.mp hw with rfl | hw
      · cases b
        · exact .inr List.mem_cons_self
        · exact .inl List.mem_cons_self
      · exact (h1 w hw).imp (List.mem_cons_of_mem _) (List.mem_cons_of_mem _)
    · intro x hx
      rcases List.mem_cons.mp hx with rfl | hx
      · cases b
        · exact .inr List.mem_cons_self
        · exact .inl List.mem_cons_self
      · exact (h2 x hx).imp (List.mem_cons_of_mem _) (List.mem_cons_of_mem _)
theorem con_ways {T : List (Nat × Nat)} {L : List Bool} (h : L.length = T.length) {a b : Nat} : Conn (ways T L) a b ↔ Conn T a b := by
  obtain ⟨h1, h2⟩ := ways_con h
  constructor
  · exact fun c => c.mono fun w hw => (h1 w hw).elim .tie fun m => (Conn.tie m).symm
  · exact fun c => c.mono fun w hw => (h2 w hw).elim .tie fun m => (Conn.tie m).symm
theorem ways_ok {P : List Nat} {T : List (Nat × Nat)} {L : List Bool} (h : L.length = T.length) (ok : Ok P T) : ∀ w ∈ ways T L, w.1 ∈ P ∧ w.2 ∈ P := fun w hw => by
  rcases (ways_con h).1 w hw with m | m
  · exact ok _ m
  · exact (ok _ m).symm
theorem N_nil (X : List (Nat × Nat) → Prop) : N X [] = iv (X []) := cn_zero _
theorem N_snoc (X : List (Nat × Nat) → Prop) (T : List (Nat × Nat)) (e : Nat × Nat) : N X (T ++ [e]) = ((alls T.length).map fun L => iv (X (ways T L ++ [(e.1, e.2)])) + iv (X (ways T L ++ [(e.2, e.1)]))).sum := by
  unfold N
  rw [List.length_append, List.length_singleton, cn_succ]
  refine sum_cong fun L hL => ?_
  rw [mem_alls] at hL
  rw [ways_snoc e true hL, ways_snoc e false hL]; rfl
theorem N_shut (X : List (Nat × Nat) → Prop) (T : List (Nat × Nat)) (u v : Nat) : N X (shW u v T) = ((alls T.length).map fun L => iv (X (shW u v (ways T L)))).sum := by
  unfold N cn
  rw [shW_len]
  refine sum_cong fun L _ => ?_
  show iv (X (ways (shW u v T) L)) = _
  rw [ways_shut]
theorem N_two {X Y Z : List (Nat × Nat) → Prop} {T : List (Nat × Nat)} {u v : Nat}
    (h : ∀ L, L.length = T.length → iv (X (ways T L ++ [(u, v)])) + iv (X (ways T L ++ [(v, u)])) = iv (Y (ways T L)) + iv (Z (shW u v (ways T L)))) : N X (T ++ [(u, v)]) = N Y T + N Z (shW u v T) := by
  rw [N_snoc, N_shut]
  show _ = ((alls T.length).map fun L => iv (Y (ways T L))).sum + _
  rw [sum_two]
  exact sum_cong fun L hL => h L (mem_alls.mp hL)
theorem N_f {X : List (Nat × Nat) → Prop} {T : List (Nat × Nat)} (h : ∀ L, L.length = T.length → ¬ X (ways T L)) : N X T = 0 := by
  unfold N cn
  have : ∀ l : List (List Bool), (∀ L ∈ l, L.length = T.length) → (l.map fun L => iv (X (ways T L))).sum = 0 := fun l => by
    induction l with
    | nil => intro _; rfl
    | cons x l ih =>
      intro hl
      rw [List.map_cons, List.sum_cons, iv_f (h x (hl x (by simp))), ih fun L hL => hl L (List.mem_cons_of_mem _ hL)]
  exact this _ fun L hL => mem_alls.mp hL
def Tv (P : List Nat) (T : List (Nat × Nat)) (x y v : Nat) : Prop :=
  (x = 2 ∧ y = 0 ∧ v = N Ac T) ∨ (x = 0 ∧ y = 2 ∧ v = N Cy T) ∨ (x = 1 ∧ y = 0 ∧ nc P T = 1 ∧ ∃ p ∈ P, v = N (fun W => Gd P W p) T)
theorem con_shW {S : List (Nat × Nat)} {p q a b : Nat} : Conn (shW p q S) a b ↔ Conn (SH.mgT S p q) a b := by
  constructor
  · refine fun c => c.mono fun w hw => ?_
    obtain ⟨e, he, rfl⟩ := List.mem_map.mp hw
    exact SH.con_mm (List.mem_map.mpr ⟨e, he, rfl⟩)
  · refine fun c => c.mono fun w hw => ?_
    obtain ⟨e, he, rfl⟩ := List.mem_map.mp hw
    have hm : (sb p q e.1, sb p q e.2) ∈ shW p q S := List.mem_map.mpr ⟨e, he, rfl⟩
    show Conn _ (min (sb p q e.1) (sb p q e.2)) (max (sb p q e.1) (sb p q e.2))
    rcases Nat.le_total (sb p q e.1) (sb p q e.2) with h | h
    · rw [Nat.min_eq_left h, Nat.max_eq_right h]; exact .tie hm
    · rw [Nat.min_eq_right h, Nat.max_eq_left h]; exact (Conn.tie hm).symm
theorem con_rot {S : List (Nat × Nat)} {e : Nat × Nat} {a b : Nat} : Conn (e :: S) a b ↔ Conn (S ++ [e]) a b :=
  ⟨fun c => c.sub fun p hp => by simp at hp ⊢; exact hp.symm, fun c => c.sub fun p hp => by simp at hp ⊢; exact hp.symm⟩
theorem nc_shW {P : List Nat} {S : List (Nat × Nat)} {p q : Nat} (nd : P.Nodup) (hp : p ∈ P) (hne : p ≠ q) : nc (mgP P q) (shW p q S) = nc P (S ++ [(p, q)]) := by
  rw [nc_congr fun a b => con_shW, SH.nc_mg nd hp hne, nc_congr fun a b => con_rot]
theorem shW_ok {P : List Nat} {S : List (Nat × Nat)} {p q : Nat} (ok : Ok P S) (hp : p ∈ P) (hne : p ≠ q) : Ok (mgP P q) (shW p q S) := fun w hw => by
  obtain ⟨e, he, rfl⟩ := List.mem_map.mp hw
  exact ⟨SH.sb_in hp hne (ok e he).1, SH.sb_in hp hne (ok e he).2⟩
theorem Tv.nil {P : List Nat} (nd : P.Nodup) {x y v : Nat} (h : Tv P [] x y v) : v = 1 := by
  rcases h with ⟨_, _, rfl⟩ | ⟨_, _, rfl⟩ | ⟨_, _, h1, p, hp, rfl⟩
  · rw [N_nil]; exact iv_t fun w hw => nomatch hw
  · rw [N_nil]; exact iv_t fun w hw => nomatch hw
  · rw [N_nil]
    refine iv_t ⟨fun w hw => (nomatch hw), fun x hx => ⟨fun _ => ?_, fun _ w hw => (nomatch hw)⟩⟩
    rw [nc_nil] at h1
    obtain ⟨a, e⟩ := List.length_eq_one_iff.mp h1
    rw [e] at hp hx
    rw [List.mem_singleton.mp hp, List.mem_singleton.mp hx]
theorem Tv.loop {P : List Nat} {T : List (Nat × Nat)} {u : Nat} {x y v : Nat} (h : Tv P (T ++ [(u, u)]) x y v) : ∃ w, Tv P T x y w ∧ v = y * w := by
  rcases h with ⟨rfl, rfl, rfl⟩ | ⟨rfl, rfl, rfl⟩ | ⟨rfl, rfl, h1, p, hp, rfl⟩
  · refine ⟨_, .inl ⟨rfl, rfl, rfl⟩, ?_⟩
    rw [N_two (Y := fun _ => False) (Z := fun _ => False) fun L _ => ?_, N_f fun _ _ => id, N_f fun _ _ => id, Nat.zero_mul]
    rw [iv_f ac_loop]; simp [iv]
  · refine ⟨_, .inr (.inl ⟨rfl, rfl, rfl⟩), ?_⟩
    rw [N_two (Y := Cy) (Z := Cy) fun L _ => ?_, sh_loop]
    · omega
    · rw [iv_eq cy_loop, sh_loop]
  · refine ⟨_, .inr (.inr ⟨rfl, rfl, ?_, p, hp, rfl⟩), ?_⟩
    · rw [← h1]
      exact (nc_congr fun a b => conn_skip (.refl _)).symm
    · rw [N_two (Y := fun _ => False) (Z := fun _ => False) fun L _ => ?_, N_f fun _ _ => id, N_f fun _ _ => id, Nat.zero_mul]
      rw [iv_f fun h => ac_loop h.1]; simp [iv]
theorem Tv.bridge {P : List Nat} {T : List (Nat × Nat)} {a b : Nat} {x y v : Nat} (nd : P.Nodup) (ok : Ok P T) (ha : a ∈ P) (hb : b ∈ P) (hn : a ≠ b) (nc : ¬ Conn T a b) (h : Tv P (T ++ [(a, b)]) x y v) :
    ∃ w, Tv (mgP P b) (shW a b T) x y w ∧ v = x * w := by
  have ncw : ∀ L, L.length = T.length → ¬ Conn (ways T L) a b := fun L hL c => nc ((con_ways hL).mp c)
  rcases h with ⟨rfl, rfl, rfl⟩ | ⟨rfl, rfl, rfl⟩ | ⟨rfl, rfl, h1, p, hp, rfl⟩
  · refine ⟨_, .inl ⟨rfl, rfl, rfl⟩, ?_⟩
    rw [N_two (Y := fun W => Ac (shW a b W)) (Z := Ac) fun L hL => ?_]
    · rw [N_shut]
      show ((alls T.length).map fun L => iv (Ac (shW a b (ways T L)))).sum + _ = _
      omega
    · rw [ac_br hn (ncw L hL)]; omega
  · refine ⟨_, .inr (.inl ⟨rfl, rfl, rfl⟩), ?_⟩
    rw [N_two (Y := fun _ => False) (Z := fun _ => False) fun L hL => ?_, N_f fun _ _ => id, N_f fun _ _ => id, Nat.zero_mul]
    rw [cy_br (ncw L hL)]; simp [iv]
  · refine ⟨_, .inr (.inr ⟨rfl, rfl, ?_, sb a b p, SH.sb_in ha hn hp, rfl⟩), ?_⟩
    · rw [nc_shW nd ha hn]; exact h1
    · rw [N_two (Y := fun _ => False) (Z := fun W => Gd (mgP P b) W (sb a b p)) fun L hL => ?_, N_f fun _ _ => id]
      · omega
      · rw [gd_sum hn ha hb, iv_f (gd_none (ways_ok hL ok) ha hb (ncw L hL))]; simp [iv]
theorem Tv.both {P : List Nat} {T : List (Nat × Nat)} {a b : Nat} {x y v : Nat} (nd : P.Nodup) (ok : Ok P T) (ha : a ∈ P) (hb : b ∈ P) (hn : a ≠ b) (c : Conn T a b) (h : Tv P (T ++ [(a, b)]) x y v) :
    ∃ w z, Tv P T x y w ∧ Tv (mgP P b) (shW a b T) x y z ∧ v = w + z := by
  rcases h with ⟨rfl, rfl, rfl⟩ | ⟨rfl, rfl, rfl⟩ | ⟨rfl, rfl, h1, p, hp, rfl⟩
  · exact ⟨_, _, .inl ⟨rfl, rfl, rfl⟩, .inl ⟨rfl, rfl, rfl⟩, N_two fun L hL => ac_sum hn⟩
  · exact ⟨_, _, .inr (.inl ⟨rfl, rfl, rfl⟩), .inr (.inl ⟨rfl, rfl, rfl⟩), N_two fun L hL => cy_sum ((con_ways hL).mpr c)⟩
  · refine ⟨_, _, .inr (.inr ⟨rfl, rfl, ?_, p, hp, rfl⟩), .inr (.inr ⟨rfl, rfl, ?_, sb a b p, SH.sb_in ha hn hp, rfl⟩), N_two (Z := fun W => Gd (mgP P b) W (sb a b p)) fun L hL => gd_sum hn ha hb⟩
    · rw [← h1]
      exact (nc_congr fun a b => conn_skip c).symm
    · rw [nc_shW nd ha hn]; exact h1
end K19
namespace K18
open PySem L2 G
open T hiding ckOk
open K24 hiding S_law_right S_law_right_len S_law_web S_law_web_len
def pm10 {α : Type} : List α → List α
  | [x0, x1] => [x1, x0]
  | l => l
def d_herd_lot : DS := (dRet (dCallB tupleD (dConsL (dNew (dLc (dIEnum (dTs (dVar 0))) (tgT (tgCons (tgN 2) (tgCons (tgN 3) tgNil)) 2) (dTest (dOp neD (dOp inD (dOp ixD (dVarB 3) (dC (.int 0))) (dVarB 1)) (dOp inD (dOp ixD (dVarB 3) (dC (.int 1))) (dVarB 1)))) (dVar 2) [2, 3])) dNilL)))
abbrev n_herd_lot : Nat := 4
def d_ways_of : DS := (dRet (dNew (dLc (dIZip (dTs (dVar 0)) (dVar 1)) (tgT (tgCons (tgN 2) (tgCons (tgN 3) tgNil)) 2) dYes (dIfE (dTest (dOp eqD (dVarB 3) (dC (.str "+")))) (dVar 2) (dRev (dVar 2))) [2, 3])))
abbrev n_ways_of : Nat := 4
def d_first_order : DS := (dSeq (dMix [2, 3, 4] (dConsA (dCall S_ways_of (dConsA (dVar 0) (dConsA (dVar 1) dNilA))) (dConsA (dPl (dVar 0)) (dConsA (dC (.str "")) dNilA))))
  (dSeq (dWhile (dTest (dOp neD (dVarB 3) (dC (.str "")))) (dTok 2 3 4 5))
  (dRet (dVar 4))))
abbrev n_first_order : Nat := 8
def d_has_no_ring : DS := (dRet (dOp notND (dCall S_first_order (dConsA (dVar 0) (dConsA (dVar 1) dNilA))) (dC .non)))
abbrev n_has_no_ring : Nat := 2
def d_ways_to : DS := (dSeq (dMix [3, 4, 5] (dConsA (dCall S_ways_of (dConsA (dVar 0) (dConsA (dVar 1) dNilA))) (dConsW (dDic1 (dVar 2) (dTup dNilL)) (dConsA (dNew (dLst (dConsL (dVar 2) dNilL))) dNilA))))
  (dSeq (dWhile (dTest (dOp neD (dVarB 5) (dNew (dLst dNilL)))) (dSeq (dAsgN 6 (dLst dNilL))
  (dSeq (dFor (dISrc (dVar 5)) (tgN 7) (dFor (dIEnum (dVar 3)) (tgT (tgCons (tgN 8) (tgCons (tgN 9) tgNil)) 2) (dIf (dAnd (dTest (dOp eqD (dOp ixD (dVarB 9) (dC (.int 0))) (dVarB 7))) (dTest (dOp dnotinD (dOp ixD (dVarB 9) (dC (.int 1))) (dVarB 4)))) (dSeq (dSetD 4 (dOp addD (dOp dixD (dVarB 4) (dVar 7)) (dTup (dConsL (dVar 8) dNilL))) (dOp ixD (dVarB 9) (dC (.int 1))))
  (dApp 6 (dOp ixD (dVarB 9) (dC (.int 1))))) dNext)))
  (dFreeze 6 (dAsg 5 (dVar 6))))))
  (dFreezeW 4 (dRet (dVar 4)))))
abbrev n_ways_to : Nat := 10
def d_told_ring_or_cut : DS := (dSeq (dAsgT (tgTS (tgCons (tgN 3) (tgCons (tgN 4) tgNil)) 2) (dOp ixD (dCall S_ways_of (dConsA (dVar 0) (dConsA (dVar 1) dNilA))) (dVarB 2)))
  (dSeq (dAsg 5 (dCall S_ways_to (dConsA (dVar 0) (dConsA (dVar 1) (dConsA (dVar 4) dNilA)))))
  (dSeq (dIf (dTest (dOp dinD (dVarB 3) (dVarB 5))) (dRet (dTup (dConsL (dC (.str "ring")) (dConsL (dCallB tupleD (dConsL (dNew (dCallN sortedTD (dConsL (dOp addD (dOp dixD (dVarB 5) (dVar 3)) (dTup (dConsL (dVar 2) dNilL))) dNilL))) dNilL)) dNilL)))) dNext)
  (dRet (dTup (dConsL (dC (.str "cut")) (dConsL (dCall S_herd_lot (dConsA (dVar 0) (dConsA (dNew (dLc (dISrc (dPl (dVar 0))) (tgN 6) (dTest (dOp dnotinD (dVarB 6) (dVarB 5))) (dVar 6) [6])) dNilA))) dNilL)))))))
abbrev n_told_ring_or_cut : Nat := 7
def d_is_all_rings : DS := (dRet (dCallB allD (dConsL (dNew (dLc (dISrc (dCall S_every_tie (dConsA (dVar 0) dNilA))) (tgN 2) dYes (dOp eqD (dOp ixD (dCall S_told_ring_or_cut (dConsA (dVar 0) (dConsA (dVar 1) (dConsA (dVar 2) dNilA)))) (dC (.int 0))) (dC (.str "ring"))) [2])) dNilL)))
abbrev n_is_all_rings : Nat := 3
def d_front_places : DS := (dSeq (dAsg 2 (dCall S_ways_of (dConsA (dVar 0) (dConsA (dVar 1) dNilA))))
  (dRet (dMt D.isS joinD (dC (.str "")) (dConsL (dNew (dLc (dISrc (dPl (dVar 0))) (tgN 3) (dNot (dTest (dCallB anyD (dConsL (dNew (dLc (dISrc (dVarB 2)) (tgN 4) dYes (dOp eqD (dOp ixD (dVarB 4) (dC (.int 1))) (dVarB 3)) [4])) dNilL)))) (dVar 3) [3])) dNilL))))
abbrev n_front_places : Nat := 5
def d_law_web : DS := (dSeq (dMix [3, 4] (dConsW (dNew (dCallN listD (dConsL (dC (.str "abcdefgh")) dNilL))) (dConsW (dNew (dLst dNilL)) dNilA)))
  (dSeq (dFor (dIRng (dOp addD (dC (.int 1)) (dCall S_law_take (dConsC 0 (dConsA (dVar 1) dNilA))))) (tgN 5) (dAppPop 4 3 (dCall S_law_take (dConsC 0 (dConsA (dCallB lenD0 (dConsL (dVarB 3) dNilL)) dNilA)))))
  (dSeq (dMix [6, 7] (dConsA (dMt D.isS joinD (dC (.str "")) (dConsL (dNew (dCallN sortedD (dConsL (dVarB 4) dNilL))) dNilL)) (dConsW (dNew (dLst dNilL)) dNilA)))
  (dSeq (dFor (dIRng (dCall S_law_take (dConsC 0 (dConsA (dOp addD (dVarB 2) (dC (.int 1))) dNilA)))) (tgN 5) (dSeq (dPar 8 9 (dConsL (dCall S_law_one (dConsC 0 (dConsA (dVar 6) dNilA))) (dConsL (dCall S_law_one (dConsC 0 (dConsA (dVar 6) dNilA))) dNilL)))
  (dSeq (dAsg 9 (dIfE (dAnd (dTest (dOp eqD (dVarB 8) (dVarB 9))) (dTest (dOp gtD (dCall S_law_take (dConsC 0 (dConsA (dC (.int 3)) dNilA))) (dC (.int 0))))) (dCall S_law_one (dConsC 0 (dConsA (dVar 6) dNilA))) (dVar 9)))
  (dApp 7 (dOp addD (dCallB minD2 (dConsL (dVarB 8) (dConsL (dVarB 9) dNilL))) (dCallB maxD2 (dConsL (dVarB 8) (dConsL (dVarB 9) dNilL))))))))
  (dRet (dTup (dConsL (dVar 6) (dConsL (dCallB tupleD (dConsL (dVarB 7) dNilL)) dNilL))))))))
abbrev n_law_web : Nat := 10
def d_law_reach : DS := (dSeq (dAsgN 2 (dLst (dConsL (dVar 1) dNilL)))
  (dSeq (dFor (dISrc (dVar 0)) (tgN 3) (dFor (dISrc (dVar 0)) (tgN 4) (dIf (dAnd (dTest (dOp inD (dOp ixD (dVarB 4) (dC (.int 0))) (dVarB 2))) (dTest (dOp notInD (dOp ixD (dVarB 4) (dC (.int 1))) (dVarB 2)))) (dApp 2 (dOp ixD (dVarB 4) (dC (.int 1)))) dNext)))
  (dRetO 2)))
abbrev n_law_reach : Nat := 5
def d_law_in_ring : DS := (dRet (dOp inD (dOp ixD (dOp ixD (dVarB 0) (dVarB 1)) (dC (.int 0))) (dCall S_law_reach (dConsA (dVar 0) (dConsA (dOp ixD (dOp ixD (dVarB 0) (dVarB 1)) (dC (.int 1))) dNilA)))))
abbrev n_law_in_ring : Nat := 2
def d_law_right : DS := (dSeq (dAsgT (tgT (tgCons (tgN 1) (tgCons (tgN 2) tgNil)) 2) (dCall S_law_web (dConsC 0 (dConsA (dC (.int 4)) (dConsA (dC (.int 6)) dNilA)))))
  (dSeq (dAsg 3 (dMake (dConsA (dVar 1) (dConsA (dVar 2) dNilA))))
  (dSeq (dFor (dIRng (dC (.int 3))) (tgN 4) (dSeq (dAsg 5 (dCall S_law_lean (dConsC 0 (dConsA (dVar 2) dNilA))))
  (dSeq (dAsg 6 (dCall S_law_ways (dConsA (dVar 2) (dConsA (dVar 5) dNilA))))
  (dSeq (dAsg 7 (dCallB tupleD (dConsL (dNew (dLc (dIRng (dCallB lenD0 (dConsL (dVarB 2) dNilL))) (tgN 13) (dTest (dOp eqD (dCall S_law_take (dConsC 0 (dConsA (dC (.int 2)) dNilA))) (dC (.int 0)))) (dVar 13) [13])) dNilL)))
  (dSeq (dIf (dTest (dOp neD (dCall S_arrows (dConsA (dVar 3) (dConsA (dVar 5) dNilA))) (dCallB tupleD (dConsL (dVarB 6) dNilL)))) (dRet (dC (.bl false))) dNext)
  (dSeq (dIf (dTest (dOp neD (dCall S_turned (dConsA (dVar 3) (dConsA (dVar 5) (dConsA (dVar 7) dNilA)))) (dCall S_law_flip (dConsA (dVar 5) (dConsA (dVar 7) dNilA))))) (dRet (dC (.bl false))) dNext)
  (dSeq (dAsg 8 (dNew (dLc (dIRng (dCallB lenD0 (dConsL (dVarB 6) dNilL))) (tgN 13) dYes (dCall S_law_in_ring (dConsA (dVar 6) (dConsA (dVar 13) dNilA))) [13])))
  (dSeq (dAsg 9 (dNew (dLc (dISrc (dVarB 6)) (tgN 14) dYes (dOp ixD (dVarB 14) (dC (.int 1))) [14])))
  (dSeq (dAsg 10 (dMt D.isS joinD (dC (.str "")) (dConsL (dNew (dLc (dISrc (dVarB 1)) (tgN 15) (dTest (dOp notInD (dVarB 15) (dVarB 9))) (dVar 15) [15])) dNilL)))
  (dSeq (dAsg 11 (dNew (dLst (dConsL (dOp notInD (dC (.bl true)) (dVarB 8)) (dConsL (dOp notInD (dC (.bl false)) (dVarB 8)) (dConsL (dVar 10) dNilL))))))
  (dSeq (dAsg 12 (dNew (dLst (dConsL (dCall S_is_ringless (dConsA (dVar 3) (dConsA (dVar 5) dNilA))) (dConsL (dCall S_is_ringed (dConsA (dVar 3) (dConsA (dVar 5) dNilA))) (dConsL (dCall S_fronts (dConsA (dVar 3) (dConsA (dVar 5) dNilA))) dNilL))))))
  (dSeq (dIf (dOr (dTest (dOp neD (dCallB reprND (dConsL (dVarB 12) dNilL)) (dCallB reprND (dConsL (dVarB 11) dNilL)))) (dTest (dOp neD (dCall S_order_of (dConsA (dVar 3) (dConsA (dVar 5) dNilA))) (dCall S_law_first_order (dConsA (dVar 1) (dConsA (dVar 6) dNilA)))))) (dRet (dC (.bl false))) dNext)
  (dSeq (dAsg 12 (dNew (dLst (dConsL (dCallK S_is_ringless pm10 (dConsA (dVar 5) (dConsA (dVar 3) dNilA))) (dConsL (dCallK S_is_ringed pm10 (dConsA (dVar 5) (dConsA (dVar 3) dNilA))) dNilL)))))
  (dSeq (dIf (dTest (dOp neD (dCallB reprND (dConsL (dOp addD (dVarB 12) (dNew (dLst (dConsL (dCallK S_fronts pm10 (dConsA (dVar 5) (dConsA (dVar 3) dNilA))) dNilL)))) dNilL)) (dCallB reprND (dConsL (dVarB 11) dNilL)))) (dRet (dC (.bl false))) dNext)
  (dIf (dNot (dTest (dCall S_law_ties_right (dConsA (dVar 3) (dConsA (dVar 1) (dConsA (dVar 6) (dConsA (dVar 5) dNilA))))))) (dRet (dC (.bl false))) dNext)))))))))))))))
  (dRet (dC (.bl true))))))
abbrev n_law_right : Nat := 16
end K18
namespace K18
open PySem L2 G
open T hiding ckOk
open K24 hiding S_law_right S_law_right_len S_law_web S_law_web_len
theorem law_law_web : ∀ as m Q, S_law_web as m Q → d_law_web (padn n_law_web as) m (fin Q) := by
  rintro as m Q ⟨hm, rfl, q⟩
  have el : listD [.str "abcdefgh"] = some ([97, 98, 99, 100, 101, 102, 103, 104].map cD) := by
    show (if (Str.ofString "abcdefgh").length ≤ LL then some (charsD (Str.ofString "abcdefgh")) else none) = _
    rw [letters_chars, if_pos (by decide +kernel)]
  refine ⟨_, el, by decide, rfl, ?_⟩
  refine ⟨_, rfl, .inl rfl, _, rfl, 4, by decide, by decide, by omega, rfl, fun d1 hd1 => ?_⟩
  refine ⟨_, rfl, ((1 + d1 : Nat) : Int), by show D.int (1 + (d1 : Int)) = _; congr 1, by omega, by omega, ?_⟩
  refine forR_ind (fun its env m' => ∃ (left found : List Nat) (x5 : Sl), m' = m + 1 + found.length ∧ found.length + its.length = 1 + d1 ∧ (left ++ found).Perm [97, 98, 99, 100, 101, 102, 103, 104] ∧ env = [.cask, .val (.int 4), .val (.int 6), .own (left.map cD), .own (found.map cD), x5, .no, .no, .no, .no]) ?_ ?_ _ _ _
    ⟨[97, 98, 99, 100, 101, 102, 103, 104], [], .no, rfl, ?_, by simp, rfl⟩
  · rintro env m' ⟨left, found, x5, rfl, hlen, hp, rfl⟩
    simp at hlen
    have hin : ∀ a ∈ found, 97 ≤ a ∧ a ≤ 104 := fun a ha => by
      have := hp.mem_iff.mp (List.mem_append_right left ha)
      simp at this
      omega
    have hnd : found.Nodup := by
      have : (left ++ found).Nodup := hp.nodup_iff.mpr (by decide)
      exact (List.nodup_append.mp this).2.1
    have hPl : PlOk (srt found) := ⟨srt_inc hnd, fun a ha => hin a ((srt_perm found).mem_iff.mp ha), by rw [(srt_perm found).length_eq]; omega, by rw [(srt_perm found).length_eq]; omega⟩
    have hpl := (srt_perm found).length_eq
    have hsrt := sorted_c1 (l := found) (by have := llv; omega) fun a ha => by have := hin a ha; omega
    generalize srt found = P at *
    have hL : P.length ≤ LL := Nat.le_trans hPl.few (by decide)
    have hne : P ≠ [] := List.length_pos_iff.mp hPl.pos
    refine ⟨rfl, _, rfl, P.map cD, ?_, .str (plS P), ?_, by decide, rfl, ?_⟩
    · exact hsrt
    · exact joinD_c1 P hL
    refine ⟨_, rfl, .inl rfl, _, rfl, .int 7, rfl, 7, by decide, by decide, by omega, rfl, fun d2 hd2 => ?_⟩
    refine ⟨(d2 : Nat), rfl, by omega, by omega, ?_⟩
    refine forR_ind (fun its env m' => ∃ (T : List (Nat × Nat)) (x5 x8 x9 : Sl), m' ≤ m + 20 + 5 * T.length ∧ T.length + its.length = d2 ∧ (∀ p ∈ T, p.1 ∈ P ∧ p.2 ∈ P ∧ p.1 ≤ p.2) ∧ env = [.cask, .val (.int 4), .val (.int 6), .own (left.map cD), .own (found.map cD), x5, .val (.str (plS P)), .own (T.map wayD), x8, x9]) ?_ ?_ _ _ _
      ⟨[], _, _, _, by omega, ?_, by simp, rfl⟩
    · rintro env m' ⟨T, x5, x8, x9, hm', hlen', hT, rfl⟩
      simp at hlen'
      refine ⟨_, rfl, _, rfl, _, rfl, (by decide : 2 ≤ LL), q P T m' ⟨hPl, by omega, hT⟩ (by omega) (by omega) (by omega)⟩
    · rintro d ds env m' ⟨T, x5, x8, x9, hm', hlen', hT, rfl⟩
      rw [List.length_cons] at hlen'
      refine ⟨_, rfl, fun K hK => ?_⟩
      have hP1000 : P.length < 1000 := by have := hPl.few; omega
      refine ⟨_, rfl, .inl rfl, _, rfl, .inl ⟨P, hne, hP1000, by omega, rfl, fun a ha => ?_⟩⟩
      refine ⟨_, rfl, .inl rfl, _, rfl, .inl ⟨P, hne, hP1000, by omega, rfl, fun b hb => ?_⟩⟩
      refine ⟨_, _, rfl, ?_⟩
      have fin' : ∀ (b' : Nat) (m2 : Nat), b' ∈ P → m2 ≤ m' + 4 → dApp 7 (dOp addD (dCallB minD2 (dConsL (dVarB 8) (dConsL (dVarB 9) dNilL))) (dCallB maxD2 (dConsL (dVarB 8) (dConsL (dVarB 9) dNilL))))
          [.cask, .val (.int 4), .val (.int 6), .own (left.map cD), .own (found.map cD), .val d, .val (.str (plS P)), .own (T.map wayD), .val (cD a), .val (cD b')] m2 { nx := K, rt := Q } := fun b' m2 hb' hm2 => by
        refine ⟨_, rfl, _, rfl, _, rfl, _, min_c a b', _, rfl, _, rfl, _, max_c a b', _, add_c1 _ _, by rw [List.length_map]; have := llv; omega, hK _ _ ⟨T ++ [(min a b', max a b')], .val d, .val (cD a), .val (cD b'), by rw [List.length_append, List.length_singleton]; omega, by rw [List.length_append, List.length_singleton]; omega, fun p hp => ?_, by rw [List.map_append]; rfl⟩⟩
        rcases List.mem_append.mp hp with hp | hp
        · exact hT p hp
        · rw [List.mem_singleton] at hp
          subst hp
          refine ⟨?_, ?_, by show min a b' ≤ max a b'; omega⟩
          · show min a b' ∈ P
            rcases Nat.le_total a b' with h | h
            · rw [Nat.min_eq_left h]; exact ha
            · rw [Nat.min_eq_right h]; exact hb'
          · show max a b' ∈ P
            rcases Nat.le_total a b' with h | h
            · rw [Nat.max_eq_right h]; exact hb'
            · rw [Nat.max_eq_left h]; exact ha
      refine ⟨_, rfl, _, rfl, _, eqD_str _ _, _, rfl, ?_⟩
      rw [c1_eq]
      by_cases hab : a = b
      · rw [decide_eq_true hab]
        refine ⟨_, rfl, .inl rfl, 3, by decide, by decide, by omega, rfl, fun d3 hd3 => ⟨_, rfl, _, rfl, ?_⟩⟩
        by_cases h3 : (0 : Int) < (d3 : Nat)
        · rw [decide_eq_true h3]
          exact ⟨_, rfl, .inl rfl, _, rfl, .inl ⟨P, hne, hP1000, by omega, rfl, fun b' hb' => fin' b' _ hb' (by omega)⟩⟩
        · rw [decide_eq_false h3]
          exact ⟨_, rfl, fin' b _ hb (by omega)⟩
      · rw [decide_eq_false hab]
        exact ⟨_, rfl, fin' b _ hb (by omega)⟩
    · rw [natD_map, List.length_map, List.length_range]; simp
  · rintro d ds env m' ⟨left, found, x5, rfl, hlen, hp, rfl⟩
    rw [List.length_cons] at hlen
    have hl8 := hp.length_eq
    simp at hl8
    refine ⟨_, rfl, fun K hK => ?_⟩
    refine ⟨_, _, rfl, rfl, by decide, _, rfl, .inl rfl, _, rfl, _, rfl, (left.length : Nat), by omega, by omega, by omega, by rw [List.length_map], fun k hk => ?_⟩
    have hk' : k < left.length := by omega
    have hkx : left[k]? = some left[k] := List.getElem?_eq_getElem hk'
    refine ⟨k, cD left[k], rfl, by rw [List.getElem?_map, hkx]; rfl, by rw [List.length_map]; have := llv; omega, by rw [List.length_map]; have := llv; omega, hK _ _ ⟨left.eraseIdx k, found ++ [left[k]], .val d, by rw [List.length_append, List.length_singleton]; omega, by rw [List.length_append, List.length_singleton]; omega, ?_, ?_⟩⟩
    · have h1 := T.erase_perm left k _ hkx
      have h2 : (left.eraseIdx k ++ (found ++ [left[k]])).Perm ((left[k] :: left.eraseIdx k) ++ found) := by
        have : (left.eraseIdx k ++ (found ++ [left[k]])).Perm ((left.eraseIdx k ++ found) ++ [left[k]]) := by rw [List.append_assoc]
        exact this.trans (List.perm_append_comm (l₁ := left.eraseIdx k ++ found) (l₂ := [left[k]]))
      exact (h2.trans (h1.append_right found)).trans hp
    · rw [erase_map, List.map_append]; rfl
  · rw [natD_map, List.length_map, List.length_range]; simp
theorem chars_lnS (L : List Bool) : charsD (lnS L) = L.map fun b => D.str (c1 (sgn b)) := by
  show (L.map sgn).map _ = _
  rw [List.map_map]; rfl
theorem zip_map {α β : Type} (f : α → D) (g : β → D) : ∀ (as : List α) (bs : List β), zipD (as.map f) (bs.map g) = (as.zip bs).map fun p => .tup [f p.1, g p.2]
  | [], _ => by simp [zipD]
  | _ :: _, [] => by simp [zipD]
  | a :: as, b :: bs => by
    have := zip_map f g as bs
    simp only [List.map_cons, List.zip_cons_cons]
    rw [← this]; rfl
theorem len11 {n : Nat} (h : n ≤ 11) : n ≤ LL := Nat.le_trans h (by decide)
theorem Lnd.l11 {P : List Nat} {T : List (Nat × Nat)} {L : List Bool} (h : Lnd P T L) : L.length ≤ 11 := by rw [h.len]; exact h.wb.few
theorem Lnd.wl {P : List Nat} {T : List (Nat × Nat)} {L : List Bool} (h : Lnd P T L) : (ways T L).length = T.length := ways_len h.len
theorem Lnd.w11 {P : List Nat} {T : List (Nat × Nat)} {L : List Bool} (h : Lnd P T L) : (ways T L).length ≤ 11 := by rw [h.wl]; exact h.wb.few
theorem law_ways_of : ∀ as m Q, S_ways_of as m Q → d_ways_of (padn n_ways_of as) m (fin Q) := by
  rintro as m Q ⟨P, T, L, h, rfl, q⟩
  have h11 := h.wb.few
  refine ⟨_, rfl, plS P, T.map tS, rfl, _, rfl, _, _, rfl, rfl, ?_⟩
  have e : zipD ((T.map tS).map D.str) (charsD (lnS L)) = (T.zip L).map fun p => .tup [wayD p.1, .str (c1 (sgn p.2))] := by
    rw [chars_lnS, List.map_map, zip_map]; rfl
  rw [e]
  refine ⟨by rw [List.length_map, List.length_zip]; have := llv; omega, lcR_m (fun p : (Nat × Nat) × Bool => D.tup [wayD p.1, .str (c1 (sgn p.2))]) (fun p => wayD (way p.1 p.2)) _ m _ (fun a ha => ⟨_, rfl, fun m Q q => ⟨_, rfl, _, eq_plus a.2, a.2, rfl, ?_⟩⟩) ?_⟩
  · obtain ⟨p, b⟩ := a
    cases b with
    | true => exact ⟨_, rfl, q⟩
    | false => exact ⟨_, rfl, tS p, rfl, (by decide : 2 ≤ LL), q⟩
  · rw [ways_zip, List.map_map] at q
    exact q
theorem any_map {α : Type} (W : List α) (f : α → Bool) : anyD [.lst (W.map fun w => D.bl (f w))] = some (.bl (W.any f)) := by
  have e : (W.map fun w => D.bl (f w)) = (W.map f).map D.bl := by rw [List.map_map]; rfl
  show (bools _).map _ = _
  rw [e, bools_of]
  simp [List.any_map]
theorem law_front_places : ∀ as m Q, S_front_places as m Q → d_front_places (padn n_front_places as) m (fin Q) := by
  rintro as m Q ⟨P, T, L, h, rfl, q⟩
  have hp := h.wb.pl.few
  refine ⟨_, rfl, _, rfl, P, T, L, h, rfl, ?_⟩
  refine ⟨rfl, _, rfl, ?_⟩
  refine ⟨plS P, T.map tS, rfl, ?_⟩
  refine ⟨_, rfl, ?_, ?_⟩
  · rw [chars_plS, List.length_map]; exact Nat.le_trans hp (by decide)
  rw [chars_plS]
  refine lcR_fm (fun a => D.str (c1 a)) (fun p => !((ways T L).any fun w => decide (w.2 = p))) (fun a => D.str (c1 a)) P m _ (fun a ha => ⟨_, rfl, fun m Q q => ?_, fun _ m Q q => ⟨_, rfl, q⟩⟩) ?_
  · refine ⟨_, rfl, _, rfl, by rw [List.length_map]; exact len11 h.w11, lcR_m (fun w => wayD w) (fun w => .bl (decide (w.2 = a))) (ways T L) m _ (fun w hw => ⟨_, rfl, fun m Q q => ⟨_, rfl, _, ix_t1 w, _, rfl, _, eqD_str _ _, ?_⟩⟩) ⟨_, any_map _ _, _, rfl, q⟩⟩
    rw [c1_eq]; exact q
  · refine ⟨.str (plS (frn (ways T L) P)), joinD_c1 _ (by have := List.length_filter_le (fun p => !((ways T L).any fun w => decide (w.2 = p))) P; have := llv; omega), q⟩
theorem law_has_no_ring : ∀ as m Q, S_has_no_ring as m Q → d_has_no_ring (padn n_has_no_ring as) m (fin Q) := by
  rintro as m Q ⟨P, T, L, h, rfl, q⟩
  refine ⟨_, rfl, _, rfl, P, T, L, h, rfl, _, rfl, ?_⟩
  unfold ordD
  cases hf : fo (ways T L) P.length P with
  | none => rw [hf] at q; exact q
  | some R => rw [hf] at q; exact q
theorem inL_c1 (a : Nat) (l : List Nat) : inL (.str (c1 a)) (l.map fun x => D.str (c1 x)) = decide (a ∈ l) := by
  unfold inL
  rw [List.any_map]
  by_cases h : a ∈ l
  · rw [decide_eq_true h, List.any_eq_true]
    exact ⟨a, h, by show (c1 a == c1 a) = true; simp⟩
  · rw [decide_eq_false h, List.any_eq_false]
    intro x hx z
    have : (c1 x == c1 a) = true := z
    rw [beq_iff_eq] at this
    have := c1_inj this
    subst this
    exact h hx
theorem flat_c1 (l : List Nat) : (l.map fun x => D.str (c1 x)).all D.flat = true := by
  rw [List.all_map]
  exact List.all_eq_true.mpr fun _ _ => rfl
theorem in_c1 (a : Nat) (l : List Nat) : inD (.str (c1 a)) (.lst (l.map fun x => D.str (c1 x))) = some (.bl (decide (a ∈ l))) := by
  show (if (true && (l.map fun x => D.str (c1 x)).all D.flat) = true then some (inL (.str (c1 a)) (l.map fun x => D.str (c1 x))) else none).map D.bl = _
  rw [flat_c1, inL_c1]; rfl
theorem notIn_c1 (a : Nat) (l : List Nat) : notInD (.str (c1 a)) (.lst (l.map fun x => D.str (c1 x))) = some (.bl (!decide (a ∈ l))) := by
  show (if (true && (l.map fun x => D.str (c1 x)).all D.flat) = true then some (inL (.str (c1 a)) (l.map fun x => D.str (c1 x))) else none).map (fun b => D.bl (!b)) = _
  rw [flat_c1, inL_c1]; rfl
end K18
namespace K18
open PySem L2 G
open T hiding ckOk
open K24 hiding S_law_right S_law_right_len S_law_web S_law_web_len
theorem ne_bl (x y : Bool) : neD (.bl x) (.bl y) = some (.bl (x != y)) := by cases x <;> cases y <;> rfl
theorem law_herd_lot : ∀ as m Q, S_herd_lot as m Q → d_herd_lot (padn n_herd_lot as) m (fin Q) := by
  rintro as m Q ⟨P, T, S, h11, hS, rfl, q⟩
  have hll := llv
  refine ⟨_, rfl, plS P, T.map tS, rfl, (T.map tS).map D.str, rfl, ?_⟩
  rw [ts_map, enum_l wayD T (0, 0)]
  refine ⟨by simp; omega, ?_⟩
  exact lcR_fm (fun k => .tup [natD k, wayD (T.getD k (0, 0))]) (fun i => decide ((T.getD i (0, 0)).1 ∈ S) != decide ((T.getD i (0, 0)).2 ∈ S)) natD (List.range T.length) m _ (fun i hi => ⟨_, rfl, fun m Q q => ⟨_, rfl, _, ix_t0 _, _, rfl, _, in_c1 _ S, _, rfl, _, ix_t1 _, _, rfl, _, in_c1 _ S, _, ne_bl _ _, _, rfl, q⟩, fun _ m Q q => ⟨_, rfl, q⟩⟩) ⟨_, rfl, q⟩
theorem all_map {α : Type} (W : List α) (f : α → Bool) : allD [.lst (W.map fun w => D.bl (f w))] = some (.bl (W.all f)) := by
  have e : (W.map fun w => D.bl (f w)) = (W.map f).map D.bl := by rw [List.map_map]; rfl
  show (bools _).map _ = _
  rw [e, bools_of]
  simp [List.all_map]
open Classical in
theorem law_is_all_rings : ∀ as m Q, S_is_all_rings as m Q → d_is_all_rings (padn n_is_all_rings as) m (fin Q) := by
  rintro as m Q ⟨P, T, L, h, rfl, q⟩
  have hll := llv
  have h11 := h.wb.few
  refine ⟨_, rfl, P, T, h11, rfl, _, rfl, by rw [List.length_map, List.length_range]; omega, ?_⟩
  refine lcR_m natD (fun k => .bl (decide (InRing (ways T L) k))) (List.range T.length) m _ (fun k hk => ⟨_, rfl, fun m Q q => ?_⟩) ?_
  · have hk' : k < T.length := by simpa using hk
    refine ⟨_, rfl, _, rfl, _, rfl, P, T, L, k, h, hk', rfl, fun hr l hl => ?_, fun hr l S hl => ?_⟩
    · rw [decide_eq_true hr] at q
      exact ⟨_, rfl, _, eqD_str _ _, q⟩
    · rw [decide_eq_false hr] at q
      exact ⟨_, rfl, _, eqD_str _ _, q⟩
  · refine ⟨_, all_map _ _, q _ ?_⟩
    simp
end K18
namespace K18
open PySem L2 G
open T hiding ckOk
open K24 hiding S_law_right S_law_right_len S_law_web S_law_web_len
def ent (p : Nat × List Nat) : Key × D := (.inr (c1 p.1), lotD p.2)
theorem key_eq (a b : Nat) : decide ((.inr (c1 a) : Key) = .inr (c1 b)) = decide (a = b) := by
  by_cases h : a = b
  · rw [h]; simp
  · rw [decide_eq_false h, decide_eq_false fun z => h (c1_inj (Sum.inr.inj z))]
theorem kn_get (kn : List (Nat × List Nat)) (a : Nat) : kvGet (kn.map ent) (.inr (c1 a)) = (kn.find? fun p => decide (p.1 = a)).map fun p => lotD p.2 := by
  unfold kvGet
  induction kn with
  | nil => rfl
  | cons p r ih =>
    rw [List.map_cons, List.find?_cons, List.find?_cons]
    have e : decide ((ent p).1 = Sum.inr (c1 a)) = decide (p.1 = a) := key_eq _ _
    rw [e]
    by_cases h : p.1 = a
    · rw [decide_eq_true h]; rfl
    · rw [decide_eq_false h]; exact ih
theorem kn_in (kn : List (Nat × List Nat)) (a : Nat) : (kvGet (kn.map ent) (.inr (c1 a))).isSome = decide (a ∈ kn.map (·.1)) := by
  rw [kn_get, Option.isSome_map, Bool.eq_iff_iff, List.find?_isSome, decide_eq_true_eq, List.mem_map]
  exact ⟨fun ⟨x, h1, h2⟩ => ⟨x, h1, of_decide_eq_true h2⟩, fun ⟨x, h1, h2⟩ => ⟨x, h1, decide_eq_true h2⟩⟩
theorem din_kn (kn : List (Nat × List Nat)) (a : Nat) : dinD (cD a) (knD kn) = some (.bl (decide (a ∈ kn.map (·.1)))) := by
  show some (D.bl (kvGet (kn.map ent) (.inr (c1 a))).isSome) = _
  rw [kn_in]
theorem dnin_kn (kn : List (Nat × List Nat)) (a : Nat) : dnotinD (cD a) (knD kn) = some (.bl (!decide (a ∈ kn.map (·.1)))) := by
  show some (D.bl (!(kvGet (kn.map ent) (.inr (c1 a))).isSome)) = _
  rw [kn_in]
theorem dix_kn {kn : List (Nat × List Nat)} {a : Nat} (h : a ∈ kn.map (·.1)) : ∃ l, (a, l) ∈ kn ∧ dixD (knD kn) (cD a) = some (lotD l) := by
  have hs : (kn.find? fun p => decide (p.1 = a)).isSome = true := by
    rw [List.find?_isSome]
    obtain ⟨p, hp, e⟩ := List.mem_map.mp h
    exact ⟨p, hp, decide_eq_true e⟩
  obtain ⟨p, hp⟩ := Option.isSome_iff_exists.mp hs
  have h1 := List.mem_of_find?_eq_some hp
  have h2 : p.1 = a := of_decide_eq_true (List.find?_some (p := fun p : Nat × List Nat => decide (p.1 = a)) hp)
  refine ⟨p.2, by rw [← h2]; exact h1, ?_⟩
  show kvGet (kn.map ent) (.inr (c1 a)) = _
  rw [kn_get, hp]; rfl
theorem put_kn {kn : List (Nat × List Nat)} {a : Nat} {l : List Nat} (h : a ∉ kn.map (·.1)) : kvPut (kn.map ent) (.inr (c1 a)) (lotD l) = (kn ++ [(a, l)]).map ent := by
  unfold kvPut
  rw [if_neg]
  · rw [List.map_append]; rfl
  · intro z
    rw [List.any_map, List.any_eq_true] at z
    obtain ⟨p, hp, e⟩ := z
    have e : decide ((ent p).1 = Sum.inr (c1 a)) = true := e
    rw [show decide ((ent p).1 = Sum.inr (c1 a)) = decide (p.1 = a) from key_eq _ _] at e
    exact h (List.mem_map.mpr ⟨p, hp, of_decide_eq_true e⟩)
theorem ways_at {T : List (Nat × Nat)} {L : List Bool} {k : Nat} (h : L.length = T.length) (hk : k < T.length) : ∃ b : Bool, (stt (ways T L) k, enn (ways T L) k) = way (T.getD k (0, 0)) b := by
  obtain ⟨p, hp⟩ : ∃ p, T[k]? = some p := ⟨_, List.getElem?_eq_getElem hk⟩
  obtain ⟨b, hb⟩ : ∃ b, L[k]? = some b := ⟨_, List.getElem?_eq_getElem (by omega)⟩
  have := ways_get hp hb
  refine ⟨b, ?_⟩
  unfold stt enn
  rw [List.getD_eq_getElem?_getD, List.getD_eq_getElem?_getD, this, hp]
  rfl
theorem Lnd.ends {P : List Nat} {T : List (Nat × Nat)} {L : List Bool} (h : Lnd P T L) : ∀ w ∈ ways T L, w.1 ∈ P ∧ w.2 ∈ P := fun w hw => by
  obtain ⟨k, hk, e1, e2⟩ := ix_of hw
  rw [h.wl] at hk
  obtain ⟨b, hb⟩ := ways_at h.len hk
  have hm : T.getD k (0, 0) ∈ T := by
    rw [List.getD_eq_getElem?_getD, List.getElem?_eq_getElem hk]; exact List.getElem_mem hk
  obtain ⟨h1, h2, _⟩ := h.wb.ties _ hm
  have a1 := congrArg Prod.fst hb
  have a2 := congrArg Prod.snd hb
  simp only at a1 a2
  rw [← e1, ← e2, a1, a2]
  cases b
  · exact ⟨h2, h1⟩
  · exact ⟨h1, h2⟩
theorem cut_of {P : List Nat} {T : List (Nat × Nat)} {L : List Bool} {k : Nat} {kn : List (Nat × List Nat)} (h : Lnd P T L) (hk : k < T.length) (hn : Known (ways T L) (enn (ways T L) k) kn) (no : ¬ InRing (ways T L) k) :
    Cut T (ways T L) P k (crs T (P.filter fun p => !decide (p ∈ kn.map (·.1)))) (P.filter fun p => !decide (p ∈ kn.map (·.1))) := by
  have hS : ∀ p, p ∈ P.filter (fun p => !decide (p ∈ kn.map (·.1))) ↔ p ∈ P ∧ ¬ Rch (ways T L) (enn (ways T L) k) p := fun p => by
    rw [List.mem_filter, ← hn.all]
    simp
  have cross : ∀ i, i < T.length → (i ∈ crs T (P.filter fun p => !decide (p ∈ kn.map (·.1))) ↔ (decide (stt (ways T L) i ∈ P.filter fun p => !decide (p ∈ kn.map (·.1))) != decide (enn (ways T L) i ∈ P.filter fun p => !decide (p ∈ kn.map (·.1)))) = true) := fun i hi => by
    unfold crs
    rw [List.mem_filter, List.mem_range]
    obtain ⟨b, hb⟩ := ways_at h.len hi
    have a1 := congrArg Prod.fst hb
    have a2 := congrArg Prod.snd hb
    simp only at a1 a2
    rw [a1, a2]
    cases b
    · show _ ∧ _ ↔ (decide ((T.getD i (0, 0)).2 ∈ _) != decide ((T.getD i (0, 0)).1 ∈ _)) = true
      have bc : ∀ x y : Bool, (x != y) = (y != x) := by decide
      rw [bc]
      exact ⟨fun z => z.2, fun z => ⟨hi, z⟩⟩
    · exact ⟨fun z => z.2, fun z => ⟨hi, z⟩⟩
  have clo : ∀ i, i < T.length → Rch (ways T L) (enn (ways T L) k) (stt (ways T L) i) → Rch (ways T L) (enn (ways T L) k) (enn (ways T L) i) := fun i hi z => .step z (mem_getD (by rw [h.wl]; exact hi))
  refine ⟨⟨_, rfl⟩, rfl, fun i hi => ?_, ?_⟩
  · have hi' : i < T.length := by
      unfold crs at hi
      exact List.mem_range.mp (List.mem_filter.mp hi).1
    have z := (cross i hi').mp hi
    refine Classical.byContradiction fun ns => ?_
    rw [decide_eq_false ns] at z
    have he : enn (ways T L) i ∈ P.filter fun p => !decide (p ∈ kn.map (·.1)) := by simpa using z
    have h1 := h.ends _ (mem_getD (W := ways T L) (k := i) (by rw [h.wl]; exact hi'))
    refine ((hS _).mp he).2 (clo i hi' ?_)
    refine Classical.byContradiction fun nr => ns ((hS _).mpr ⟨h1.1, nr⟩)
  · rw [cross k hk]
    have h1 := h.ends _ (mem_getD (W := ways T L) (k := k) (by rw [h.wl]; exact hk))
    rw [decide_eq_true ((hS _).mpr ⟨h1.1, no⟩), decide_eq_false fun z => ((hS _).mp z).2 .refl]
    rfl
theorem law_told_ring_or_cut : ∀ as m Q, S_told_ring_or_cut as m Q → d_told_ring_or_cut (padn n_told_ring_or_cut as) m (fin Q) := by
  rintro as m Q ⟨P, T, L, k, h, hk, rfl, q1, q2⟩
  have hll := llv
  have hkw : k < (ways T L).length := by rw [h.wl]; exact hk
  have hp := h.wb.pl.few
  have he := h.ends _ (mem_getD hkw)
  have hix : ixD (.lst ((ways T L).map wayD)) (natD k) = some (wayD (stt (ways T L) k, enn (ways T L) k)) := atI_nat (by
    rw [List.getElem?_map, List.getElem?_eq_getElem hkw]
    unfold stt enn
    rw [List.getD_eq_getElem?_getD, List.getElem?_eq_getElem hkw]; rfl)
  refine ⟨_, rfl, _, rfl, P, T, L, h, rfl, _, rfl, _, hix, _, rfl, ?_⟩
  refine ⟨_, rfl, _, rfl, _, rfl, P, T, L, enn (ways T L) k, h, he.2, rfl, fun kn hkn => ?_⟩
  refine ⟨_, rfl, _, rfl, _, din_kn kn (stt (ways T L) k), _, rfl, ?_⟩
  by_cases hr : InRing (ways T L) k
  · have hm := (hkn.all _).mpr hr
    rw [decide_eq_true hm]
    obtain ⟨l, hl, hd⟩ := dix_kn hm
    have hpath : Path (ways T L) (enn (ways T L) k) l (stt (ways T L) k) := hkn.way _ hl
    have q := q1 hr _ (ring_of hkw hpath)
    have hl11 : l.length ≤ 20 := by
      have hnd := hpath.2
      have e := chain_eq hpath.1
      have hsub : ∀ x ∈ l.map (stt (ways T L)), x ∈ P := fun x hx => by
        obtain ⟨i, hi, rfl⟩ := List.mem_map.mp hx
        exact (h.ends _ (mem_getD (chain_lt hpath.1 i hi))).1
      have := len_le_of_sub (List.nodup_append.mp hnd).1 hsub
      rw [List.length_map] at this
      omega
    have ea : l.map natD ++ [natD k] = (l ++ [k]).map natD := by rw [List.map_append]; rfl
    refine ⟨_, rfl, _, rfl, _, hd, _, rfl, by show 1 ≤ LL; omega, .tup ((l ++ [k]).map natD), ?_, (srt (l ++ [k])).map natD, ?_, _, rfl, by show 2 ≤ LL; omega, q⟩
    · show (if (l.map natD).length + [natD k].length ≤ LL then some (D.tup (l.map natD ++ [natD k])) else none) = _
      rw [if_pos (by rw [List.length_map]; show l.length + 1 ≤ LL; omega), ea]
    · show (if sortOk ((l ++ [k]).map natD) then some (sortL ((l ++ [k]).map natD)) else none) = _
      rw [if_pos (sortOk_nat (by rw [List.length_append, List.length_singleton]; omega)), sort_nat]
  · have hm : stt (ways T L) k ∉ kn.map (·.1) := fun z => hr ((hkn.all _).mp z)
    rw [decide_eq_false hm]
    have q := q2 hr _ _ (cut_of h hk hkn hr)
    refine ⟨_, rfl, _, rfl, plS P, T.map tS, rfl, _, rfl, ?_, ?_⟩
    · rw [chars_plS, List.length_map]; omega
    rw [chars_plS]
    refine lcR_fm (fun a => D.str (c1 a)) (fun p => !decide (p ∈ kn.map (·.1))) (fun a => D.str (c1 a)) P m _ (fun a ha => ⟨_, rfl, fun m Q q => ⟨_, rfl, _, rfl, _, dnin_kn kn a, _, rfl, q⟩, fun _ m Q q => ⟨_, rfl, q⟩⟩) ?_
    refine ⟨P, T, _, h.wb.few, ?_, rfl, by show 2 ≤ LL; omega, q⟩
    have := List.length_filter_le (fun p => !decide (p ∈ kn.map (·.1))) P
    omega
end K18
namespace K18
open PySem L2 G
open T hiding ckOk
open K24 hiding S_law_right S_law_right_len S_law_web S_law_web_len
theorem ix_W {W : List (Nat × Nat)} {i : Nat} (h : i < W.length) : ixD (.lst (W.map wayD)) (natD i) = some (wayD (stt W i, enn W i)) := atI_nat (by
  rw [List.getElem?_map, List.getElem?_eq_getElem h]
  unfold stt enn
  rw [List.getD_eq_getElem?_getD, List.getElem?_eq_getElem h]; rfl)
theorem add_lst {α : Type} (f : α → D) {a b : List α} (h : a.length + b.length ≤ LL) : addD (.lst (a.map f)) (.lst (b.map f)) = some (.lst ((a ++ b).map f)) := by
  unfold addD
  simp only
  rw [if_pos (by rw [List.length_map, List.length_map]; exact h), List.map_append]
theorem law_law_in_ring : ∀ as m Q, S_law_in_ring as m Q → d_law_in_ring (padn n_law_in_ring as) m (fin Q) := by
  rintro as m Q ⟨W, k, h11, hk, rfl, q⟩
  refine ⟨_, rfl, _, rfl, _, ix_W hk, _, ix_t0 _, _, rfl, _, rfl, _, rfl, _, ix_W hk, _, ix_t1 _, W, enn W k, h11, rfl, fun R hR _ => ?_⟩
  exact ⟨_, in_c1 _ R, q _ (by rw [decide_eq_true_eq, hR]; rfl)⟩
end K18
namespace K18
open PySem L2 G
open T hiding ckOk
open K24 hiding S_law_right S_law_right_len S_law_web S_law_web_len
structure Rd (W : List (Nat × Nat)) (a : Nat) (R : List Nat) : Prop where
  hd : ∃ R', R = a :: R'
  nd : R.Nodup
  rch : ∀ b ∈ R, Rch W a b
  tl : ∀ b ∈ R, b = a ∨ b ∈ W.map (·.2)
def Clo (W : List (Nat × Nat)) (R : List Nat) : Prop := ∀ w ∈ W, w.1 ∈ R → w.2 ∈ R
theorem Rd.len {W : List (Nat × Nat)} {a : Nat} {R : List Nat} (h : Rd W a R) : R.length ≤ W.length + 1 := by
  have := len_le_of_sub (l := R) (m := a :: W.map (·.2)) h.nd fun b hb => by
    rcases h.tl b hb with e | e
    · rw [e]; simp
    · exact List.mem_cons_of_mem _ e
  rw [List.length_cons, List.length_map] at this
  exact this
theorem Rd.full {W : List (Nat × Nat)} {a : Nat} {R : List Nat} (h : Rd W a R) (hl : W.length + 1 ≤ R.length) : Clo W R := fun w hw _ => by
  refine Classical.byContradiction fun no => ?_
  have := len_le_of_sub (l := w.2 :: R) (m := a :: W.map (·.2)) (List.nodup_cons.mpr ⟨no, h.nd⟩) fun b hb => by
    rcases List.mem_cons.mp hb with e | e
    · rw [e]; exact List.mem_cons_of_mem _ (List.mem_map_of_mem hw)
    · rcases h.tl b e with e | e
      · rw [e]; simp
      · exact List.mem_cons_of_mem _ e
  rw [List.length_cons, List.length_cons, List.length_map] at this
  omega
theorem Rd.add {W : List (Nat × Nat)} {a : Nat} {R : List Nat} {w : Nat × Nat} (h : Rd W a R) (hw : w ∈ W) (h1 : w.1 ∈ R) (h2 : w.2 ∉ R) : Rd W a (R ++ [w.2]) := by
  obtain ⟨R', e⟩ := h.hd
  refine ⟨⟨R' ++ [w.2], by rw [e]; rfl⟩, ?_, fun b hb => ?_, fun b hb => ?_⟩
  · rw [List.nodup_append]
    exact ⟨h.nd, by simp, fun x hx y hy e => h2 (by rw [← List.mem_singleton.mp hy, ← e]; exact hx)⟩
  · rcases List.mem_append.mp hb with z | z
    · exact h.rch b z
    · rw [List.mem_singleton.mp z]; exact .step (h.rch _ h1) hw
  · rcases List.mem_append.mp hb with z | z
    · exact h.tl b z
    · rw [List.mem_singleton.mp z]; exact .inr (List.mem_map_of_mem hw)
theorem Rd.all {W : List (Nat × Nat)} {a : Nat} {R : List Nat} (h : Rd W a R) (c : Clo W R) (b : Nat) : b ∈ R ↔ Rch W a b := by
  refine ⟨h.rch b, fun z => ?_⟩
  induction z with
  | refl => obtain ⟨R', e⟩ := h.hd; rw [e]; simp
  | step _ e ih => exact c _ e ih
theorem law_law_reach : ∀ as m Q, S_law_reach as m Q → d_law_reach (padn n_law_reach as) m (fin Q) := by
  rintro as m Q ⟨W, a, h11, rfl, q⟩
  have hll := llv
  refine ⟨_, rfl, by show 1 ≤ LL; omega, _, rfl, _, rfl, ?_⟩
  refine forR_l wayD W (fun i env m' => m' = m ∧ ∃ R x3 x4, env = [.val (.lst (W.map wayD)), .val (cD a), .own (R.map cD), x3, x4] ∧ Rd W a R ∧ (Clo W R ∨ i + 1 ≤ R.length)) ?_ ?_ _ _
    ⟨rfl, [a], .no, .no, rfl, ⟨⟨[], rfl⟩, by simp, fun b hb => by rw [List.mem_singleton.mp hb]; exact .refl, fun b hb => .inl (List.mem_singleton.mp hb)⟩, .inr (by simp)⟩
  · rintro env m' ⟨rfl, R, x3, x4, rfl, hR, hc⟩
    have hcl : Clo W R := hc.elim id hR.full
    have := hR.len
    exact ⟨_, rfl, q R (hR.all hcl) (by omega)⟩
  · rintro i w0 hw0 env m' ⟨rfl, R, x3, x4, rfl, hR, hc⟩
    refine ⟨_, rfl, fun K hK => ?_⟩
    refine ⟨_, rfl, _, rfl, ?_⟩
    refine forR_l wayD W (fun j env m2 => m2 = m' ∧ ∃ R2 x4, env = [.val (.lst (W.map wayD)), .val (cD a), .own (R2.map cD), .val (wayD w0), x4] ∧ Rd W a R2 ∧ (∀ b ∈ R, b ∈ R2) ∧ (∀ k, k < j → ∀ w, W[k]? = some w → w.1 ∈ R → w.2 ∈ R2) ∧ (R2 = R ∨ R.length < R2.length)) ?_ ?_ _ _
      ⟨rfl, R, x4, rfl, hR, fun b hb => hb, fun k hk => by omega, .inl rfl⟩
    · rintro env m2 ⟨rfl, R2, x4, rfl, h2, hsub, hst, hgr⟩
      refine hK _ _ ⟨rfl, R2, _, x4, rfl, h2, ?_⟩
      have full : ∀ w ∈ W, w.1 ∈ R → w.2 ∈ R2 := fun w hw h1 => by
        obtain ⟨k, hk, e⟩ := List.getElem_of_mem hw
        exact hst k hk w (by rw [List.getElem?_eq_getElem hk, e]) h1
      rcases hgr with e | e
      · rw [e] at full ⊢
        exact .inl full
      · rcases hc with c | c
        · refine .inl fun w hw h1 => ?_
          have hRR2 : ∀ b, b ∈ R2 → b ∈ R := fun b hb => (hR.all c b).mpr (h2.rch b hb)
          exact hsub _ (c w hw (hRR2 _ h1))
        · exact .inr (by omega)
    · rintro j w hw env m2 ⟨rfl, R2, x4, rfl, h2, hsub, hst, hgr⟩
      have hwm : w ∈ W := List.mem_of_getElem? hw
      have h2l := h2.len
      refine ⟨_, rfl, fun K2 hK2 => ?_⟩
      have stay : (w.1 ∈ R → w.2 ∈ R2) → K2 [.val (.lst (W.map wayD)), .val (cD a), .own (R2.map cD), .val (wayD w0), .val (wayD w)] m2 := fun hh => hK2 _ _ ⟨rfl, R2, _, rfl, h2, hsub, fun k hk w' hw' h1 => by
        by_cases e : k = j
        · subst e
          rw [hw] at hw'; cases hw'
          exact hh h1
        · exact hst k (by omega) w' hw' h1, hgr⟩
      refine ⟨_, rfl, _, ix_t0 _, _, rfl, _, in_c1 _ R2, _, rfl, ?_⟩
      by_cases h1 : w.1 ∈ R2
      · rw [decide_eq_true h1]
        refine ⟨_, rfl, _, ix_t1 _, _, rfl, _, notIn_c1 _ R2, _, rfl, ?_⟩
        by_cases h3 : w.2 ∈ R2
        · rw [decide_eq_true h3]
          exact stay fun _ => h3
        · rw [decide_eq_false h3]
          refine ⟨_, rfl, _, rfl, _, ix_t1 _, by rw [List.length_map]; omega, ?_⟩
          refine hK2 _ _ ⟨rfl, R2 ++ [w.2], _, by rw [List.map_append]; rfl, h2.add hwm h1 h3, fun b hb => List.mem_append_left _ (hsub b hb), fun k hk w' hw' h1' => ?_, .inr ?_⟩
          · by_cases e : k = j
            · subst e
              rw [hw] at hw'; cases hw'
              simp
            · exact List.mem_append_left _ (hst k (by omega) w' hw' h1')
          · rw [List.length_append, List.length_singleton]
            rcases hgr with e | e
            · rw [e]; omega
            · omega
      · rw [decide_eq_false h1]
        exact stay fun z => absurd (hsub _ z) h1
end K18
namespace K18
open PySem L2 G
open T hiding ckOk
open K24 hiding S_law_right S_law_right_len S_law_web S_law_web_len
theorem okdL_all : ∀ {ds : List D} {n : Nat}, (∀ d ∈ ds, d.okd n = true) → okdL ds n = true
  | [], _, _ => rfl
  | d :: ds, n, h => by
    unfold okdL
    rw [h d (by simp), okdL_all fun d hd => h d (List.mem_cons_of_mem _ hd)]; rfl
theorem eq_nil {ds : List D} (h : ∀ d ∈ ds, d.okd 59 = true) : eqD (.lst ds) (.lst []) = some (.bl (decide (ds = []))) := by
  show (deepEq (.lst ds) (.lst [])).map D.bl = _
  unfold deepEq
  have hk := okdL_all h
  rw [if_pos (by simp only [D.okd, hk]; rfl)]
  cases ds with
  | nil => rfl
  | cons a r => rfl
theorem okd_c (a : Nat) (h : a < 1000) (n : Nat) : (cD a).okd n = true := strOk_pl (l := [a]) fun x hx => by rw [List.mem_singleton.mp hx]; exact h
structure At (W : List (Nat × Nat)) (P l f : List Nat) : Prop where
  nd : l.Nodup
  sub : ∀ a ∈ l, a ∈ P
  len : l.length + f.length = P.length
  val : fo W P.length P = (fo W l.length l).map (f ++ ·)
theorem At.start {W : List (Nat × Nat)} {P : List Nat} (h : P.Nodup) : At W P P [] := ⟨h, fun _ h => h, by simp, by cases fo W P.length P <;> rfl⟩
theorem At.stop {W : List (Nat × Nat)} {P l f : List Nat} (h : At W P l f) (h0 : l = []) : ordD W P = plD f := by
  unfold ordD
  rw [h.val, h0]
  show (match (some ([] : List Nat)).map (f ++ ·) with | none => D.non | some R => plD R) = _
  simp
theorem At.none {W : List (Nat × Nat)} {P l f : List Nat} (h : At W P l f) (h0 : l ≠ []) (hf : freeP W l = []) : ordD W P = .non := by
  have : fo W l.length l = Option.none := by
    cases l with
    | nil => exact absurd rfl h0
    | cons a l => show fo W (l.length + 1) (a :: l) = _; unfold fo; rw [hf]
  unfold ordD
  rw [h.val, this]; rfl
theorem At.next {W : List (Nat × Nat)} {P l f cs : List Nat} {c : Nat} (h : At W P l f) (hf : freeP W l = c :: cs) : At W P (l.filter fun p => decide (p ≠ c)) (f ++ [c]) := by
  have hc : c ∈ l := (mem_freeP.mp (show c ∈ freeP W l by rw [hf]; simp)).1
  have hl := out_len h.nd hc
  have hle := h.len
  refine ⟨out_nd h.nd, fun a ha => h.sub a (mem_out.mp ha).1, by rw [List.length_append, List.length_singleton]; omega, ?_⟩
  rw [h.val]
  obtain ⟨n, hn⟩ : ∃ n, l.length = n + 1 := ⟨(l.filter fun p => decide (p ≠ c)).length, by omega⟩
  have hn2 : (l.filter fun p => decide (p ≠ c)).length = n := by omega
  rw [hn, hn2]
  have e : fo W (n + 1) l = (fo W n (l.filter fun p => decide (p ≠ c))).map (c :: ·) := by
    show (match freeP W l with
      | [] => Option.none
      | c :: _ => (fo W n (l.filter fun p => decide (p ≠ c))).map (c :: ·)) = _
    rw [hf]
  rw [e]
  cases fo W n (l.filter fun p => decide (p ≠ c)) with
  | none => rfl
  | some R => simp
end K18
namespace K18
open PySem L2 G
open T hiding ckOk
open K24 hiding S_law_right S_law_right_len S_law_web S_law_web_len
theorem repl1 (q : Nat) (z : Str) : ∀ l : List Nat, StrLaws.replL [q] z.cps.toList l = l.flatMap fun a => if a = q then z.cps.toList else [a]
  | [] => StrLaws.replL_nil
  | a :: r => by
    have ih := repl1 q z r
    rw [List.flatMap_cons]
    by_cases e : a = q
    · rw [if_pos e, StrLaws.replL_hit (by simp) (by rw [e]; rfl)]
      show _ ++ StrLaws.replL [q] z.cps.toList r = _
      rw [ih]
    · rw [if_neg e, StrLaws.replL_miss (by intro h; simp at h; exact e h), ih]
      rfl
theorem str_ext {x y : Str} (h : x.cps.toList = y.cps.toList) : x = y := by
  cases x; cases y
  simp at h
  rw [h]
theorem repl_pl (P : List Nat) (q : Nat) : Txt.replace (plS P) (c1 q) (Str.ofString "") = plS (P.filter fun p => decide (p ≠ q)) := by
  refine str_ext ?_
  rw [StrLaws.replace_list (show 1 ≤ (c1 q).length from Nat.le_refl 1)]
  have h0 : (Str.ofString "").cps.toList = [] := by decide +kernel
  show StrLaws.replL [q] (Str.ofString "").cps.toList (plS P).cps.toList = (P.filter fun p => decide (p ≠ q))
  rw [repl1, h0]
  show P.flatMap _ = P.filter _
  induction P with
  | nil => rfl
  | cons a r ih =>
    rw [List.flatMap_cons, List.filter_cons, ih]
    by_cases e : a = q
    · rw [if_pos e, if_neg (by simp [e])]; rfl
    · rw [if_neg e, if_pos (by simp [e])]; rfl
theorem empty_is : Str.ofString "" = plS [] := by decide +kernel
theorem plS_inj {a b : List Nat} (h : plS a = plS b) : a = b := by
  have : (plS a).cps.toList = (plS b).cps.toList := by rw [h]
  simpa [plS] using this
theorem pl_snoc (f : List Nat) (c : Nat) : plS f ++ (⟨#[c]⟩ : Str) = plS (f ++ [c]) := by
  show (⟨f.toArray ++ #[c]⟩ : Str) = ⟨(f ++ [c]).toArray⟩
  simp
theorem hit_is (l : List Nat) (c : Nat) (w : Nat × Nat) : hitW (plS l) c (tS w) = (decide (w.2 = c) && decide (w.1 ∈ l)) := by
  unfold hitW
  have e : decide (V.str ⟨#[(tS w).cps.toList.getD 1 0]⟩ = V.str ⟨#[c]⟩) = decide (w.2 = c) := by
    show decide (V.str (c1 w.2) = V.str (c1 c)) = _
    by_cases h : w.2 = c
    · rw [h]; simp
    · rw [decide_eq_false h, decide_eq_false fun z => h (c1_inj (V.str.inj z))]
  rw [e]; rfl
theorem frees_is (W : List (Nat × Nat)) (l : List Nat) : frees (W.map tS) (plS l) = freeP W l := by
  unfold frees freeP
  show List.filter _ l = _
  refine List.filter_congr fun c _ => ?_
  rw [List.any_map]
  congr 1
  refine congrArg (fun f => List.any W f) (funext fun w => hit_is l c w)
theorem ne_str (a b : List Nat) : neD (plD a) (plD b) = some (.bl (!decide (a = b))) := by
  have h := eqD_str (plS a) (plS b)
  unfold eqD at h
  unfold neD
  obtain ⟨x, hx, e⟩ := Option.map_eq_some_iff.mp h
  rw [hx]
  have e : x = decide (plS a = plS b) := by injection e
  rw [e]
  by_cases h : a = b
  · rw [h]; simp
  · rw [decide_eq_false h, decide_eq_false fun z => h (plS_inj z)]; rfl
theorem law_first_order : ∀ as m Q, S_first_order as m Q → d_first_order (padn n_first_order as) m (fin Q) := by
  rintro as m Q ⟨P, T, L, h, rfl, q⟩
  have hll := llv
  have h7 := h.wb.pl.few
  have h11 := h.w11
  refine ⟨_, rfl, _, rfl, P, T, L, h, rfl, _, rfl, plS P, T.map tS, rfl, rfl, ?_⟩
  refine ⟨fun k env m' => m' = m ∧ ∃ l f, k = l.length ∧ env = [Sl.val (webD P T), Sl.val (lnD L), Sl.val (.lst ((ways T L).map wayD)), Sl.val (plD l), Sl.val (plD f), Sl.no, Sl.no, Sl.no] ∧ At (ways T L) P l f, ⟨P.length, rfl, P, [], rfl, ?_, At.start (h.wb.pl.inc.imp fun h => Nat.ne_of_lt h)⟩, ?_⟩
  · show _ = [_, _, _, _, Sl.val (.str (plS [])), _, _, _]
    rw [← empty_is]; rfl
  rintro k env m' ⟨rfl, l, f, rfl, rfl, ha⟩
  have hal := ha.len
  refine ⟨_, rfl, _, by rw [empty_is]; exact ne_str l [], _, rfl, ?_⟩
  by_cases hl : l = []
  · rw [decide_eq_true hl]
    rw [ha.stop hl] at q
    exact ⟨_, rfl, q⟩
  rw [decide_eq_false hl]
  refine ⟨(ways T L).map tS, plS l, plS f, ?_, rfl, rfl, by rw [List.length_map]; omega, ?_, ?_, fun w hw => ?_, fun c hc => ?_, ?_⟩
  · show some (Sl.val (D.lst ((ways T L).map wayD))) = _
    rw [List.map_map]; rfl
  · show l.length ≤ 1000; omega
  · show f.length ≤ 1000; omega
  · obtain ⟨p, _, rfl⟩ := List.mem_map.mp hw
    rfl
  · have : c ∈ l := hc
    have := h.wb.pl.let8 c (ha.sub c this)
    exact strOk_pl (l := [c]) fun x hx => by rw [List.mem_singleton.mp hx]; omega
  · rw [frees_is]
    cases hf : freeP (ways T L) l with
    | nil =>
      rw [ha.none hl hf] at q
      exact q
    | cons c cs =>
      have hc : c ∈ l := (mem_freeP.mp (show c ∈ freeP (ways T L) l by rw [hf]; simp)).1
      have hol := out_len ha.nd hc
      refine ⟨(l.filter fun p => decide (p ≠ c)).length, by omega, rfl, _, f ++ [c], rfl, ?_, ha.next hf⟩
      have e1 : Txt.replace (plS l) ⟨#[c]⟩ (Str.ofString "") = plS (l.filter fun p => decide (p ≠ c)) := repl_pl l c
      rw [e1, pl_snoc]
      rfl
end K18
namespace K18
open PySem L2 G
open T hiding ckOk
open K24 hiding S_law_right S_law_right_len S_law_web S_law_web_len
theorem ne_nil2 {ds : List D} (h : ∀ d ∈ ds, d.okd 59 = true) : neD (.lst ds) (.lst []) = some (.bl (!decide (ds = []))) := by
  have e := eq_nil h
  unfold eqD at e
  unfold neD
  obtain ⟨x, hx, ex⟩ := Option.map_eq_some_iff.mp e
  rw [hx]
  have ex : x = decide (ds = []) := by injection ex
  rw [ex]; rfl
abbrev kys (kn : List (Nat × List Nat)) : List Nat := kn.map (·.1)
structure KS (W : List (Nat × Nat)) (P : List Nat) (a : Nat) (kn : List (Nat × List Nat)) : Prop where
  nd : (kys kn).Nodup
  hd : a ∈ kys kn
  sub : ∀ b ∈ kys kn, b ∈ P
  way : ∀ p ∈ kn, Path W a p.2 p.1
  on : ∀ p ∈ kn, ∀ i ∈ p.2, stt W i ∈ kys kn
theorem path_rch {W : List (Nat × Nat)} : ∀ {l : List Nat} {a b : Nat}, Chain W a l b → Rch W a b
  | [], a, b, h => by
    have h : a = b := h
    rw [h]; exact .refl
  | i :: l, a, b, ⟨h1, h2, h⟩ => by
    have := Rch.one (mem_getD h1)
    rw [h2] at this
    exact this.trans (path_rch h)
theorem KS.len {W : List (Nat × Nat)} {P : List Nat} {a : Nat} {kn : List (Nat × List Nat)} (h : KS W P a kn) : kn.length ≤ P.length := by
  have := len_le_of_sub h.nd h.sub
  rwa [List.length_map] at this
theorem KS.add {W : List (Nat × Nat)} {P : List Nat} {a i : Nat} {l : List Nat} {kn : List (Nat × List Nat)} (h : KS W P a kn) (hi : i < W.length) (hl : (stt W i, l) ∈ kn) (hn : enn W i ∉ kys kn) (hP : enn W i ∈ P) : KS W P a (kn ++ [(enn W i, l ++ [i])]) := by
  have hs : ∀ x, x ∈ kys kn → x ∈ kys (kn ++ [(enn W i, l ++ [i])]) := fun x hx => by
    unfold kys; rw [List.map_append]; exact List.mem_append_left _ hx
  have hstt : stt W i ∈ kys kn := List.mem_map.mpr ⟨_, hl, rfl⟩
  have hw : Path W a l (stt W i) := h.way _ hl
  refine ⟨?_, hs _ h.hd, fun b hb => ?_, fun p hp => ?_, fun p hp j hj => ?_⟩
  · unfold kys
    rw [List.map_append, List.nodup_append]
    refine ⟨h.nd, by simp, fun x hx y hy e => hn ?_⟩
    have ey : y = enn W i := by simpa using hy
    rw [← ey, ← e]
    exact hx
  · unfold kys at hb
    rw [List.map_append] at hb
    rcases List.mem_append.mp hb with z | z
    · exact h.sub b z
    · have : b = enn W i := by simpa using z
      rw [this]; exact hP
  · rcases List.mem_append.mp hp with z | z
    · exact h.way p z
    · rw [List.mem_singleton.mp z]
      refine ⟨chain_snoc hw.1 hi rfl, ?_⟩
      rw [List.map_append]
      show (l.map (stt W) ++ [stt W i] ++ [enn W i]).Nodup
      rw [List.nodup_append]
      refine ⟨hw.2, by simp, fun x hx y hy e => hn ?_⟩
      have ey : y = enn W i := by simpa using hy
      rw [← ey, ← e]
      rcases List.mem_append.mp hx with z | z
      · obtain ⟨j, hj, rfl⟩ := List.mem_map.mp z
        exact h.on _ hl j hj
      · rw [List.mem_singleton.mp z]; exact hstt
  · rcases List.mem_append.mp hp with z | z
    · exact hs _ (h.on p z j hj)
    · rw [List.mem_singleton.mp z] at hj
      rcases List.mem_append.mp hj with y | y
      · exact hs _ (h.on _ hl j y)
      · rw [List.mem_singleton.mp y]; exact hs _ hstt
theorem KS.start {W : List (Nat × Nat)} {P : List Nat} {a : Nat} (haP : a ∈ P) : KS W P a [(a, [])] := by
  refine ⟨by simp, by simp, fun b hb => ?_, fun p hp => ?_, fun p hp => ?_⟩
  · have : b = a := by simpa using hb
    rw [this]; exact haP
  · rw [List.mem_singleton.mp hp]
    exact ⟨rfl, by simp⟩
  · rw [List.mem_singleton.mp hp]
    exact fun j hj => by cases hj
def Done (W : List (Nat × Nat)) (kn : List (Nat × List Nat)) (b : Nat) : Prop := ∀ i, i < W.length → stt W i = b → enn W i ∈ kys kn
theorem KS.known {W : List (Nat × Nat)} {P : List Nat} {a : Nat} {kn : List (Nat × List Nat)} (h : KS W P a kn) (hP : P.length ≤ 7) (hd : ∀ b ∈ kys kn, Done W kn b) : Known W a kn := by
  refine ⟨fun b => ⟨fun hb => ?_, fun hb => ?_⟩, h.nd, h.way, by have := h.len; omega⟩
  · obtain ⟨p, hp, rfl⟩ := List.mem_map.mp hb
    exact path_rch (h.way p hp).1
  · induction hb with
    | refl => exact h.hd
    | step _ e ih =>
      obtain ⟨k, hk, e1, e2⟩ := ix_of e
      simp only at e1 e2
      rw [← e2]
      exact hd _ ih k hk e1
theorem enum_W (W : List (Nat × Nat)) : enumD (W.map wayD) = (List.range W.length).map fun k => .tup [natD k, wayD (stt W k, enn W k)] := enum_l wayD W (0, 0)
theorem law_ways_to : ∀ as m Q, S_ways_to as m Q → d_ways_to (padn n_ways_to as) m (fin Q) := by
  rintro as m Q ⟨P, T, L, a, h, haP, rfl, q⟩
  have hll := llv
  have h7 := h.wb.pl.few
  have h11 := h.w11
  have hends := h.ends
  have hlet : ∀ b ∈ P, b < 1000 := fun b hb => by have := h.wb.pl.let8 b hb; omega
  generalize hWd : ways T L = W at *
  have okc : ∀ (l : List Nat), (∀ b ∈ l, b ∈ P) → ∀ d ∈ l.map cD, d.okd 59 = true := fun l hl d hd => by
    obtain ⟨b, hb, rfl⟩ := List.mem_map.mp hd
    exact okd_c b (hlet b (hl b hb)) _
  refine ⟨_, rfl, _, rfl, P, T, L, h, rfl, ?_⟩
  rw [hWd]
  refine ⟨_, rfl, by show 0 ≤ LL; omega, .inr (c1 a), rfl, _, rfl, by show 1 ≤ LL; omega, rfl, ?_⟩
  refine ⟨fun k env m' => m' = m ∧ ∃ kn ly x6 x7 x8 x9, k = (20 - kn.length) * 2 + (if ly = [] then 0 else 1) ∧ env = [Sl.val (webD P T), Sl.val (lnD L), Sl.val (cD a), Sl.val (.lst (W.map wayD)), Sl.ow (knD kn), Sl.val (.lst (ly.map cD)), x6, x7, x8, x9] ∧ KS W P a kn ∧ (∀ b ∈ ly, b ∈ kys kn) ∧ (∀ b ∈ kys kn, b ∈ ly ∨ Done W kn b),
    ⟨_, rfl, [(a, [])], [a], .no, .no, .no, .no, rfl, rfl, KS.start haP, fun b hb => by simpa using hb, fun b hb => .inl (by simpa using hb)⟩, ?_⟩
  rintro k env m' ⟨rfl, kn, ly, x6, x7, x8, x9, rfl, rfl, hk, hly, hdn⟩
  have hkl := hk.len
  have hlyP : ∀ b ∈ ly, b ∈ P := fun b hb => hk.sub b (hly b hb)
  refine ⟨_, rfl, by show 0 ≤ LL; omega, _, ne_nil2 (okc ly hlyP), _, rfl, ?_⟩
  by_cases h0 : ly.map cD = []
  · rw [decide_eq_true h0]
    have h0 : ly = [] := List.map_eq_nil_iff.mp h0
    refine ⟨_, rfl, _, rfl, q kn (hk.known h7 fun b hb => (hdn b hb).elim (fun z => by rw [h0] at z; cases z) id)⟩
  rw [decide_eq_false h0]
  have h0' : ly ≠ [] := fun e => h0 (by rw [e]; rfl)
  refine ⟨by show 0 ≤ LL; omega, _, rfl, _, rfl, ?_⟩
  refine forR_l cD ly (fun i env m2 => m2 = m' ∧ ∃ nw x7 x8 x9, env = [Sl.val (webD P T), Sl.val (lnD L), Sl.val (cD a), Sl.val (.lst (W.map wayD)), Sl.ow (knD (kn ++ nw)), Sl.val (.lst (ly.map cD)), Sl.own ((kys nw).map cD), x7, x8, x9] ∧ KS W P a (kn ++ nw) ∧ (∀ j b, j < i → ly[j]? = some b → Done W (kn ++ nw) b)) ?_ ?_ _ _
    ⟨rfl, [], x7, x8, x9, by rw [List.append_nil]; rfl, by rw [List.append_nil]; exact hk, fun j b hj => by omega⟩
  · rintro env m2 ⟨rfl, nw, x7, x8, x9, rfl, hk2, hd2⟩
    have hkl2 := hk2.len
    rw [List.length_append] at hkl2
    have hsub : ∀ b ∈ kys nw, b ∈ kys (kn ++ nw) := fun b hb => by unfold kys; rw [List.map_append]; exact List.mem_append_right _ hb
    refine ⟨_, rfl, _, rfl, ?_⟩
    refine ⟨(20 - (kn ++ nw).length) * 2 + (if kys nw = [] then 0 else 1), ?_, rfl, kn ++ nw, kys nw, _, x7, x8, x9, rfl, rfl, hk2, hsub, fun b hb => ?_⟩
    · rw [if_neg h0', List.length_append]
      by_cases e : kys nw = []
      · rw [if_pos e]; omega
      · have : 0 < nw.length := List.length_pos_iff.mpr fun z => e (by rw [z]; rfl)
        rw [if_neg e]; omega
    · unfold kys at hb
      rw [List.map_append] at hb
      rcases List.mem_append.mp hb with z | z
      · rcases hdn b z with y | y
        · obtain ⟨j, hj, e⟩ := List.getElem_of_mem y
          exact .inr (hd2 j b hj (by rw [List.getElem?_eq_getElem hj, e]))
        · refine .inr fun i hi e => ?_
          have := y i hi e
          unfold kys; rw [List.map_append]; exact List.mem_append_left _ this
      · exact .inl z
  · rintro i p hp env m2 ⟨rfl, nw, x7, x8, x9, rfl, hk2, hd2⟩
    have hpk : p ∈ kys (kn ++ nw) := by
      have := hly p (List.mem_of_getElem? hp)
      unfold kys; rw [List.map_append]; exact List.mem_append_left _ this
    refine ⟨_, rfl, fun K hK => ?_⟩
    refine ⟨_, rfl, _, rfl, ?_⟩
    rw [enum_W]
    refine forR_l (fun k => .tup [natD k, wayD (stt W k, enn W k)]) (List.range W.length) (fun j env m3 => m3 = m2 ∧ ∃ nw2 x8 x9, env = [Sl.val (webD P T), Sl.val (lnD L), Sl.val (cD a), Sl.val (.lst (W.map wayD)), Sl.ow (knD (kn ++ nw2)), Sl.val (.lst (ly.map cD)), Sl.own ((kys nw2).map cD), Sl.val (cD p), x8, x9] ∧ KS W P a (kn ++ nw2) ∧ (∀ b ∈ kys (kn ++ nw), b ∈ kys (kn ++ nw2)) ∧ (∀ k, k < j → stt W k = p → enn W k ∈ kys (kn ++ nw2))) ?_ ?_ _ _
      ⟨rfl, nw, x8, x9, rfl, hk2, fun b hb => hb, fun k hk => by omega⟩
    · rintro env m3 ⟨rfl, nw2, x8, x9, rfl, hk3, hs3, hd3⟩
      refine hK _ _ ⟨rfl, nw2, _, x8, x9, rfl, hk3, fun j b hj hb => ?_⟩
      by_cases e : j = i
      · subst e
        rw [hp] at hb; cases hb
        rw [List.length_range] at hd3
        exact fun k hk1 hk2 => hd3 k hk1 hk2
      · exact fun k hk1 hk2 => hs3 _ (hd2 j b (by omega) hb k hk1 hk2)
    · rintro j k hj env m3 ⟨rfl, nw2, x8, x9, rfl, hk3, hs3, hd3⟩
      obtain ⟨hjl, hjk⟩ := List.getElem?_eq_some_iff.mp hj
      rw [List.getElem_range] at hjk
      rw [List.length_range] at hjl
      subst hjk
      have hkl3 := hk3.len
      refine ⟨_, rfl, fun K2 hK2 => ?_⟩
      have stay : (stt W j = p → enn W j ∈ kys (kn ++ nw2)) → K2 [Sl.val (webD P T), Sl.val (lnD L), Sl.val (cD a), Sl.val (.lst (W.map wayD)), Sl.ow (knD (kn ++ nw2)), Sl.val (.lst (ly.map cD)), Sl.own ((kys nw2).map cD), Sl.val (cD p), Sl.val (natD j), Sl.val (wayD (stt W j, enn W j))] m3 := fun hh => hK2 _ _ ⟨rfl, nw2, _, _, rfl, hk3, hs3, fun k hk e => by
        by_cases z : k = j
        · subst z; exact hh e
        · exact hd3 k (by omega) e⟩
      refine ⟨_, rfl, _, ix_t0 _, _, rfl, _, eqD_str _ _, _, rfl, ?_⟩
      rw [c1_eq]
      by_cases h1 : stt W j = p
      · rw [decide_eq_true h1]
        refine ⟨_, rfl, _, ix_t1 _, _, rfl, _, dnin_kn _ _, _, rfl, ?_⟩
        by_cases h2 : enn W j ∈ kys (kn ++ nw2)
        · rw [decide_eq_true h2]
          exact stay fun _ => h2
        · rw [decide_eq_false h2]
          have hm := mem_getD hjl
          obtain ⟨l, hl, hdx⟩ := dix_kn (kn := kn ++ nw2) (a := p) (hs3 p hpk)
          have hl11 : l.length ≤ 20 := by
            have hnd : (l.map (stt W) ++ [p]).Nodup := (hk3.way _ hl).2
            have hsb : ∀ x ∈ l.map (stt W), x ∈ P := fun x hx => by
              obtain ⟨i, hi, rfl⟩ := List.mem_map.mp hx
              exact hk3.sub _ (hk3.on _ hl i hi)
            have := len_le_of_sub (List.nodup_append.mp hnd).1 hsb
            rw [List.length_map] at this
            omega
          have ea : l.map natD ++ [natD j] = (l ++ [j]).map natD := by rw [List.map_append]; rfl
          have hnew := hk3.add hjl (by rw [h1]; exact hl) h2 (hends _ hm).2
          rw [List.append_assoc] at hnew
          refine ⟨_, rfl, _, rfl, _, hdx, _, rfl, by show 1 ≤ LL; omega, lotD (l ++ [j]), ?_, _, rfl, _, rfl, _, ix_t1 _, .inr (c1 (enn W j)), rfl, by rw [List.length_map]; omega, ?_⟩
          · show (if (l.map natD).length + [natD j].length ≤ LL then some (D.tup (l.map natD ++ [natD j])) else none) = _
            rw [if_pos (by rw [List.length_map]; show l.length + 1 ≤ LL; omega), ea]; rfl
          · have ep : kvPut ((kn ++ nw2).map ent) (.inr (c1 (enn W j))) (lotD (l ++ [j])) = (kn ++ (nw2 ++ [(enn W j, l ++ [j])])).map ent := by
              rw [put_kn h2, List.append_assoc]
            have hkm : (kys nw2).length ≤ 20 := by
              rw [List.length_append] at hkl3
              rw [List.length_map]; omega
            refine ⟨_, rfl, _, rfl, _, ix_t1 _, by rw [List.length_map]; omega, ?_⟩
            refine hK2 _ _ ⟨rfl, nw2 ++ [(enn W j, l ++ [j])], Sl.val (natD j), Sl.val (wayD (stt W j, enn W j)), ?_, hnew, fun b hb => ?_, fun k hk e => ?_⟩
            · show [Sl.val (webD P T), Sl.val (lnD L), Sl.val (cD a), Sl.val (.lst (W.map wayD)), Sl.ow (.dic (kvPut ((kn ++ nw2).map ent) (.inr (c1 (enn W j))) (lotD (l ++ [j])))), Sl.val (.lst (ly.map cD)), Sl.own ((kys nw2).map cD ++ [cD (enn W j)]), Sl.val (cD p), Sl.val (natD j), Sl.val (wayD (stt W j, enn W j))] = _
              have ek : (kys nw2).map cD ++ [cD (enn W j)] = (kys (nw2 ++ [(enn W j, l ++ [j])])).map cD := by
                unfold kys
                rw [List.map_append, List.map_append]; rfl
              rw [ep, ek]
              rfl
            · have := hs3 b hb
              unfold kys at this ⊢
              rw [← List.append_assoc, List.map_append]
              exact List.mem_append_left _ this
            · by_cases z : k = j
              · subst z
                unfold kys
                simp
              · have := hd3 k (by omega) e
                unfold kys at this ⊢
                rw [← List.append_assoc, List.map_append]
                exact List.mem_append_left _ this
      · rw [decide_eq_false h1]
        exact stay fun z => absurd z h1
end K18
namespace K18
open PySem L2 G
open T hiding ckOk
open K24 hiding S_law_right S_law_right_len S_law_web S_law_web_len
end K18
namespace L2
open PySem PySem.Spec PyProof.Rows
section
variable {X : Cx} {pins : List (Addr × Obj)} {σ : St} {H : Hp} {s : Shared}
theorem sub_raw {i : Nat} {x z : Str} {k : Int} {j c : Nat} {p1 cp pos : Pos} {Q E : Value → Shared → Prop} (hN : X.N[i]? = some x) (hv : Vis X.env.scope x) (I : Inv X pins σ H s) (hσ : σ[i]? = some (some (.str z))) (hz : z.length ≤ sizeLine) (he : atI z.cps.toList k = some c)
    (fin : Q (.str ⟨#[c]⟩ (s.toks + 1)) { s with toks := s.toks + 2 }) (hs : PlainIx (.Constant (.int k) j cp)) (hd : (x == ("__debug__" : Str)) = false := by decide) (hcd : (x == ("__classdict__" : Str)) = false := by decide) :
    wpAny (model X.prog X.w) X.A (eval (.Subscript (.Name x p1) (.Constant (.int k) j cp) pos) X.env) Q E s := by
  refine Subscript_ (raw_name hN hv I hσ (fun v r => ?_) hd hcd)
  obtain ⟨t, rfl⟩ := r
  refine wpAny_Constant_int ?_
  obtain ⟨j', h1, h2, h3, h4, h5⟩ := atI_get he
  have hl : z.cps.toList.length = z.length := by simp [Str.length]
  rw [hl] at h1 h4 h5
  have hn := line63
  exact tail_any (typeIs_str _ z t) slot_str_getitem.lookup (getItem_str (c := c) (by
    have e1 : decide (k < -(2 ^ 63 : Int)) = false := decide_eq_false (by omega)
    have e2 : decide (k ≥ 2 ^ 63) = false := decide_eq_false (by omega)
    rw [e1, e2, Bool.or_false]) (by rw [h1]; simpa using h2) fin) (hs _ _)
end
def tRepS0 (to : TE) (i : Nat) (k : Int) (z : Str) : TE := fun σ H Q => to σ H fun v H1 => ∃ x w c, v = .str x ∧ σ[i]? = some (some (.str w)) ∧ w.length ≤ sizeLine ∧ atI w.cps.toList k = some c ∧ ((⟨#[c]⟩ : Str) == z) = false ∧ x.length + (x.length + 1) * z.length ≤ 16777216 ∧ Q (.str (Txt.replace x ⟨#[c]⟩ z)) H1
def tRepSS (to : TE) (i : Nat) (k : Int) (i2 : Nat) (k2 : Int) : TE := fun σ H Q => to σ H fun v H1 => ∃ x w c w2 c2, v = .str x ∧ σ[i]? = some (some (.str w)) ∧ w.length ≤ sizeLine ∧ atI w.cps.toList k = some c ∧ σ[i2]? = some (some (.str w2)) ∧ w2.length ≤ sizeLine ∧ atI w2.cps.toList k2 = some c2 ∧ c ≠ c2 ∧ x.length ≤ 1000000 ∧ Q (.str (Txt.replace x ⟨#[c]⟩ ⟨#[c2]⟩)) H1
section
variable {X : Cx} {o : Expr} {to : TE} {i i2 : Nat} {y y2 z : Str} {k k2 : Int} {j j1 : Nat} {p2 p3 c0 c1 q0 q1 apos pos : Pos}
theorem pe_replS0 (ho : PE X o to) (hN : X.N[i]? = some y) (hv : Vis X.env.scope y) (hs : PlainIx (.Constant (.int k) j c0)) (hd : (y == ("__debug__" : Str)) = false := by decide) (hcd : (y == ("__classdict__" : Str)) = false := by decide)
    (hst : starEach [.Subscript (.Name y p2) (.Constant (.int k) j c0) q0, .Constant (.str z) j1 c1] X.env = [(false, eval (.Subscript (.Name y p2) (.Constant (.int k) j c0) q0) X.env), (false, eval (.Constant (.str z) j1 c1) X.env)] := by rfl)
    (hbase : attributeBase o "replace" X.env (eval o X.env) = eval o X.env := by rfl) (hline : (apos.endLine == pos.line) = true := by rfl) :
    PE X (.Call (.Attribute o "replace" apos) [.Subscript (.Name y p2) (.Constant (.int k) j c0) q0, .Constant (.str z) j1 c1] [] pos) (tRepS0 to i k z) := by
  refine ⟨fun pins s σ H Q I h => ?_⟩
  refine PySem.Call_method2 hbase hst hline (thn (ho.run pins s σ H _ I h) fun v s1 ⟨v', H1, I1, r1, x, w, c, e1, hσ, hw, hc, hyz, hb, q⟩ => ?_)
  subst e1
  obtain ⟨tx, rfl⟩ := r1
  refine ⟨"str", _, PySem.F.plainAttrs_str, PySem.F.slot_str_replace, PySem.F.type_str_replace, typeIs_str _ _ _, (fun _ e => nomatch e), Calls.callWith_builtin rfl (Calls.evalArgs_plain (Calls.spliced_cons ?_))⟩
  refine sub_raw hN hv I1 hσ hw hc ?_ hs hd hcd
  refine Calls.spliced_cons (Calls.Constant_str (Calls.spliced_nil ?_))
  exact PySem.SC.replace (Nat.succ_ne_zero _) (Nat.succ_ne_zero _) (Nat.ne_of_lt (Nat.lt_succ_self _)) hyz hb fun t' k' => ⟨.str (Txt.replace x ⟨#[c]⟩ z), H1, I1.tok k', ⟨t', rfl⟩, q⟩
theorem pe_replSS (ho : PE X o to) (hN : X.N[i]? = some y) (hv : Vis X.env.scope y) (hs : PlainIx (.Constant (.int k) j c0)) (hN2 : X.N[i2]? = some y2) (hv2 : Vis X.env.scope y2) (hs2 : PlainIx (.Constant (.int k2) j1 c1)) (hd : (y == ("__debug__" : Str)) = false := by decide) (hcd : (y == ("__classdict__" : Str)) = false := by decide)
    (hd2 : (y2 == ("__debug__" : Str)) = false := by decide) (hcd2 : (y2 == ("__classdict__" : Str)) = false := by decide)
    (hst : starEach [.Subscript (.Name y p2) (.Constant (.int k) j c0) q0, .Subscript (.Name y2 p3) (.Constant (.int k2) j1 c1) q1] X.env = [(false, eval (.Subscript (.Name y p2) (.Constant (.int k) j c0) q0) X.env), (false, eval (.Subscript (.Name y2 p3) (.Constant (.int k2) j1 c1) q1) X.env)] := by rfl)
    (hbase : attributeBase o "replace" X.env (eval o X.env) = eval o X.env := by rfl) (hline : (apos.endLine == pos.line) = true := by rfl) :
    PE X (.Call (.Attribute o "replace" apos) [.Subscript (.Name y p2) (.Constant (.int k) j c0) q0, .Subscript (.Name y2 p3) (.Constant (.int k2) j1 c1) q1] [] pos) (tRepSS to i k i2 k2) := by
  refine ⟨fun pins s σ H Q I h => ?_⟩
  refine PySem.Call_method2 hbase hst hline (thn (ho.run pins s σ H _ I h) fun v s1 ⟨v', H1, I1, r1, x, w, c, w2, c2, e1, hσ, hw, hc, hσ2, hw2, hc2, hne, hb, q⟩ => ?_)
  subst e1
  obtain ⟨tx, rfl⟩ := r1
  refine ⟨"str", _, PySem.F.plainAttrs_str, PySem.F.slot_str_replace, PySem.F.type_str_replace, typeIs_str _ _ _, (fun _ e => nomatch e), Calls.callWith_builtin rfl (Calls.evalArgs_plain (Calls.spliced_cons ?_))⟩
  refine sub_raw hN hv I1 hσ hw hc ?_ hs hd hcd
  refine Calls.spliced_cons (sub_raw (s := { s1 with toks := s1.toks + 2 }) hN2 hv2 (I1.tok _) hσ2 hw2 hc2 ?_ hs2 hd2 hcd2)
  refine Calls.spliced_nil ?_
  have hyz : ((⟨#[c]⟩ : Str) == (⟨#[c2]⟩ : Str)) = false := by
    rw [beq_eq_false_iff_ne]
    intro e
    have : (⟨#[c]⟩ : Str).cps.toList = (⟨#[c2]⟩ : Str).cps.toList := by rw [e]
    exact hne (by simpa using this)
  have hb' : x.length + (x.length + 1) * (⟨#[c2]⟩ : Str).length ≤ 16777216 := by
    have : (⟨#[c2]⟩ : Str).length = 1 := rfl
    rw [this]; omega
  exact PySem.SC.replace (Nat.succ_ne_zero _) (Nat.succ_ne_zero _) (by show s1.toks + 1 ≠ s1.toks + 2 + 1; omega) hyz hb' fun t' k' => ⟨.str (Txt.replace x ⟨#[c]⟩ ⟨#[c2]⟩), H1, (I1.tok k'), ⟨t', rfl⟩, q⟩
end
end L2
namespace G
open PySem PySem.Spec PyProof.Rows L2
def dRepS0 (d : DE) (i : Nat) (k : Int) (z : Str) : DE := fun env m Q => d env m fun v m1 => ∃ x w c, v = .str x ∧ env[i]? = some (.val (.str w)) ∧ w.length ≤ LL ∧ atI w.cps.toList k = some c ∧ ((⟨#[c]⟩ : Str) == z) = false ∧ x.length + (x.length + 1) * z.length ≤ 16777216 ∧ Q (.str (Txt.replace x ⟨#[c]⟩ z)) m1
def dRepSS (d : DE) (i : Nat) (k : Int) (i2 : Nat) (k2 : Int) : DE := fun env m Q => d env m fun v m1 => ∃ x w c w2 c2, v = .str x ∧ env[i]? = some (.val (.str w)) ∧ w.length ≤ LL ∧ atI w.cps.toList k = some c ∧ env[i2]? = some (.val (.str w2)) ∧ w2.length ≤ LL ∧ atI w2.cps.toList k2 = some c2 ∧ c ≠ c2 ∧ x.length ≤ 1000000 ∧ Q (.str (Txt.replace x ⟨#[c]⟩ ⟨#[c2]⟩)) m1
section
variable {g : Gp} {X : Cx} {o : Expr} {d : DE} {y y2 z : Str} {k k2 : Int} {j j1 : Nat} {p2 p3 c0 c1 q0 q1 apos pos : Pos}
theorem slot_str {K : PySem.W.Frag} {c : Option Addr} {F H : Hp} {env : Env'} {m : Nat} {σ : L2.St} {i : Nat} {w : Str} (r : Rel K g c F env m σ H) (h : env[i]? = some (.val (.str w))) : σ[i]? = some (some (.str w)) := by
  obtain ⟨v, e, rp⟩ := r.slot i _ h
  have rp : Rep K g F (.str w) v := rp
  cases rp
  exact e
theorem ge_replS0 (i : Nat) (ho : GE g X o d) (hN : X.N[i]? = some y := by rfl) (hv : Vis X.env.scope y := by first | exact Or.inl rfl | exact Or.inr (Or.inl rfl) | exact Or.inr (Or.inr rfl)) (hs : PlainIx (.Constant (.int k) j c0) := by exact fun _ _ => rfl) (hd : (y == ("__debug__" : Str)) = false := by decide) (hcd : (y == ("__classdict__" : Str)) = false := by decide)
    (hst : starEach [.Subscript (.Name y p2) (.Constant (.int k) j c0) q0, .Constant (.str z) j1 c1] X.env = [(false, eval (.Subscript (.Name y p2) (.Constant (.int k) j c0) q0) X.env), (false, eval (.Constant (.str z) j1 c1) X.env)] := by rfl)
    (hbase : attributeBase o "replace" X.env (eval o X.env) = eval o X.env := by rfl) (hline : (apos.endLine == pos.line) = true := by rfl) :
    GE g X (.Call (.Attribute o "replace" apos) [.Subscript (.Name y p2) (.Constant (.int k) j c0) q0, .Constant (.str z) j1 c1] [] pos) (dRepS0 d i k z) :=
  PE.weak (pe_replS0 ho hN hv hs hd hcd hst hbase hline) fun σ H Q ⟨c, F, env, m, Q1, rl, hd, kk⟩ => ⟨c, F, env, m, _, rl, hd, fun v H1 F1 m1 x r1 f1 rp ⟨t, w, ch, e1, ew, hw, hc, hne, hb, q⟩ => by
    subst e1
    cases rp
    exact ⟨t, w, ch, rfl, slot_str r1 ew, ll hw, hc, hne, hb, kk _ H1 F1 m1 _ r1 f1 (.str _) q⟩⟩
theorem ge_replSS (i i2 : Nat) (ho : GE g X o d) (hN : X.N[i]? = some y := by rfl) (hv : Vis X.env.scope y := by first | exact Or.inl rfl | exact Or.inr (Or.inl rfl) | exact Or.inr (Or.inr rfl)) (hs : PlainIx (.Constant (.int k) j c0) := by exact fun _ _ => rfl) (hN2 : X.N[i2]? = some y2 := by rfl) (hv2 : Vis X.env.scope y2 := by first | exact Or.inl rfl | exact Or.inr (Or.inl rfl) | exact Or.inr (Or.inr rfl)) (hs2 : PlainIx (.Constant (.int k2) j1 c1) := by exact fun _ _ => rfl) (hd : (y == ("__debug__" : Str)) = false := by decide) (hcd : (y == ("__classdict__" : Str)) = false := by decide)
    (hd2 : (y2 == ("__debug__" : Str)) = false := by decide) (hcd2 : (y2 == ("__classdict__" : Str)) = false := by decide)
    (hst : starEach [.Subscript (.Name y p2) (.Constant (.int k) j c0) q0, .Subscript (.Name y2 p3) (.Constant (.int k2) j1 c1) q1] X.env = [(false, eval (.Subscript (.Name y p2) (.Constant (.int k) j c0) q0) X.env), (false, eval (.Subscript (.Name y2 p3) (.Constant (.int k2) j1 c1) q1) X.env)] := by rfl)
    (hbase : attributeBase o "replace" X.env (eval o X.env) = eval o X.env := by rfl) (hline : (apos.endLine == pos.line) = true := by rfl) :
    GE g X (.Call (.Attribute o "replace" apos) [.Subscript (.Name y p2) (.Constant (.int k) j c0) q0, .Subscript (.Name y2 p3) (.Constant (.int k2) j1 c1) q1] [] pos) (dRepSS d i k i2 k2) :=
  PE.weak (pe_replSS ho hN hv hs hN2 hv2 hs2 hd hcd hd2 hcd2 hst hbase hline) fun σ H Q ⟨c, F, env, m, Q1, rl, hd, kk⟩ => ⟨c, F, env, m, _, rl, hd, fun v H1 F1 m1 x r1 f1 rp ⟨t, w, ch, w2, ch2, e1, ew, hw, hc, ew2, hw2, hc2, hne, hb, q⟩ => by
    subst e1
    cases rp
    exact ⟨t, w, ch, w2, ch2, rfl, slot_str r1 ew, ll hw, hc, slot_str r1 ew2, ll hw2, hc2, hne, hb, kk _ H1 F1 m1 _ r1 f1 (.str _) q⟩⟩
end
end G
namespace G
open PySem L2
section
variable {g : Gp} {X : Cx} {e : Expr} {d : DE} {pos : Pos}
end
end G
namespace G
open PySem L2
def dDic0 : DE := fun env m Q => Q (.dic []) m
theorem gnw_dic0 {g : Gp} {X : Cx} {pos : Pos} : GNw g X (.Dict [] [] pos) dDic0 := PE.weak pe_dnewK fun σ H Q ⟨c, F, env, m, Q1, r, q, k⟩ p hp => by
  have n := New.lay (F := F) (o := .dK []) r.sub hp
  have hc : c ≠ some p := fun z => by obtain ⟨_, _, y, _⟩ := r.ck p z; rw [y] at hp; cases hp
  exact k p _ F m _ _ (r.new n) (n.fresh r.ck) hp (ex_none r.sub hp) hc upd_same (show ObR X.K g F p (.dic []) (.dK []) from ⟨[], rfl, rfl, .nil⟩) q
end G
namespace G
open PySem L2
end G
namespace G
open PySem L2
section
variable {g : Gp} {X : Cx} {elt tg iter tg1 iter1 : Expr} {ifs ifs1 : List Expr} {scope : Scope} {own : List (Str × Nat)} {pos : Pos} {di di1 : DL} {T T1 : TG} {f f1 : D → Env' → Option Env'} {js js1 : List Nat} {dt dt1 : DT} {de : DE}
theorem gs_setLc2 {vs vs1 : List Nat} {i : Nat} {y : Str} {py spos : Pos} (hc : X.calm = true) (hN : X.N.Nodup) (hy : X.N[i]? = some y) (hyl : X.env.scope.names.lookup y = some .local)
    (hsw : swapsWith (.ListComp elt [⟨tg, iter, ifs, 0⟩, ⟨tg1, iter1, ifs1, 0⟩] scope pos) (some (.Name y py)) spos.line X.env = pure true) (hi : GI true g X tg iter di) (ok : BlkOk X.N X.env.scope scope own) (hg : AllB X scope fun Y => GG g Y tg T f js) (ht : AllB X scope fun Y => GTs g Y ifs dt)
    (hi1 : AllB X scope fun Y => GI false g Y tg1 iter1 di1) (hg1 : AllB X scope fun Y => GG g Y tg1 T1 f1 js1) (ht1 : AllB X scope fun Y => GTs g Y ifs1 dt1) (he : AllB X scope fun Y => GE g Y elt de)
    (hv : own.map (·.2) = vs := by rfl) (hv1 : ∀ i ∈ vs1, i ∈ own.map (·.2) := by decide) (hj : ∀ j ∈ js, j ∈ own.map (·.2) := by decide) (hj1 : ∀ j ∈ js1, j ∈ vs1 := by decide) (hs : ∀ x, foldedSetIterable iter X.env x = pure x := by intro _; rfl) (hs1 : ∀ env x, foldedSetIterable iter1 env x = pure x := by intro _ _; rfl) :
    GS g X (.Assign [.Name y py] (.ListComp elt [⟨tg, iter, ifs, 0⟩, ⟨tg1, iter1, ifs1, 0⟩] scope pos) spos) (dAsg i (dNew (dLc2 di f dt di1 f1 dt1 de vs vs1))) := by
  subst hv
  exact ⟨fun pins s σ H D I q => (ps_setLc2 (wi := tI X.K g true di) (g := T) (tt := tT X.K g dt) (wi1 := tI X.K g false di1) (g1 := T1) (tt1 := tT X.K g dt1) (te := tD X.K g de) (vs1 := vs1) hc hN hy hyl hsw hi ok hv1 (fun s H C cl fp => (hg s H C cl fp).pg) (fun s H C cl fp => ht s H C cl fp) (fun s H C cl fp => hi1 s H C cl fp) (fun s H C cl fp => (hg1 s H C cl fp).pg) (fun s H C cl fp => ht1 s H C cl fp) (fun s H C cl fp => he s H C cl fp) hs hs1).run pins s σ H D I
    (asg_weak (fun σ H Q z => lc2_weak (T := T) (T1 := T1) _ vs1 hj hj1 (hg s H 0 [] []).ok (hg1 s H 0 [] []).ok σ H Q (new_weak σ H Q z)) D σ H q)⟩
end
end G
namespace G
open PySem L2
theorem len4 {α : Type} {l : List α} (h : l.length = 4) : ∃ a b c d, l = [a, b, c, d] := by
  match l, h with
  | [a, b, c, d], _ => exact ⟨a, b, c, d, rfl⟩
section
variable {g : Gp} {X : Cx} {a b e : Expr} {es : List Expr} {d : DE} {dl : DL} {dr : DA} {pos : Pos}
theorem gs_mixT4 {cc dd : Expr} {i j l n : Nat} {x y z u : Str} {px py pz pu pt : Pos} {kt k2 pt2} (hc : X.calm = true) (hN : X.N.Nodup) (hi : X.N[i]? = some x) (hj : X.N[j]? = some y) (hl : X.N[l]? = some z) (hn4 : X.N[n]? = some u)
    (hx : Loc X.env.scope x) (hy : Loc X.env.scope y) (hz : Loc X.env.scope z) (hu4 : Loc X.env.scope u) (ha : GMx g X [a, b, cc, dd] dr)
    (hs : swapsWithSole [.Tuple [.Name x px, .Name y py, .Name z pz, .Name u pu] kt pt] (.Tuple [a, b, cc, dd] k2 pt2) pos.line X.env = pure false := by rfl) (hw : swappedStores [.Tuple [.Name x px, .Name y py, .Name z pz, .Name u pu] kt pt] (.Tuple [a, b, cc, dd] k2 pt2) X.env = pure none := by rfl)
    (hh : (assignEach [.Tuple [.Name x px, .Name y py, .Name z pz, .Name u pu] kt pt] X.env).map (·.2) = [assign (.Tuple [.Name x px, .Name y py, .Name z pz, .Name u pu] kt pt) X.env] := by rfl)
    (hf : X.fn x = true ∨ X.env.scope.names.lookup x = some .local := by first | exact .inl rfl | exact .inr rfl | assumption) (hf2 : X.fn y = true ∨ X.env.scope.names.lookup y = some .local := by first | exact .inl rfl | exact .inr rfl | assumption) (hf3 : X.fn z = true ∨ X.env.scope.names.lookup z = some .local := by first | exact .inl rfl | exact .inr rfl | assumption) (hf4 : X.fn u = true ∨ X.env.scope.names.lookup u = some .local := by first | exact .inl rfl | exact .inr rfl | assumption)
    (hn : (assignEach [.Name x px, .Name y py, .Name z pz, .Name u pu] X.env).length = 4 := by rfl) (hst : (assignEach [.Name x px, .Name y py, .Name z pz, .Name u pu] X.env).findIdx? (·.1) = none := by rfl)
    (he1 : (assignEach [.Name x px, .Name y py, .Name z pz, .Name u pu] X.env).map (·.2) = assign (.Name x px) X.env :: (assignEach [.Name y py, .Name z pz, .Name u pu] X.env).map (·.2) := by rfl) (he2 : (assignEach [.Name y py, .Name z pz, .Name u pu] X.env).map (·.2) = assign (.Name y py) X.env :: (assignEach [.Name z pz, .Name u pu] X.env).map (·.2) := by rfl) (he3 : (assignEach [.Name z pz, .Name u pu] X.env).map (·.2) = assign (.Name z pz) X.env :: (assignEach [.Name u pu] X.env).map (·.2) := by rfl) (he4 : (assignEach [.Name u pu] X.env).map (·.2) = assign (.Name u pu) X.env :: (assignEach [] X.env).map (·.2) := by rfl) :
    GS g X (.Assign [.Tuple [.Name x px, .Name y py, .Name z pz, .Name u pu] kt pt] (.Tuple [a, b, cc, dd] k2 pt2) pos) (dMix [i, j, l, n] dr) :=
  PS.weak (ps_asg (pe_tup ha) (pg_tup hc (pgs_cons (pg_name hN hi hx hf) (pgs_cons (pg_name hN hj hy hf2) (pgs_cons (pg_name hN hl hz hf3) (pgs_cons (pg_name hN hn4 hu4 hf4) pgs_nil he4) he3) he2) he1) hn hst) hs hw hh) fun D σ H ⟨c, F, env, m, E, r, h, o⟩ =>
  ⟨c, F, env, m, _, r, h, fun vs H1 F1 m1 ss r1 f1 it ⟨hl, q⟩ => by
    obtain ⟨v1, v2, v3, v4, rfl⟩ := len4 (it.length.trans hl)
    refine ⟨ll (show 4 ≤ LL by decide), fun t ht => ⟨t, _, rfl, SqT.of upd_same, rfl, v1, _, rfl, v2, _, rfl, v3, _, rfl, v4, _, rfl, rfl, ?_⟩⟩
    have nw := New.lay (F := F1) (o := .tup [v1, v2, v3, v4]) r1.sub ht
    have it2 : ItR X.K g c H F1 (upd H1 t (.tup [v1, v2, v3, v4])) ss [v1, v2, v3, v4] := it.up nw.hh
    obtain ⟨ra, ev⟩ := items_end [i, j, l, n] r (r1.new nw) (f1.trans (nw.fresh r1.ck)) it2
    obtain ⟨s1, s2, s3, s4, rfl⟩ := len4 hl
    exact o.nx _ _ F1 _ m1 ra ev q⟩
end
end G
namespace K19
open PySem L2 G
open T hiding ckOk empty_is len11 mem_out out_len out_nd plS_inj
open SH hiding repl1 repl_pl str_ext
open K24 hiding S_law_right S_law_right_len d_law_right n_law_right pm10
open K18 hiding S_law_web S_law_web_len d_law_web law_law_web n_law_web
def acf (P : List Nat) (T : List (Nat × Nat)) : List (List Bool) := (alls T.length).filter fun L => (fo (ways T L) P.length P).isSome
open Classical in
noncomputable def cyf (T : List (Nat × Nat)) : List (List Bool) := (alls T.length).filter fun L => decide (∀ k, k < T.length → InRing (ways T L) k)
def gdf (P : List Nat) (T : List (Nat × Nat)) (p : Nat) : List (List Bool) := (acf P T).filter fun L => decide (frn (ways T L) P = [p])
def S_is_place : G.Spec := fun as m Q => ∃ P T a, PlOk P ∧ a ∈ P ∧ as = [.val (webD P T), .val (cD a)] ∧ Q (.bl true) m
def S_check_place : G.Spec := fun as m Q => ∃ P T a, PlOk P ∧ a ∈ P ∧ as = [.val (webD P T), .val (cD a)] ∧ Q .non m
def S_all_leanings : G.Spec := fun as m Q => ∃ P T, WbOk P T ∧ T.length ≤ 6 ∧ as = [.val (webD P T)] ∧ Q (.lst ((alls T.length).map lnD)) m
def S_ringless_list : G.Spec := fun as m Q => ∃ P T, WbOk P T ∧ T.length ≤ 6 ∧ as = [.val (webD P T)] ∧ Q (.lst ((acf P T).map lnD)) m
def S_ringless : G.Spec := fun as m Q => ∃ P T, WbOk P T ∧ T.length ≤ 6 ∧ as = [.val (webD P T)] ∧ Q (.tup ((acf P T).map lnD)) m
def S_ringed : G.Spec := fun as m Q => ∃ P T, WbOk P T ∧ T.length ≤ 6 ∧ as = [.val (webD P T)] ∧ Q (.tup ((cyf T).map lnD)) m
def S_with_front : G.Spec := fun as m Q => ∃ P T a, WbOk P T ∧ a ∈ P ∧ T.length ≤ 6 ∧ as = [.val (webD P T), .val (cD a)] ∧ Q (.tup ((gdf P T a).map lnD)) m
def S_law_leanings : G.Spec := fun as m Q => ∃ n : Nat, n ≤ 11 ∧ as = [.val (natD n)] ∧ Q (.lst ((alls n).map lnD)) m
def S_law_joined : G.Spec := fun as m Q => ∃ P E, PlOk P ∧ Ok P E ∧ E.length ≤ 100 ∧ as = [.val (plD P), .val (.tup (E.map wayD))] ∧ Q (natD (nc P E)) m
def S_law_counted : Nat → G.Spec
  | 0 => fun _ _ _ => False
  | n + 1 => fun as m Q => ∃ P T x y v, PlOk P ∧ Ok P T ∧ T.length ≤ n ∧ n ≤ 20 ∧ Tv P T x y v ∧ as = [.val (plD P), .val (.tup (T.map wayD)), .val (natD x), .val (natD y)] ∧ Q (natD v) m
def S_law_right : G.Spec := fun as m Q => m ≤ 1000 ∧ as = [.cask] ∧ ∀ m', Q (.bl true) m'
theorem S_is_place_len : ∀ as m Q, S_is_place as m Q → as.length = 2 := by rintro as m Q ⟨_, _, _, _, _, rfl, _⟩; rfl
theorem S_check_place_len : ∀ as m Q, S_check_place as m Q → as.length = 2 := by rintro as m Q ⟨_, _, _, _, _, rfl, _⟩; rfl
theorem S_all_leanings_len : ∀ as m Q, S_all_leanings as m Q → as.length = 1 := by rintro as m Q ⟨_, _, _, _, rfl, _⟩; rfl
theorem S_ringless_list_len : ∀ as m Q, S_ringless_list as m Q → as.length = 1 := by rintro as m Q ⟨_, _, _, _, rfl, _⟩; rfl
theorem S_ringless_len : ∀ as m Q, S_ringless as m Q → as.length = 1 := by rintro as m Q ⟨_, _, _, _, rfl, _⟩; rfl
theorem S_ringed_len : ∀ as m Q, S_ringed as m Q → as.length = 1 := by rintro as m Q ⟨_, _, _, _, rfl, _⟩; rfl
theorem S_with_front_len : ∀ as m Q, S_with_front as m Q → as.length = 2 := by rintro as m Q ⟨_, _, _, _, _, _, rfl, _⟩; rfl
theorem S_law_leanings_len : ∀ as m Q, S_law_leanings as m Q → as.length = 1 := by rintro as m Q ⟨_, _, rfl, _⟩; rfl
theorem S_law_joined_len : ∀ as m Q, S_law_joined as m Q → as.length = 2 := by rintro as m Q ⟨_, _, _, _, _, rfl, _⟩; rfl
theorem S_law_counted_len (n : Nat) : ∀ as m Q, S_law_counted n as m Q → as.length = 4 := by
  cases n with
  | zero => intro as m Q h; exact absurd h id
  | succ n => rintro as m Q ⟨_, _, _, _, _, _, _, _, _, _, rfl, _⟩; rfl
theorem S_law_counted_zero : ∀ as m Q, ¬ S_law_counted 0 as m Q := fun _ _ _ h => h
theorem S_law_right_len : ∀ as m Q, S_law_right as m Q → as.length = 1 := by rintro as m Q ⟨_, rfl, _⟩; rfl
end K19
namespace K19
open PySem L2 G
open T hiding ckOk empty_is len11 mem_out out_len out_nd plS_inj
open SH hiding repl1 repl_pl str_ext
open K24 hiding S_law_right S_law_right_len d_law_right n_law_right pm10
open K18 hiding S_law_web S_law_web_len d_law_web law_law_web n_law_web
def pm0 {α : Type} : List α → List α
  | [x0] => [x0]
  | l => l
def pm10 {α : Type} : List α → List α
  | [x0, x1] => [x1, x0]
  | l => l
def d_is_place : DS := (dRet (dAndV (dIsi isStrD (dVarB 1)) (dAndV (dOp eqD (dCallB lenD0 (dConsL (dVarB 1) dNilL)) (dC (.int 1))) (dOp inD (dVarB 1) (dPl (dVar 0))))))
abbrev n_is_place : Nat := 2
def d_check_place : DS := (dIf (dNot (dTest (dCall S_is_place (dConsA (dVar 0) (dConsA (dVar 1) dNilA))))) dNever dNext)
abbrev n_check_place : Nat := 2
def d_all_leanings : DS := (dSeq (dAsg 1 (dNew (dLst (dConsL (dC (.str "")) dNilL))))
  (dSeq (dFor (dISrc (dTs (dVar 0))) (tgN 2) (dAsg 1 (dNew (dLc2 (dISrc (dVarB 1)) (tgN 3) dYes (dISrc (dC (.str "+-"))) (tgN 4) dYes (dOp addD (dVarB 3) (dVarB 4)) [3, 4] [4]))))
  (dRet (dVar 1))))
abbrev n_all_leanings : Nat := 5
def d_ringless_list : DS := (dRet (dNew (dLc (dISrc (dCall S_all_leanings (dConsA (dVar 0) dNilA))) (tgN 1) (dTest (dCall S_has_no_ring (dConsA (dVar 0) (dConsA (dVar 1) dNilA)))) (dVar 1) [1])))
abbrev n_ringless_list : Nat := 2
def d_ringless : DS := (dSeq (dDrop (dCall S_check_web (dConsA (dVar 0) dNilA)))
  (dRet (dCallB tupleD (dConsL (dCall S_ringless_list (dConsA (dVar 0) dNilA)) dNilL))))
abbrev n_ringless : Nat := 1
def d_ringed : DS := (dSeq (dDrop (dCall S_check_web (dConsA (dVar 0) dNilA)))
  (dRet (dCallB tupleD (dConsL (dNew (dLc (dISrc (dCall S_all_leanings (dConsA (dVar 0) dNilA))) (tgN 1) (dTest (dCall S_is_all_rings (dConsA (dVar 0) (dConsA (dVar 1) dNilA)))) (dVar 1) [1])) dNilL))))
abbrev n_ringed : Nat := 2
def d_with_front : DS := (dSeq (dDrop (dCall S_check_web (dConsA (dVar 0) dNilA)))
  (dSeq (dDrop (dCall S_check_place (dConsA (dVar 0) (dConsA (dVar 1) dNilA))))
  (dRet (dCallB tupleD (dConsL (dNew (dLc (dISrc (dCall S_ringless_list (dConsA (dVar 0) dNilA))) (tgN 2) (dTest (dOp eqD (dCall S_front_places (dConsA (dVar 0) (dConsA (dVar 2) dNilA))) (dVarB 1))) (dVar 2) [2])) dNilL)))))
abbrev n_with_front : Nat := 3
def d_law_leanings : DS := (dSeq (dAsg 1 (dNew (dLst (dConsL (dC (.str "")) dNilL))))
  (dSeq (dFor (dIRng (dVar 0)) (tgN 2) (dAsg 1 (dOp addD (dNew (dLc (dISrc (dVarB 1)) (tgN 3) dYes (dOp addD (dVarB 3) (dC (.str "+"))) [3])) (dNew (dLc (dISrc (dVarB 1)) (tgN 3) dYes (dOp addD (dVarB 3) (dC (.str "-"))) [3])))))
  (dRet (dNew (dCallN sortedD (dConsL (dVarB 1) dNilL))))))
abbrev n_law_leanings : Nat := 4
def d_law_joined : DS := (dSeq (dAsg 2 (dNew (dCallN listD (dConsL (dVarB 0) dNilL))))
  (dSeq (dFor (dISrc (dVar 1)) (tgN 3) (dSeq (dAsg 4 (dNew (dLc (dISrc (dVarB 2)) (tgN 5) (dOr (dTest (dOp inD (dOp ixD (dVarB 3) (dC (.int 0))) (dVarB 5))) (dTest (dOp inD (dOp ixD (dVarB 3) (dC (.int 1))) (dVarB 5)))) (dVar 5) [5])))
  (dAsg 2 (dOp addD (dNew (dLc (dISrc (dVarB 2)) (tgN 5) (dTest (dOp notInD (dVarB 5) (dVarB 4))) (dVar 5) [5])) (dNew (dLst (dConsL (dMt D.isS joinD (dC (.str "")) (dConsL (dVarB 4) dNilL)) dNilL)))))))
  (dRet (dCallB lenD0 (dConsL (dVarB 2) dNilL)))))
abbrev n_law_joined : Nat := 6
def d_law_counted (n : Nat) : DS := (dSeq (dIf (dTest (dOp eqD (dCallB lenD0 (dConsL (dVarB 1) dNilL)) (dC (.int 0)))) (dRet (dC (.int 1))) dNext)
  (dSeq (dAsgT (tgT (tgCons (tgN 4) (tgCons (tgN 5) tgNil)) 2) (dTup (dConsL (dSlice (dVarB 1) dNoP (dP (dC (.int (-1))))) (dConsL (dOp ixD (dVarB 1) (dC (.int (-1)))) dNilL))))
  (dSeq (dIf (dTest (dOp eqD (dOp ixD (dVarB 5) (dC (.int 0))) (dOp ixD (dVarB 5) (dC (.int 1))))) (dRet (dOp mulD (dVarB 3) (dCall (S_law_counted n) (dConsA (dVar 0) (dConsA (dVar 4) (dConsA (dVar 2) (dConsA (dVar 3) dNilA))))))) dNext)
  (dSeq (dAsg 6 (dRepS0 (dVar 0) 5 (1) ""))
  (dSeq (dAsg 7 (dCallB tupleD (dConsL (dNew (dLc (dISrc (dVarB 4)) (tgN 8) dYes (dRepSS (dVar 8) 5 (1) 5 (0)) [8])) dNilL)))
  (dSeq (dIf (dTest (dOp gtD (dCall S_law_joined (dConsA (dVar 0) (dConsA (dVar 4) dNilA))) (dCall S_law_joined (dConsA (dVar 0) (dConsA (dVar 1) dNilA))))) (dRet (dOp mulD (dVarB 2) (dCall (S_law_counted n) (dConsA (dVar 6) (dConsA (dVar 7) (dConsA (dVar 2) (dConsA (dVar 3) dNilA))))))) dNext)
  (dRet (dOp addD (dCall (S_law_counted n) (dConsA (dVar 0) (dConsA (dVar 4) (dConsA (dVar 2) (dConsA (dVar 3) dNilA))))) (dCall (S_law_counted n) (dConsA (dVar 6) (dConsA (dVar 7) (dConsA (dVar 2) (dConsA (dVar 3) dNilA)))))))))))))
abbrev n_law_counted : Nat := 9
def d_law_right : DS := (dSeq (dAsgT (tgT (tgCons (tgN 1) (tgCons (tgN 2) tgNil)) 2) (dCall S_law_web (dConsC 0 (dConsA (dC (.int 4)) (dConsA (dC (.int 5)) dNilA)))))
  (dSeq (dMix [3, 4, 5, 6] (dConsA (dMake (dConsA (dVar 1) (dConsA (dVar 2) dNilA))) (dConsW (dNew (dLst dNilL)) (dConsW (dNew (dLst dNilL)) (dConsW dDic0 dNilA)))))
  (dSeq (dFor (dISrc (dCall S_law_leanings (dConsA (dCallB lenD0 (dConsL (dVarB 2) dNilL)) dNilA))) (tgN 7) (dSeq (dAsg 8 (dCall S_law_ways (dConsA (dVar 2) (dConsA (dVar 7) dNilA))))
  (dSeq (dAsg 9 (dNew (dLc (dIRng (dCallB lenD0 (dConsL (dVarB 8) dNilL))) (tgN 15) dYes (dCall S_law_in_ring (dConsA (dVar 8) (dConsA (dVar 15) dNilA))) [15])))
  (dSeq (dAsg 10 (dNew (dLc (dISrc (dVarB 8)) (tgN 16) dYes (dOp ixD (dVarB 16) (dC (.int 1))) [16])))
  (dSeq (dAsg 12 (dMt D.isS joinD (dC (.str "")) (dConsL (dNew (dLc (dISrc (dVarB 1)) (tgN 11) (dTest (dOp notInD (dVarB 11) (dVarB 10))) (dVar 11) [11])) dNilL)))
  (dSeq (dIf (dTest (dOp notInD (dC (.bl true)) (dVarB 9))) (dSeq (dApp 4 (dVar 7))
  (dSetD 6 (dOp addD (dGetK (dVarB 6) (dVar 12) (dTup dNilL)) (dTup (dConsL (dVar 7) dNilL))) (dVar 12))) dNext)
  (dIf (dTest (dOp notInD (dC (.bl false)) (dVarB 9))) (dApp 5 (dVar 7)) dNext)))))))
  (dSeq (dIf (dTest (dOp neD (dNew (dLst (dConsL (dCall S_ringless (dConsA (dVar 3) dNilA)) (dConsL (dCallK S_ringless pm0 (dConsA (dVar 3) dNilA)) dNilL)))) (dNew (dRepL (dNew (dLst (dConsL (dCallB tupleD (dConsL (dVarB 4) dNilL)) dNilL))) (dC (.int 2)))))) (dRet (dC (.bl false))) dNext)
  (dSeq (dIf (dTest (dOp neD (dNew (dLst (dConsL (dCall S_ringed (dConsA (dVar 3) dNilA)) (dConsL (dCallK S_ringed pm0 (dConsA (dVar 3) dNilA)) dNilL)))) (dNew (dRepL (dNew (dLst (dConsL (dCallB tupleD (dConsL (dVarB 5) dNilL)) dNilL))) (dC (.int 2)))))) (dRet (dC (.bl false))) dNext)
  (dSeq (dIf (dTest (dOp neD (dCallB lenD0 (dConsL (dVarB 4) dNilL)) (dCall (S_law_counted 6) (dConsA (dVar 1) (dConsA (dVar 2) (dConsA (dC (.int 2)) (dConsA (dC (.int 0)) dNilA))))))) (dRet (dC (.bl false))) dNext)
  (dSeq (dIf (dTest (dOp neD (dCallB lenD0 (dConsL (dVarB 5) dNilL)) (dCall (S_law_counted 6) (dConsA (dVar 1) (dConsA (dVar 2) (dConsA (dC (.int 0)) (dConsA (dC (.int 2)) dNilA))))))) (dRet (dC (.bl false))) dNext)
  (dSeq (dAsg 13 (dOp eqD (dCall S_law_joined (dConsA (dVar 1) (dConsA (dVar 2) dNilA))) (dC (.int 1))))
  (dSeq (dFor (dISrc (dVar 1)) (tgN 11) (dSeq (dAsg 14 (dCall S_with_front (dConsA (dVar 3) (dConsA (dVar 11) dNilA))))
  (dSeq (dIf (dOr (dTest (dOp neD (dVarB 14) (dGetK (dVarB 6) (dVar 11) (dTup dNilL)))) (dTest (dOp neD (dCallK S_with_front pm10 (dConsA (dVar 11) (dConsA (dVar 3) dNilA))) (dVarB 14)))) (dRet (dC (.bl false))) dNext)
  (dIf (dAnd (dTest (dVar 13)) (dTest (dOp neD (dCallB lenD0 (dConsL (dVarB 14) dNilL)) (dCall (S_law_counted 6) (dConsA (dVar 1) (dConsA (dVar 2) (dConsA (dC (.int 1)) (dConsA (dC (.int 0)) dNilA)))))))) (dRet (dC (.bl false))) dNext))))
  (dRet (dC (.bl true))))))))))))
abbrev n_law_right : Nat := 17
end K19
namespace K19
open PySem L2 G
open T hiding ckOk empty_is len11 mem_out out_len out_nd plS_inj
open SH hiding repl1 repl_pl str_ext
open K24 hiding S_law_right S_law_right_len d_law_right n_law_right pm10
open K18 hiding S_law_web S_law_web_len d_law_web law_law_web n_law_web
theorem law_is_place : ∀ as m Q, S_is_place as m Q → d_is_place (padn n_is_place as) m (fin Q) := by
  rintro as m Q ⟨P, T, a, hP, ha, rfl, q⟩
  refine ⟨_, rfl, true, rfl, true, rfl, ?_⟩
  refine ⟨_, rfl, _, rfl, .bl true, rfl, true, rfl, ?_⟩
  refine ⟨_, rfl, _, rfl, plS P, T.map tS, rfl, .bl true, ?_, q⟩
  rw [in_c, decide_eq_true ha]
theorem law_check_place : ∀ as m Q, S_check_place as m Q → d_check_place (padn n_check_place as) m (fin Q) := by
  rintro as m Q ⟨P, T, k, hP, hk, rfl, q⟩
  exact ⟨_, rfl, _, rfl, P, T, k, hP, hk, rfl, true, rfl, q⟩
theorem add_sgn (L : List Bool) (b : Bool) (h : L.length ≤ 11) : addD (lnD L) (.str (c1 (sgn b))) = some (lnD (L ++ [b])) := by
  have hll := llv
  show (if (lnS L).length + (c1 (sgn b)).length ≤ LL then some (D.str (lnS L ++ c1 (sgn b))) else none) = _
  have e1 : (lnS L).length = L.length := by show (L.map sgn).length = _; rw [List.length_map]
  have e2 : (c1 (sgn b)).length = 1 := rfl
  rw [if_pos (by rw [e1, e2]; omega)]
  congr 2
  unfold lnS
  rw [List.map_append]
  show (⟨(L.map sgn).toArray ++ #[sgn b]⟩ : Str) = _
  simp
theorem alls_len : ∀ n, (alls n).length = 2 ^ n
  | 0 => rfl
  | n + 1 => by
    have key : ∀ l : List (List Bool), (l.flatMap fun L => [L ++ [true], L ++ [false]]).length = 2 * l.length := fun l => by
      induction l with
      | nil => rfl
      | cons x l ih => rw [List.flatMap_cons, List.length_append, ih]; simp only [List.length_cons, List.length_nil]; omega
    show ((alls n).flatMap _).length = _
    rw [key, alls_len n, Nat.pow_succ]; omega
theorem two6 {n : Nat} (h : n ≤ 6) : 2 ^ n ≤ 64 := Nat.le_trans (Nat.pow_le_pow_right (by decide) h) (by decide)
theorem lc2_pm (e0 e1 e2 e3 e4 : Sl) : ∀ (xs : List (List Bool)) (m : Nat) (Q : List D → Nat → Prop), (∀ L ∈ xs, L.length ≤ 11) → Q ((xs.flatMap fun L => [L ++ [true], L ++ [false]]).map lnD) m →
    Lc2R (tgN 3) dYes (dISrc (dC (.str "+-"))) (tgN 4) dYes (dOp addD (dVarB 3) (dVarB 4)) [4] [e0, e1, e2, e3, e4] (xs.map lnD) m Q
  | [], m, Q, _, q => q
  | L :: r, m, Q, h, q => by
    refine ⟨_, rfl, ?_⟩
    dsimp only [dYes]
    rw [if_pos rfl]
    have hL := h L (by simp)
    have es : charsD (Str.ofString "+-") = [true, false].map fun b => D.str (c1 (sgn b)) := by
      have e : (Str.ofString "+-") = plS [43, 45] := by decide +kernel
      rw [e, chars_plS]; rfl
    refine ⟨_, rfl, ?_⟩
    show (charsD (Str.ofString "+-")).length ≤ 100 ∧ LcR _ _ _ _ (charsD (Str.ofString "+-")) _ _
    rw [es]
    refine ⟨by decide, ?_⟩
    refine lcR_m (fun b => D.str (c1 (sgn b))) (fun b => lnD (L ++ [b])) [true, false] m _ (fun b _ => ⟨_, rfl, fun m Q q => ⟨_, rfl, _, rfl, _, add_sgn L b hL, q⟩⟩) ?_
    refine lc2_pm e0 e1 e2 _ _ r m _ (fun L hL => h L (by simp [hL])) ?_
    rw [List.flatMap_cons, List.map_append] at q
    exact q
theorem law_all_leanings : ∀ as m Q, S_all_leanings as m Q → d_all_leanings (padn n_all_leanings as) m (fin Q) := by
  rintro as m Q ⟨P, T, hW, h6, rfl, q⟩
  have hll := llv
  refine ⟨by show 1 ≤ LL; omega, ?_⟩
  refine ⟨_, rfl, plS P, T.map tS, rfl, _, rfl, ?_⟩
  show ForR _ _ ((T.map tS).map D.str) _ _ _
  rw [ts_map]
  refine forR_l wayD T (fun i env m' => m' = m ∧ ∃ s2, env = [.val (webD P T), .val (.lst ((alls i).map lnD)), s2, .no, .no]) ?_ ?_ _ _ ⟨rfl, .no, ?_⟩
  · rintro env m' ⟨rfl, s2, rfl⟩
    exact ⟨_, rfl, q⟩
  · rintro i e he env m' ⟨rfl, s2, rfl⟩
    have hi : i < T.length := (List.getElem?_eq_some_iff.mp he).1
    refine ⟨_, rfl, fun K hK => ?_⟩
    have hl := alls_len i
    have h2 : 2 ^ i ≤ 32 := Nat.le_trans (Nat.pow_le_pow_right (by decide) (show i ≤ 5 by omega)) (by decide)
    refine ⟨_, rfl, _, rfl, by rw [List.length_map]; omega, ?_⟩
    refine lc2_pm _ _ _ _ _ (alls i) m' _ (fun L hL => by have := mem_alls.mp hL; omega) ?_
    exact hK _ _ ⟨rfl, _, rfl⟩
  · have e0 : (Str.ofString "") = lnS [] := by decide +kernel
    show [Sl.val (webD P T), Sl.val (D.lst [D.str (Str.ofString "")]), Sl.no, Sl.no, Sl.no] = _
    rw [e0]; rfl
theorem acf_len {P : List Nat} {T : List (Nat × Nat)} (h6 : T.length ≤ 6) : (acf P T).length ≤ 64 := by
  have := two6 h6
  have h := List.length_filter_le (fun L => (fo (ways T L) P.length P).isSome) (alls T.length)
  rw [alls_len] at h
  unfold acf; omega
theorem acf_lnd {P : List Nat} {T : List (Nat × Nat)} (hW : WbOk P T) {L : List Bool} (h : L ∈ acf P T) : Lnd P T L := ⟨hW, mem_alls.mp (List.mem_filter.mp h).1⟩
theorem law_ringless_list : ∀ as m Q, S_ringless_list as m Q → d_ringless_list (padn n_ringless_list as) m (fin Q) := by
  rintro as m Q ⟨P, T, hW, h6, rfl, q⟩
  have hll := llv
  have h2 := two6 h6
  have hl := alls_len T.length
  refine ⟨_, rfl, P, T, hW, h6, rfl, _, rfl, by rw [List.length_map]; omega, ?_⟩
  refine lcR_fm lnD (fun L => (fo (ways T L) P.length P).isSome) lnD (alls T.length) m _ (fun L hL => ⟨_, rfl, fun m Q q => ?_, fun _ m Q q => ⟨_, rfl, q⟩⟩) q
  exact ⟨_, rfl, _, rfl, P, T, L, ⟨hW, mem_alls.mp hL⟩, rfl, _, rfl, q⟩
theorem law_ringless : ∀ as m Q, S_ringless as m Q → d_ringless (padn n_ringless as) m (fin Q) := by
  rintro as m Q ⟨P, T, hW, h6, rfl, q⟩
  exact ⟨_, rfl, P, T, rfl, _, rfl, P, T, hW, h6, rfl, _, rfl, q⟩
open Classical in
theorem law_ringed : ∀ as m Q, S_ringed as m Q → d_ringed (padn n_ringed as) m (fin Q) := by
  rintro as m Q ⟨P, T, hW, h6, rfl, q⟩
  have hll := llv
  have h2 := two6 h6
  have hl := alls_len T.length
  refine ⟨_, rfl, P, T, rfl, _, rfl, P, T, hW, h6, rfl, _, rfl, by rw [List.length_map]; omega, ?_⟩
  refine lcR_fm lnD (fun L => decide (∀ k, k < T.length → InRing (ways T L) k)) lnD (alls T.length) m _ (fun L hL => ⟨_, rfl, fun m Q q => ?_, fun _ m Q q => ⟨_, rfl, q⟩⟩) ⟨_, rfl, q⟩
  refine ⟨_, rfl, _, rfl, P, T, L, ⟨hW, mem_alls.mp hL⟩, rfl, fun b hb => ⟨_, rfl, ?_⟩⟩
  have : b = decide (∀ k, k < T.length → InRing (ways T L) k) := by rw [Bool.eq_iff_iff, hb, decide_eq_true_eq]
  rw [this]; exact q
theorem eq_plc (l : List Nat) (a : Nat) : eqD (plD l) (cD a) = some (.bl (decide (l = [a]))) := by
  show eqD (.str (plS l)) (.str (c1 a)) = _
  rw [eqD_str]
  congr 2
  exact decide_eq_decide.mpr ⟨fun h => K18.plS_inj (a := l) (b := [a]) h, fun h => by rw [h]; rfl⟩
theorem law_with_front : ∀ as m Q, S_with_front as m Q → d_with_front (padn n_with_front as) m (fin Q) := by
  rintro as m Q ⟨P, T, a, hW, ha, h6, rfl, q⟩
  have hll := llv
  have hl := acf_len (P := P) h6
  refine ⟨_, rfl, P, T, rfl, _, rfl, _, rfl, P, T, a, hW.pl, ha, rfl, _, rfl, P, T, hW, h6, rfl, _, rfl, by rw [List.length_map]; omega, ?_⟩
  refine lcR_fm lnD (fun L => decide (frn (ways T L) P = [a])) lnD (acf P T) m _ (fun L hL => ⟨_, rfl, fun m Q q => ?_, fun _ m Q q => ⟨_, rfl, q⟩⟩) ⟨_, rfl, q⟩
  exact ⟨_, rfl, _, rfl, P, T, L, acf_lnd hW hL, rfl, _, rfl, _, eq_plc _ _, _, rfl, q⟩
def hbs : Nat → List (List Bool)
  | 0 => [[]]
  | n + 1 => (hbs n).map (· ++ [true]) ++ (hbs n).map (· ++ [false])
theorem hbs_len : ∀ n, (hbs n).length = 2 ^ n
  | 0 => rfl
  | n + 1 => by
    show ((hbs n).map _ ++ (hbs n).map _).length = _
    rw [List.length_append, List.length_map, List.length_map, hbs_len n, Nat.pow_succ]; omega
theorem perm_two {α β : Type} (f g : α → β) : ∀ l : List α, (l.flatMap fun x => [f x, g x]).Perm (l.map f ++ l.map g)
  | [] => .refl _
  | x :: l => by
    rw [List.flatMap_cons, List.map_cons, List.map_cons]
    show (f x :: g x :: _).Perm (f x :: (l.map f ++ g x :: l.map g))
    exact ((perm_two f g l).cons _ |>.trans List.perm_middle.symm).cons _
theorem hbs_perm : ∀ n, (alls n).Perm (hbs n)
  | 0 => .refl _
  | n + 1 => (perm_two _ _ _).trans (((hbs_perm n).map _).append ((hbs_perm n).map _))
theorem hbs_in {n : Nat} {L : List Bool} (h : L ∈ hbs n) : L.length = n := mem_alls.mp ((hbs_perm n).mem_iff.mpr h)
theorem lt_app : ∀ (a b x y : List Nat), a.length = b.length → a < b → a ++ x < b ++ y
  | [], [], _, _, _, h => absurd h (List.lt_irrefl _)
  | p :: a, q :: b, x, y, hl, h => by
    rw [List.cons_append, List.cons_append, List.cons_lt_cons_iff]
    rcases List.cons_lt_cons_iff.mp h with h | ⟨h1, h2⟩
    · exact .inl h
    · exact .inr ⟨h1, lt_app a b x y (by simpa using hl) h2⟩
theorem lt_end : ∀ a : List Nat, a ++ [43] < a ++ [45]
  | [] => by decide
  | p :: a => by
    rw [List.cons_append, List.cons_append, List.cons_lt_cons_iff]
    exact .inr ⟨rfl, lt_end a⟩
theorem alls_pw : ∀ n, (alls n).Pairwise fun L M => L.map sgn < M.map sgn
  | 0 => List.pairwise_singleton _ _
  | n + 1 => by
    show ((alls n).flatMap _).Pairwise _
    rw [List.pairwise_flatMap]
    refine ⟨fun L _ => ?_, (alls_pw n).imp_of_mem fun {L M} hL hM h x hx y hy => ?_⟩
    · refine List.pairwise_cons.mpr ⟨fun y hy => ?_, List.pairwise_singleton _ _⟩
      rw [List.mem_singleton.mp hy, List.map_append, List.map_append]
      exact lt_end _
    · have hl : (L.map sgn).length = (M.map sgn).length := by rw [List.length_map, List.length_map, mem_alls.mp hL, mem_alls.mp hM]
      simp only [List.mem_cons, List.not_mem_nil, or_false] at hx hy
      rcases hx with rfl | rfl <;> rcases hy with rfl | rfl <;> (rw [List.map_append, List.map_append]; exact lt_app _ _ _ _ hl h)
theorem lt_ln (L M : List Bool) : D.lt (lnD L) (lnD M) = decide (L.map sgn < M.map sgn) := by
  show PySem.W.dataLt (.str (plS (L.map sgn))) (.str (plS (M.map sgn))) = _
  rw [PySem.W.dataLt_str]
  unfold plS
  simp
theorem sort_hbs (n : Nat) : sortL ((hbs n).map lnD) = (alls n).map lnD := by
  have e : sortL ((hbs n).map lnD) = ((hbs n).mergeSort fun a b => !D.lt (lnD b) (lnD a)).map lnD := by
    unfold sortL
    exact (List.map_mergeSort (r := fun a b => !D.lt (lnD b) (lnD a)) (s := fun a b : D => !D.lt b a) (f := lnD) (l := hbs n) (fun a _ b _ => rfl)).symm
  rw [e]
  congr 1
  have pw := List.pairwise_mergeSort (le := fun a b : List Bool => !D.lt (lnD b) (lnD a)) (fun a b c h1 h2 => by
      rw [lt_ln] at h1 h2 ⊢
      simp only [Bool.not_eq_true', decide_eq_false_iff_not] at h1 h2 ⊢
      exact List.le_trans (l₁ := a.map sgn) (l₂ := b.map sgn) (l₃ := c.map sgn) h1 h2) (fun a b => by
      rw [lt_ln, lt_ln]
      simp only [Bool.or_eq_true, Bool.not_eq_true', decide_eq_false_iff_not]
      exact List.le_total (a.map sgn) (b.map sgn)) (hbs n)
  have inj : ∀ {a b : List Bool}, a.map sgn = b.map sgn → a = b := fun {a b} h => by
    refine (List.map_inj_right fun x y hxy => ?_).mp h
    cases x <;> cases y <;> first | rfl | (exact absurd hxy (by decide))
  refine List.Perm.eq_of_pairwise (le := fun a b : List Bool => ¬ b.map sgn < a.map sgn) (fun a b _ _ h h' => inj (List.le_antisymm (as := a.map sgn) (bs := b.map sgn) h h')) (pw.imp fun {a b} h => ?_) ((alls_pw n).imp fun {a b} h => ?_) ?_
  · rw [lt_ln] at h
    simpa using h
  · exact fun z => List.lt_irrefl _ (List.lt_trans h z)
  · exact (List.mergeSort_perm _ _).trans (hbs_perm n).symm
theorem law_law_leanings : ∀ as m Q, S_law_leanings as m Q → d_law_leanings (padn n_law_leanings as) m (fin Q) := by
  rintro as m Q ⟨n, hn, rfl, q⟩
  have hll := llv
  refine ⟨by show 1 ≤ LL; omega, ?_⟩
  refine ⟨_, rfl, (n : Nat), rfl, by omega, by omega, ?_⟩
  rw [natD_map]
  refine forR_rg natD n (fun i env m' => m' = m ∧ ∃ (x2 x3 : Sl), env = [.val (natD n), .val (.lst ((hbs i).map lnD)), x2, x3]) ?_ ?_ _ _ ⟨rfl, .no, .no, ?_⟩
  · rintro env m' ⟨rfl, x2, x3, rfl⟩
    have hl := hbs_len n
    have h2 : 2 ^ n ≤ 2048 := Nat.le_trans (Nat.pow_le_pow_right (by decide) hn) (by decide)
    have ok : sortOk ((hbs n).map lnD) = true := by
      have := sortOk_pl (hs := (hbs n).map fun L => L.map sgn) (by rw [List.length_map]; omega) (fun x hx a ha => by
        obtain ⟨L, _, rfl⟩ := List.mem_map.mp hx
        obtain ⟨b, _, rfl⟩ := List.mem_map.mp ha
        cases b <;> decide)
      rwa [List.map_map] at this
    refine ⟨_, rfl, (alls n).map lnD, ?_, q⟩
    show (if sortOk ((hbs n).map lnD) then some (sortL ((hbs n).map lnD)) else none) = _
    rw [if_pos ok, sort_hbs]
  · rintro i hi env m' ⟨rfl, x2, x3, rfl⟩
    have hl := hbs_len i
    have h2 : 2 ^ i ≤ 1024 := Nat.le_trans (Nat.pow_le_pow_right (by decide) (show i ≤ 10 by omega)) (by decide)
    have half : ∀ (b : Bool) (y : Str), y = c1 (sgn b) → ∀ env2 : Env', env2[1]? = some (.val (.lst ((hbs i).map lnD))) → env2.length = 4 → ∀ (mm : Nat) (QQ : List D → Nat → Prop), QQ (((hbs i).map (· ++ [b])).map lnD) mm → dLc (dISrc (dVarB 1)) (tgN 3) dYes (dOp addD (dVarB 3) (dC (.str y))) [3] env2 mm QQ := by
      rintro b y rfl env2 h1 h4 mm QQ w
      refine ⟨_, by rw [h1]; rfl, _, rfl, by rw [List.length_map]; omega, ?_⟩
      refine lcR_m lnD (fun L => lnD (L ++ [b])) (hbs i) mm _ (fun L hL => ⟨_, rfl, fun m Q w => ⟨lnD L, ?_, _, add_sgn L b (by have := hbs_in hL; omega), w⟩⟩) (by rw [List.map_map] at w; exact w)
      rw [List.getElem?_set_self (by show 3 < ((env2.set 3 .no)).length; rw [List.length_set, h4]; decide)]
      rfl
    refine ⟨_, rfl, fun K hK => ?_⟩
    refine half true _ plus_is _ rfl rfl _ _ (half false _ minus_is _ rfl rfl _ _ ?_)
    exact ⟨_, add_lst lnD (by rw [List.length_map, List.length_map]; omega), hK _ _ ⟨rfl, _, _, rfl⟩⟩
  · have e0 : (Str.ofString "") = lnS [] := by decide +kernel
    show [Sl.val (natD n), Sl.val (D.lst [D.str (Str.ofString "")]), Sl.no, Sl.no] = _
    rw [e0]; rfl
theorem met_srt (u v : Nat) (h : List Nat) : met u v (srt h) = met u v h := by
  unfold met
  congr 1 <;> exact decide_eq_decide.mpr srt_mem
theorem srt_eq {a b : List Nat} (h : a.Perm b) : srt a = srt b := by
  refine List.Perm.eq_of_pairwise (le := fun x y : Nat => x ≤ y) (fun x y _ _ h1 h2 => Nat.le_antisymm h1 h2) ?_ ?_ ((srt_perm a).trans (h.trans (srt_perm b).symm))
  · have := List.pairwise_mergeSort (le := fun a b : Nat => decide (a ≤ b)) (fun a b c h1 h2 => by simp at *; omega) (fun a b => by simp; omega) a
    exact this.imp fun h => of_decide_eq_true h
  · have := List.pairwise_mergeSort (le := fun a b : Nat => decide (a ≤ b)) (fun a b c h1 h2 => by simp at *; omega) (fun a b => by simp; omega) b
    exact this.imp fun h => of_decide_eq_true h
theorem flat_perm : ∀ hs : List (List Nat), (hs.map srt).flatten.Perm hs.flatten
  | [] => .refl _
  | h :: r => by
    rw [List.map_cons, List.flatten_cons, List.flatten_cons]
    exact (srt_perm h).append (flat_perm r)
theorem filter_srt (u v : Nat) (b : Bool) (hs : List (List Nat)) : (hs.map srt).filter (fun x => met u v x == b) = (hs.filter fun x => met u v x == b).map srt := by
  rw [List.filter_map]
  congr 1
  refine List.filter_congr fun x _ => ?_
  show (met u v (srt x) == b) = _
  rw [met_srt]
theorem hs_step {P : List Nat} {E : List (Nat × Nat)} {hs : List (List Nat)} {p : Nat × Nat} (h : Herds P E (hs.map srt)) (h1 : p.1 ∈ P) (h2 : p.2 ∈ P) :
    Herds P (E ++ [p]) (((hs.filter fun x => !met p.1 p.2 x) ++ [(hs.filter (met p.1 p.2)).flatten]).map srt) := by
  have st := h.step h1 h2
  have e1 : whole p.1 p.2 (hs.map srt) = srt (hs.filter (met p.1 p.2)).flatten := by
    unfold whole
    refine srt_eq ?_
    have := filter_srt p.1 p.2 true hs
    simp only [beq_true] at this
    rw [this]
    exact flat_perm _
  have e2 : ((hs.map srt).filter fun x => !met p.1 p.2 x) = (hs.filter fun x => !met p.1 p.2 x).map srt := by
    have := filter_srt p.1 p.2 false hs
    simpa using this
  rw [e1, e2] at st
  rw [List.map_append, List.map_singleton]
  exact st.perm (List.perm_append_comm.trans (.refl _))
theorem hs_flat {P : List Nat} {E : List (Nat × Nat)} {hs : List (List Nat)} (h : Herds P E (hs.map srt)) (u v : Nat) : (hs.filter (met u v)).flatten.length ≤ P.length := by
  have := h.flat_le (met u v)
  have e := filter_srt u v true hs
  simp only [beq_true] at e
  rw [e, (flat_perm _).length_eq] at this
  exact this
theorem law_law_joined : ∀ as m Q, S_law_joined as m Q → d_law_joined (padn n_law_joined as) m (fin Q) := by
  rintro as m Q ⟨P, E, hP, hE, h100, rfl, q⟩
  have hl := len7 hP
  have hll := llv
  have hfew := hP.few
  refine ⟨_, rfl, P.map fun a => D.str (c1 a), ?_, _, rfl, _, rfl, ?_⟩
  · show (if (plS P).length ≤ LL then some (charsD (plS P)) else none) = _
    rw [if_pos (by rw [plS_len]; exact hl), chars_plS]
  refine forR_l wayD E (fun k env m' => m' = m ∧ ∃ hs, Herds P (E.take k) (hs.map srt) ∧ ∃ x3 x4 x5 : Sl, env = [.val (plD P), .val (.tup (E.map wayD)), .val (.lst (hs.map plD)), x3, x4, x5]) ?_ ?_ _ _ ⟨rfl, P.map fun a => [a], ?_, .no, .no, .no, ?_⟩
  · rintro env m' ⟨rfl, hs, hH, x3, x4, x5, rfl⟩
    rw [List.take_length] at hH
    have hn := hH.count hP.nd
    rw [List.length_map] at hn
    refine ⟨_, rfl, _, len_lst plD hs, ?_⟩
    rw [hn]; exact q
  · rintro k p hp env m' ⟨rfl, hs, hH, x3, x4, x5, rfl⟩
    have hk : k < E.length := (List.getElem?_eq_some_iff.mp hp).1
    have hpE := hE p (List.mem_of_getElem? hp)
    have hn := hH.count hP.nd
    rw [List.length_map] at hn
    have hn2 := nc_le P (E.take k)
    have lenS : hs.length ≤ LL := by omega
    have f1 := hs_flat hH p.1 p.2
    refine ⟨_, rfl, fun K hK => ?_⟩
    refine ⟨_, rfl, _, rfl, by rw [List.length_map]; exact lenS, ?_⟩
    refine lcR_fm plD (met p.1 p.2) plD hs m' _ (fun x hx => ⟨_, rfl, fun m Q q => ?_, fun _ m Q q => ⟨_, rfl, q⟩⟩) ?_
    · refine ⟨_, rfl, _, ix_t0 p, _, rfl, _, in_c p.1 x, _, rfl, ?_⟩
      unfold met at q
      by_cases z : p.1 ∈ x
      · simp only [decide_eq_true z, Bool.true_or] at q ⊢
        exact q
      · simp only [decide_eq_false z, Bool.false_or] at q ⊢
        exact ⟨_, rfl, _, ix_t1 p, _, rfl, _, in_c p.2 x, _, rfl, q⟩
    refine ⟨_, rfl, _, rfl, by rw [List.length_map]; exact lenS, ?_⟩
    refine lcR_fm plD (fun x => !met p.1 p.2 x) plD hs m' _ (fun x hx => ⟨_, rfl, fun m Q q => ⟨_, rfl, _, rfl, .bl (!met p.1 p.2 x), ?_, _, rfl, q⟩, fun _ m Q q => ⟨_, rfl, q⟩⟩) ?_
    · show (inB (plD x) (.lst ((hs.filter (met p.1 p.2)).map plD))).map _ = _
      rw [in_plL]
      show some (D.bl (!decide (x ∈ hs.filter (met p.1 p.2)))) = _
      congr 3
      cases z : met p.1 p.2 x with
      | true => exact decide_eq_true (List.mem_filter.mpr ⟨hx, z⟩)
      | false => exact decide_eq_false fun y => by rw [(List.mem_filter.mp y).2] at z; cases z
    refine ⟨rfl, _, rfl, _, joinD_pl (Nat.le_trans f1 hl), by show 1 ≤ LL; omega, ?_⟩
    have hst := hs_step hH hpE.1 hpE.2
    have etk : E.take (k + 1) = E.take k ++ [p] := by rw [List.take_succ, hp]; rfl
    have f2 := List.length_filter_le (fun x => !met p.1 p.2 x) hs
    exact ⟨_, add_lst plD (a := hs.filter fun x => !met p.1 p.2 x) (b := [(hs.filter (met p.1 p.2)).flatten]) (by rw [List.length_singleton]; omega), hK _ _ ⟨rfl, _, by rw [etk]; exact hst, _, _, _, rfl⟩⟩
  · have e : (P.map fun a => [a]).map srt = P.map fun a => [a] := by
      rw [List.map_map]
      exact List.map_congr_left fun a _ => by
        show srt [a] = [a]
        unfold srt
        exact List.mergeSort_singleton a
    rw [e]
    exact Herds.start hP.nd
  · rw [List.map_map]; rfl
end K19
namespace K19
open PySem L2 G
open T hiding ckOk empty_is len11 mem_out out_len out_nd plS_inj
open SH hiding repl1 repl_pl str_ext
open K24 hiding S_law_right S_law_right_len d_law_right n_law_right pm10
open K18 hiding S_law_web S_law_web_len d_law_web law_law_web n_law_web
theorem cut_end (R : List (Nat × Nat)) (e : Nat × Nat) : sliceD (.tup ((R ++ [e]).map wayD)) none (some (-1)) = some (.tup (R.map wayD)) := by
  show some (D.tup (cutL ((R ++ [e]).map wayD) none (some (-1)))) = _
  have : cutL ((R ++ [e]).map wayD) none (some (-1)) = R.map wayD := by
    have := cut_to ((R ++ [e]).map wayD) (k := R.length) (by simp)
    have e1 : cutL ((R ++ [e]).map wayD) none (some (-1)) = cutL ((R ++ [e]).map wayD) none (some ((R.length : Nat) : Int)) := by
      unfold cutL
      have : HT.sIx ((R ++ [e]).map wayD).length ((R ++ [e]).map wayD).length (some (-1)) = HT.sIx ((R ++ [e]).map wayD).length ((R ++ [e]).map wayD).length (some ((R.length : Nat) : Int)) := by
        have hl : ((R ++ [e]).map wayD).length = R.length + 1 := by simp
        rw [hl]
        unfold HT.sIx
        simp
        split <;> omega
      rw [this]
    rw [e1, this, List.map_append, List.take_left' (by rw [List.length_map])]
  rw [this]
theorem atI_end {α : Type} (xs : List α) (x : α) : atI (xs ++ [x]) (-1) = some x := by
  unfold atI ixN
  simp
  rw [if_pos (by omega)]
  have : (-1 + ((xs.length : Int) + 1)).toNat = xs.length := by omega
  simp [this]
theorem ix_end (R : List (Nat × Nat)) (e : Nat × Nat) : ixD (.tup ((R ++ [e]).map wayD)) (.int (-1)) = some (wayD e) := by
  show atI ((R ++ [e]).map wayD) (-1) = _
  rw [List.map_append]
  exact atI_end _ _
theorem iv_le (p : Prop) : iv p ≤ 1 := by unfold iv; split <;> omega
theorem N_le (X : List (Nat × Nat) → Prop) (T : List (Nat × Nat)) : N X T ≤ 2 ^ T.length := by
  have key : ∀ l : List (List Bool), (l.map fun L => iv (X (ways T L))).sum ≤ l.length := fun l => by
    induction l with
    | nil => exact Nat.le_refl _
    | cons x l ih =>
      rw [List.map_cons, List.sum_cons, List.length_cons]
      have := iv_le (X (ways T x)); omega
  have := key (alls T.length)
  rw [alls_len] at this
  exact this
theorem Tv.le {P : List Nat} {T : List (Nat × Nat)} {x y v : Nat} (h : Tv P T x y v) : x ≤ 2 ∧ y ≤ 2 ∧ v ≤ 2 ^ T.length := by
  rcases h with ⟨rfl, rfl, rfl⟩ | ⟨rfl, rfl, rfl⟩ | ⟨rfl, rfl, _, p, _, rfl⟩
  · exact ⟨by omega, by omega, N_le _ _⟩
  · exact ⟨by omega, by omega, N_le _ _⟩
  · exact ⟨by omega, by omega, N_le _ _⟩
theorem mul_nat {x w : Nat} (h : x ≤ 2) : mulD (natD x) (natD w) = some (natD (x * w)) := by
  have h : (-(2 ^ 64) < (x : Int) ∧ (x : Int) < 2 ^ 64) ∨ (-(2 ^ 64) < (w : Int) ∧ (w : Int) < 2 ^ 64) := .inl ⟨by omega, by omega⟩
  unfold natD mulD
  simp only [if_pos h, Int.natCast_mul]
theorem gt_nat (a b : Nat) : gtD (natD a) (natD b) = some (.bl (decide (b < a))) := by
  show some (D.bl (decide ((b : Int) < (a : Int)))) = _
  congr 2
  exact decide_eq_decide.mpr (by omega)
theorem c1_ne (b : Nat) : ((c1 b : Str) == Str.ofString "") = false := by
  rw [beq_eq_false_iff_ne]
  intro h
  have : (c1 b).cps.toList = (Str.ofString "").cps.toList := by rw [h]
  rw [show (Str.ofString "").cps.toList = [] by decide +kernel] at this
  cases this
theorem mgP_ok {P : List Nat} {a b : Nat} (hP : PlOk P) (ha : a ∈ P) (hn : a ≠ b) : PlOk (mgP P b) := (mg_ok (T := []) (P := P) (p := a) (q := b) ⟨hP, by decide, fun p hp => (nomatch hp)⟩ ha hn).pl
theorem law_law_counted : ∀ n as m Q, S_law_counted (n + 1) as m Q → d_law_counted n (padn n_law_counted as) m (fin Q) := by
  rintro n as m Q ⟨P, T, x, y, v, hP, hT, hn, hn20, hv, rfl, q⟩
  have hll := llv
  have h7 := hP.few
  have cs : T = [] ∨ ∃ R e, T = R ++ [e] := by
    rcases List.eq_nil_or_concat T with h | ⟨R, e, h⟩
    · exact .inl h
    · exact .inr ⟨R, e, by rw [h, List.concat_eq_append]⟩
  rcases cs with rfl | ⟨R, ⟨a, b⟩, rfl⟩
  · have := hv.nil hP.nd
    subst this
    exact ⟨_, rfl, _, rfl, _, rfl, _, rfl, q⟩
  · rw [List.length_append, List.length_singleton] at hn
    obtain ⟨k, rfl⟩ : ∃ k, n = k + 1 := ⟨n - 1, by omega⟩
    have okR : Ok P R := fun p hp => hT p (List.mem_append_left _ hp)
    obtain ⟨ha, hb⟩ : a ∈ P ∧ b ∈ P := hT (a, b) (by simp)
    obtain ⟨hx2, hy2, _⟩ := hv.le
    refine ⟨_, rfl, _, len_tup wayD _, .bl false, ?_, false, rfl, ?_⟩
    · rw [List.length_append]
      show some (D.bl (decide (((R.length + 1 : Nat) : Int) = 0))) = _
      rw [decide_eq_false (by omega)]
    refine ⟨_, rfl, _, rfl, _, cut_end R (a, b), _, rfl, _, ix_end R (a, b), by show 2 ≤ LL; omega, _, rfl, ?_⟩
    refine ⟨_, rfl, _, ix_t0 (a, b), _, rfl, _, ix_t1 (a, b), _, eq_c a b, _, rfl, ?_⟩
    by_cases hab : a = b
    · subst hab
      rw [decide_eq_true rfl]
      obtain ⟨w, hw, rfl⟩ := hv.loop
      refine ⟨_, rfl, _, rfl, _, rfl, _, rfl, _, rfl, ?_⟩
      refine ⟨P, R, x, y, w, hP, okR, by omega, by omega, hw, rfl, ?_⟩
      exact ⟨_, mul_nat hy2, q⟩
    rw [decide_eq_false hab]
    have hP' := mgP_ok hP ha hab
    have okR' := shW_ok okR ha hab
    have lR : (shW a b R).length = R.length := shW_len a b R
    refine ⟨_, rfl, plS P, tS (a, b), b, rfl, rfl, by show 2 ≤ LL; omega, rfl, c1_ne b, ?_, ?_⟩
    · show P.length + (P.length + 1) * (Str.ofString "").length ≤ _
      have : (Str.ofString "").length = 0 := by decide +kernel
      rw [this]; omega
    have er : Txt.replace (plS P) ⟨#[b]⟩ (Str.ofString "") = plS (mgP P b) := SH.repl_pl P b
    rw [er]
    refine ⟨_, rfl, _, rfl, by rw [List.length_map]; omega, ?_⟩
    refine lcR_m wayD (fun e => wayD (sb a b e.1, sb a b e.2)) R m _ (fun e he => ⟨_, rfl, fun m Q q => ⟨_, rfl, tS e, tS (a, b), b, tS (a, b), a, rfl, rfl, by show 2 ≤ LL; omega, rfl, rfl, by show 2 ≤ LL; omega, rfl, fun z => hab z.symm, by show 2 ≤ 1000000; omega, ?_⟩⟩) ?_
    · have er2 : Txt.replace (tS e) ⟨#[b]⟩ ⟨#[a]⟩ = tS (sb a b e.1, sb a b e.2) := repl_tie e a b
      rw [er2]; exact q
    have em : (R.map fun e => wayD (sb a b e.1, sb a b e.2)) = (shW a b R).map wayD := by unfold shW; rw [List.map_map]; rfl
    rw [em]
    refine ⟨_, rfl, ?_⟩
    have okT : Ok P (R ++ [(a, b)]) := hT
    refine ⟨_, rfl, _, rfl, P, R, hP, okR, by omega, rfl, _, rfl, _, rfl, P, R ++ [(a, b)], hP, okT, by simp; omega, rfl, _, gt_nat _ _, _, rfl, ?_⟩
    by_cases c : Conn R a b
    · have e1 : nc P (R ++ [(a, b)]) = nc P R := nc_congr fun _ _ => conn_skip c
      rw [decide_eq_false (by omega)]
      obtain ⟨w, z, hw, hz, rfl⟩ := hv.both hP.nd okR ha hb hab c
      refine ⟨_, rfl, _, rfl, _, rfl, _, rfl, ?_⟩
      refine ⟨P, R, x, y, w, hP, okR, by omega, by omega, hw, rfl, ?_⟩
      refine ⟨_, rfl, _, rfl, _, rfl, _, rfl, ?_⟩
      refine ⟨mgP P b, shW a b R, x, y, z, hP', okR', by omega, by omega, hz, rfl, ?_⟩
      exact ⟨_, rfl, q⟩
    · have e1 := nc_join hP.nd ha hb c
      rw [decide_eq_true (by omega)]
      obtain ⟨w, hw, rfl⟩ := hv.bridge hP.nd okR ha hb hab c
      refine ⟨_, rfl, _, rfl, _, rfl, _, rfl, _, rfl, ?_⟩
      refine ⟨mgP P b, shW a b R, x, y, w, hP', okR', by omega, by omega, hw, rfl, ?_⟩
      exact ⟨_, mul_nat hx2, q⟩
theorem N_len {T : List (Nat × Nat)} {f : List Bool → Bool} {X : List (Nat × Nat) → Prop} (h : ∀ L, L.length = T.length → (f L = true ↔ X (ways T L))) : ((alls T.length).filter f).length = N X T := by
  have key : ∀ l : List (List Bool), (∀ L ∈ l, L.length = T.length) → (l.filter f).length = (l.map fun L => iv (X (ways T L))).sum := fun l => by
    induction l with
    | nil => intro _; rfl
    | cons x l ih =>
      intro hl
      rw [List.map_cons, List.sum_cons, ← ih fun L hL => hl L (List.mem_cons_of_mem _ hL)]
      have hx := h x (hl x (by simp))
      by_cases z : f x = true
      · rw [List.filter_cons_of_pos z, List.length_cons, iv_t (hx.mp z)]; omega
      · rw [List.filter_cons_of_neg z, iv_f fun w => z (hx.mpr w)]; omega
  exact key _ fun L hL => mem_alls.mp hL
theorem ac_iff (W : List (Nat × Nat)) : Ac W ↔ ¬ ∃ k, k < W.length ∧ InRing W k := by
  constructor
  · rintro h ⟨k, hk, r⟩
    refine h (W.getD k (0, 0)) ?_ r
    rw [List.getD_eq_getElem?_getD, List.getElem?_eq_getElem hk]
    exact List.getElem_mem hk
  · intro h w hw r
    obtain ⟨k, hk, e⟩ := List.getElem_of_mem hw
    refine h ⟨k, hk, ?_⟩
    unfold InRing stt enn
    rw [List.getD_eq_getElem?_getD, List.getElem?_eq_getElem hk, e]; exact r
theorem cy_iff (W : List (Nat × Nat)) : Cy W ↔ ∀ k, k < W.length → InRing W k := by
  constructor
  · intro h k hk
    have := h (W.getD k (0, 0)) (by
      rw [List.getD_eq_getElem?_getD, List.getElem?_eq_getElem hk]
      exact List.getElem_mem hk)
    exact this
  · intro h w hw
    obtain ⟨k, hk, e⟩ := List.getElem_of_mem hw
    have := h k hk
    unfold InRing stt enn at this
    rw [List.getD_eq_getElem?_getD, List.getElem?_eq_getElem hk, e] at this
    exact this
theorem src_any {W : List (Nat × Nat)} {x : Nat} : (!(W.any fun w => decide (w.2 = x))) = true ↔ Src W x := by
  rw [Bool.not_eq_true', List.any_eq_false]
  unfold Src
  constructor
  · intro h w hw e
    exact h w hw (decide_eq_true e)
  · intro h w hw e
    exact h w hw (of_decide_eq_true e)
theorem frn_iff {P : List Nat} (hP : PlOk P) {W : List (Nat × Nat)} {a : Nat} (ha : a ∈ P) : frn W P = [a] ↔ Uq P W a := by
  have mem : ∀ x, x ∈ frn W P ↔ x ∈ P ∧ Src W x := fun x => by
    unfold frn
    rw [List.mem_filter, src_any]
  unfold Uq
  constructor
  · intro h x hx
    have := mem x
    rw [h, List.mem_singleton] at this
    exact ⟨fun s => this.mpr ⟨hx, s⟩, fun e => (this.mp e).2⟩
  · intro h
    refine lot_eq (hP.inc.filter _) (List.pairwise_singleton _ _) fun x => ?_
    rw [mem, List.mem_singleton]
    exact ⟨fun ⟨h1, h2⟩ => (h x h1).mp h2, fun e => by subst e; exact ⟨ha, (h x ha).mpr rfl⟩⟩
theorem isSome_ac {P : List Nat} {T : List (Nat × Nat)} {L : List Bool} (h : Lnd P T L) : (fo (ways T L) P.length P).isSome = true ↔ Ac (ways T L) := by
  rw [fo_iff (h.wb.pl.inc.imp fun h => Nat.ne_of_lt h) h.ends, ac_iff]
theorem acf_N {P : List Nat} {T : List (Nat × Nat)} (hW : WbOk P T) : (acf P T).length = N Ac T := N_len fun L hL => isSome_ac ⟨hW, hL⟩
open Classical in
theorem cyf_N (T : List (Nat × Nat)) : (cyf T).length = N Cy T := N_len fun L hL => by
  rw [cy_iff, ways_len hL]
  exact decide_eq_true_iff
theorem gdf_eq (P : List Nat) (T : List (Nat × Nat)) (a : Nat) : gdf P T a = (alls T.length).filter fun L => (fo (ways T L) P.length P).isSome && decide (frn (ways T L) P = [a]) := by
  unfold gdf acf
  rw [List.filter_filter]
  refine List.filter_congr fun L _ => ?_
  rw [Bool.and_comm]
theorem gdf_N {P : List Nat} {T : List (Nat × Nat)} {a : Nat} (hW : WbOk P T) (ha : a ∈ P) : (gdf P T a).length = N (fun W => Gd P W a) T := by
  rw [gdf_eq]
  refine N_len fun L hL => ?_
  rw [Bool.and_eq_true, isSome_ac ⟨hW, hL⟩, decide_eq_true_eq, frn_iff hW.pl ha]
  exact Iff.rfl
end K19
namespace K19
open PySem L2 G
open T hiding ckOk empty_is len11 mem_out out_len out_nd plS_inj
open SH hiding repl1 repl_pl str_ext
open K24 hiding S_law_right S_law_right_len d_law_right n_law_right pm10
open K18 hiding S_law_web S_law_web_len d_law_web law_law_web n_law_web
theorem put_get (t : List (Key × D)) (k : Key) (v : D) (k' : Key) : kvGet (kvPut t k v) k' = if k' = k then some v else kvGet t k' := by
  unfold kvPut
  by_cases h : (t.any fun kv => decide (kv.1 = k)) = true
  · rw [if_pos h]
    unfold kvGet
    induction t with
    | nil => cases h
    | cons a r ih =>
      rw [List.map_cons, List.find?_cons, List.find?_cons]
      by_cases e : a.1 = k
      · rw [if_pos e]
        show (match decide (a.1 = k') with | true => some (a.1, v) | false => _).map _ = _
        by_cases e' : a.1 = k'
        · rw [decide_eq_true e', if_pos (e'.symm.trans e)]; rfl
        · rw [decide_eq_false e']
          have ne : ¬ k' = k := fun z => e' (e.trans z.symm)
          rw [if_neg ne]
          show (List.find? _ (r.map _)).map _ = (r.find? _).map _
          by_cases h' : (r.any fun kv => decide (kv.1 = k)) = true
          · have := ih h'
            rw [if_neg ne] at this
            exact this
          · have id' : r.map (fun kv => if kv.1 = k then (kv.1, v) else kv) = r := by
              rw [List.map_congr_left (g := fun kv => kv) fun kv hkv => ?_, List.map_id']
              rw [if_neg fun z => h' (List.any_eq_true.mpr ⟨kv, hkv, decide_eq_true z⟩)]
            rw [id']
      · rw [if_neg e]
        have h' : (r.any fun kv => decide (kv.1 = k)) = true := by
          rw [List.any_cons, decide_eq_false e, Bool.false_or] at h
          exact h
        by_cases e' : a.1 = k'
        · rw [decide_eq_true e', if_neg fun z => e (e'.trans z)]
        · rw [decide_eq_false e']
          exact ih h'
  · rw [if_neg h]
    unfold kvGet
    rw [List.find?_append]
    by_cases e : k' = k
    · rw [if_pos e]
      have : t.find? (fun kv => decide (kv.1 = k')) = none := by
        rw [List.find?_eq_none]
        intro kv hkv z
        exact h (List.any_eq_true.mpr ⟨kv, hkv, decide_eq_true ((of_decide_eq_true z).trans e)⟩)
      rw [this, e]
      show (List.find? (fun kv => decide (kv.1 = k)) [(k, v)]).map _ = _
      rw [List.find?_cons, decide_eq_true (show (k, v).1 = k from rfl)]; rfl
    · rw [if_neg e]
      have : List.find? (fun kv => decide (kv.1 = k')) [(k, v)] = none := by
        rw [List.find?_eq_none]
        intro kv hkv z
        rw [List.mem_singleton.mp hkv] at z
        exact e (of_decide_eq_true z).symm
      rw [this, Option.or_none]
theorem plS_in {a b : List Nat} (h : plS a = plS b) : a = b := K18.plS_inj (a := a) (b := b) h
theorem okd_ln (L : List Bool) (n : Nat) : (lnD L).okd n = true := strOk_pl (l := L.map sgn) fun x hx => by
  obtain ⟨b, _, rfl⟩ := List.mem_map.mp hx
  cases b <;> decide
theorem eqv_lns : ∀ A : List (List Bool), PyData.eqvAll (pyL (A.map lnD)) (pyL (A.map lnD)) = true
  | [] => by simp [pyL, PyData.eqvAll]
  | p :: A => by
    have := eqv_lns A
    simp only [List.map_cons, pyL, PyData.eqvAll, this, Bool.and_true]
    simp [D.py, PyData.eqv]
theorem okd_lns (A : List (List Bool)) (n : Nat) : (D.tup (A.map lnD)).okd (n + 1) = true := by
  have hk : okdL (A.map lnD) n = true := okdL_all fun d hd => by
    obtain ⟨w, hw, rfl⟩ := List.mem_map.mp hd
    exact okd_ln w _
  simp only [D.okd]
  rw [show n + 1 - 1 = n from rfl, hk]; rfl
theorem ne_lns (A : List (List Bool)) : neD (.tup (A.map lnD)) (.tup (A.map lnD)) = some (.bl false) := by
  show (deepEq _ _).map _ = _
  unfold deepEq
  rw [if_pos (by rw [okd_lns A 59]; rfl)]
  simp only [D.py, PyData.eqv, eqv_lns]
  rfl
theorem ne_two (A : List (List Bool)) : neD (.lst [.tup (A.map lnD), .tup (A.map lnD)]) (.lst [.tup (A.map lnD), .tup (A.map lnD)]) = some (.bl false) := by
  show (deepEq _ _).map _ = _
  unfold deepEq
  have hk : okdL [.tup (A.map lnD), .tup (A.map lnD)] 59 = true := okdL_all fun d hd => by
    simp only [List.mem_cons, List.not_mem_nil, or_false, or_self] at hd
    rw [hd]; exact okd_lns A 58
  rw [if_pos (by simp only [D.okd, hk]; rfl)]
  simp only [D.py, pyL, PyData.eqv, PyData.eqvAll, eqv_lns]
  rfl
theorem inL_bl (b : Bool) (bs : List Bool) : inL (.bl b) (bs.map D.bl) = decide (b ∈ bs) := by
  unfold inL
  rw [List.any_map]
  by_cases h : b ∈ bs
  · rw [decide_eq_true h, List.any_eq_true]
    exact ⟨b, h, by cases b <;> rfl⟩
  · rw [decide_eq_false h, List.any_eq_false]
    intro x hx z
    refine h ?_
    cases b <;> cases x <;> first | exact hx | exact absurd z (by decide)
theorem notIn_bl (b : Bool) (bs : List Bool) : notInD (.bl b) (.lst (bs.map D.bl)) = some (.bl (!decide (b ∈ bs))) := by
  have hf : (bs.map D.bl).all D.flat = true := by
    rw [List.all_map]
    exact List.all_eq_true.mpr fun _ _ => rfl
  show (if (true && (bs.map D.bl).all D.flat) = true then some (inL (.bl b) (bs.map D.bl)) else none).map (fun b => D.bl (!b)) = _
  rw [hf, inL_bl]; rfl
open Classical in
theorem law_law_right : ∀ as m Q, S_law_right as m Q → d_law_right (padn n_law_right as) m (fin Q) := by
  rintro as m Q ⟨hm, rfl, q⟩
  have hll := llv
  refine ⟨_, rfl, .inl rfl, by omega, rfl, fun P T m1 hW hP4 hT5 hm1 => ⟨_, rfl, ?_⟩⟩
  have hP := hW.pl.few
  have hP0 := hW.pl.pos
  have h2 : 2 ^ T.length ≤ 32 := Nat.le_trans (Nat.pow_le_pow_right (by decide) hT5) (by decide)
  have hal := alls_len T.length
  refine ⟨_, rfl, _, rfl, P, T, hW, rfl, by show 0 ≤ LL; omega, by show 0 ≤ LL; omega, rfl, ?_⟩
  refine ⟨_, rfl, _, len_tup wayD T, T.length, by omega, rfl, _, rfl, ?_⟩
  generalize hA : (fun L => (fo (ways T L) P.length P).isSome) = fA
  generalize hC : (fun L => decide (∀ k, k < T.length → InRing (ways T L) k)) = fC
  generalize hF : (fun L => frn (ways T L) P) = fF
  refine forR_l lnD (alls T.length) (fun i env m' => m' = m1 ∧ ∃ (kds : List (Key × D)) (x7 x8 x9 x10 x11 x12 x13 x14 x15 x16 : Sl), kds.length ≤ i ∧
    (∀ f : List Nat, (kvGet kds (.inr (plS f))).getD (.tup []) = .tup ((((alls T.length).take i).filter fun L => fA L && decide (fF L = f)).map lnD)) ∧
    env = [.cask, .val (plD P), .val (.tup (T.map wayD)), .val (webD P T), .own ((((alls T.length).take i).filter fA).map lnD), .own ((((alls T.length).take i).filter fC).map lnD), .ow (.dic kds), x7, x8, x9, x10, x11, x12, x13, x14, x15, x16]) ?_ ?_ _ _ ⟨rfl, [], .no, .no, .no, .no, .no, .no, .no, .no, .no, .no, by simp, fun f => by simp [kvGet], rfl⟩
  · rintro env m' ⟨rfl, kds, x7, x8, x9, x10, x11, x12, x13, x14, x15, x16, hkl, hkd, rfl⟩
    rw [List.take_length] at *
    have eA : (alls T.length).filter fA = acf P T := by rw [← hA]; rfl
    have eC : (alls T.length).filter fC = cyf T := by rw [← hC]; rfl
    have eF : ∀ a, ((alls T.length).filter fun L => fA L && decide (fF L = [a])) = gdf P T a := fun a => by rw [gdf_eq, ← hA, ← hF]
    rw [eA, eC]
    have lA := acf_N hW
    have lC := cyf_N T
    have hA64 := acf_len (P := P) (T := T) (by omega)
    have hC64 : (cyf T).length ≤ 64 := by
      have h := List.length_filter_le (fun L => decide (∀ k, k < T.length → InRing (ways T L) k)) (alls T.length)
      unfold cyf; omega
    refine ⟨_, rfl, P, T, hW, by omega, rfl, _, rfl, P, T, hW, by omega, rfl, by show 2 ≤ LL; omega, _, rfl, _, rfl, by show 1 ≤ LL; omega, _, 2, rfl, rfl, by decide, by decide, by show 1 * 2 ≤ LL; omega, _, ne_two _, _, rfl, ?_⟩
    refine ⟨_, rfl, P, T, hW, by omega, rfl, _, rfl, P, T, hW, by omega, rfl, by show 2 ≤ LL; omega, _, rfl, _, rfl, by show 1 ≤ LL; omega, _, 2, rfl, rfl, by decide, by decide, by show 1 * 2 ≤ LL; omega, _, ne_two _, _, rfl, ?_⟩
    refine ⟨_, rfl, _, len_lst lnD (acf P T), _, rfl, _, rfl, P, T, 2, 0, N Ac T, hW.pl, hW.ok, hT5, by show 5 ≤ 20; omega, .inl ⟨rfl, rfl, rfl⟩, rfl, _, ne_nat _ _, _, rfl, ?_⟩
    rw [decide_eq_false (by omega)]
    refine ⟨_, rfl, _, len_lst lnD (cyf T), _, rfl, _, rfl, P, T, 0, 2, N Cy T, hW.pl, hW.ok, hT5, by show 5 ≤ 20; omega, .inr (.inl ⟨rfl, rfl, rfl⟩), rfl, _, ne_nat _ _, _, rfl, ?_⟩
    rw [decide_eq_false (by omega)]
    refine ⟨_, rfl, _, rfl, P, T, hW.pl, hW.ok, by omega, rfl, _, eq_nat (nc P T) 1, ?_⟩
    generalize hb : decide (nc P T = 1) = b
    refine ⟨_, rfl, _, rfl, ?_⟩
    show ForR _ _ (charsD (plS P)) _ _ _
    rw [chars_plS]
    refine forR_l cD P (fun i env m'' => m'' = m' ∧ ∃ (x7 x8 x9 x10 x11 x12 x14 x15 x16 : Sl), env = [.cask, .val (plD P), .val (.tup (T.map wayD)), .val (webD P T), .own ((acf P T).map lnD), .own ((cyf T).map lnD), .ow (.dic kds), x7, x8, x9, x10, x11, x12, .val (.bl b), x14, x15, x16]) ?_ ?_ _ _ ⟨rfl, _, _, _, _, _, _, _, _, _, rfl⟩
    · rintro env m'' ⟨rfl, _⟩
      exact q _
    · rintro i a hi env m'' ⟨rfl, x7, x8, x9, x10, x11, x12, x14, x15, x16, rfl⟩
      have ha := List.mem_of_getElem? hi
      refine ⟨_, rfl, fun K hK => ?_⟩
      have hg : (kvGet kds (.inr (c1 a))).getD (.tup []) = .tup ((gdf P T a).map lnD) := by
        have := hkd [a]
        rw [eF a] at this
        exact this
      have hn : neD (.tup ((gdf P T a).map lnD)) ((kvGet kds (.inr (c1 a))).getD (.tup [])) = some (.bl false) := by rw [hg]; exact ne_lns _
      refine ⟨_, rfl, _, rfl, P, T, a, hW, ha, by omega, rfl, ?_⟩
      refine ⟨_, rfl, _, rfl, kds, rfl, _, rfl, _, rfl, by show 0 ≤ LL; omega, _, hn, _, rfl, ?_⟩
      refine ⟨_, rfl, _, rfl, P, T, a, hW, ha, by omega, rfl, _, rfl, _, ne_lns _, _, rfl, ?_⟩
      refine ⟨_, rfl, _, rfl, ?_⟩
      cases b with
      | false => exact hK _ _ ⟨rfl, _, _, _, _, _, _, _, _, _, rfl⟩
      | true =>
        have hnc := of_decide_eq_true hb
        refine ⟨_, rfl, _, len_tup lnD (gdf P T a), _, rfl, _, rfl, P, T, 1, 0, N (fun W => Gd P W a) T, hW.pl, hW.ok, hT5, by show 5 ≤ 20; omega, .inr (.inr ⟨rfl, rfl, hnc, a, ha, rfl⟩), rfl, _, ne_nat _ _, _, rfl, ?_⟩
        rw [decide_eq_false (by rw [gdf_N hW ha]; exact fun z => z rfl)]
        exact hK _ _ ⟨rfl, _, _, _, _, _, _, _, _, _, rfl⟩
  · rintro i L hL env m' ⟨rfl, kds, x7, x8, x9, x10, x11, x12, x13, x14, x15, x16, hkl, hkd, rfl⟩
    have hLn := mem_alls.mp (List.mem_of_getElem? hL)
    have hil : i < (alls T.length).length := (List.getElem?_eq_some_iff.mp hL).1
    have h : Lnd P T L := ⟨hW, hLn⟩
    have hwl := h.wl
    have htk : (alls T.length).take (i + 1) = (alls T.length).take i ++ [L] := by rw [List.take_succ, hL]; rfl
    have fl : ∀ f : List Bool → Bool, (((alls T.length).take i).filter f).length ≤ i := fun f => by
      have := List.length_filter_le f ((alls T.length).take i)
      rw [List.length_take] at this; omega
    refine ⟨_, rfl, fun K hK => ?_⟩
    refine ⟨_, rfl, _, rfl, T, L, by omega, hLn, rfl, ?_⟩
    refine ⟨_, rfl, _, len_lst wayD (ways T L), ((ways T L).length : Nat), rfl, by omega, by omega, ?_⟩
    rw [natD_map, hwl]
    refine ⟨by rw [List.length_map, List.length_range]; omega, ?_⟩
    refine lcR_m natD (fun k => .bl (decide (InRing (ways T L) k))) (List.range T.length) m' _ (fun k hk => ⟨_, rfl, fun m Q q => ?_⟩) ?_
    · have hk' : k < (ways T L).length := by rw [hwl]; exact List.mem_range.mp hk
      refine ⟨_, rfl, _, rfl, ways T L, k, h.w11, hk', rfl, fun b hb => ?_⟩
      have : b = decide (InRing (ways T L) k) := by rw [Bool.eq_iff_iff, hb, decide_eq_true_eq]
      rw [this]; exact q
    have eB : ((List.range T.length).map fun k => D.bl (decide (InRing (ways T L) k))) = ((List.range T.length).map fun k => decide (InRing (ways T L) k)).map D.bl := by rw [List.map_map]; rfl
    rw [eB]
    generalize hbs : ((List.range T.length).map fun k => decide (InRing (ways T L) k)) = bs
    have ht : (!decide (true ∈ bs)) = fA L := by
      rw [← hA, ← hbs, Bool.eq_iff_iff]
      show _ ↔ (fo (ways T L) P.length P).isSome = true
      rw [isSome_ac h, ac_iff, hwl]
      simp [List.mem_map]
    have hf : (!decide (false ∈ bs)) = fC L := by
      rw [← hC, ← hbs, Bool.eq_iff_iff]
      show _ ↔ decide (∀ k, k < T.length → InRing (ways T L) k) = true
      simp [List.mem_map]
    refine ⟨_, rfl, _, rfl, by rw [List.length_map]; omega, ?_⟩
    refine lcR_m wayD (fun w => .str (c1 w.2)) (ways T L) m' _ (fun w hw => ⟨_, rfl, fun m Q q => ⟨_, rfl, _, ix_t1 w, q⟩⟩) ?_
    have eE : ((ways T L).map fun w => D.str (c1 w.2)) = ((ways T L).map (·.2)).map fun x => D.str (c1 x) := by rw [List.map_map]; rfl
    rw [eE]
    refine ⟨rfl, _, rfl, _, rfl, ?_, ?_⟩
    · show (charsD (plS P)).length ≤ LL
      rw [chars_plS, List.length_map]; omega
    rw [chars_plS]
    refine lcR_fm (fun a => D.str (c1 a)) (fun p => !decide (p ∈ (ways T L).map (·.2))) (fun a => D.str (c1 a)) P m' _ (fun a ha => ⟨_, rfl, fun m Q q => ⟨_, rfl, _, rfl, _, notIn_c1 a _, _, rfl, q⟩, fun _ m Q q => ⟨_, rfl, q⟩⟩) ?_
    have eF : P.filter (fun p => !decide (p ∈ (ways T L).map (·.2))) = fF L := by
      rw [← hF]
      show _ = frn (ways T L) P
      unfold frn
      refine List.filter_congr fun p _ => ?_
      congr 1
      rw [Bool.eq_iff_iff, decide_eq_true_eq, List.mem_map, List.any_eq_true]
      constructor
      · rintro ⟨w, hw, e⟩; exact ⟨w, hw, decide_eq_true e⟩
      · rintro ⟨w, hw, e⟩; exact ⟨w, hw, of_decide_eq_true e⟩
    rw [eF]
    have hfl : (fF L).length ≤ 7 := by rw [← eF]; exact Nat.le_trans (List.length_filter_le _ _) hP
    refine ⟨.str (plS (fF L)), joinD_c1 _ (by omega), ?_⟩
    have tk : ∀ f : List Bool → Bool, ((alls T.length).take (i + 1)).filter f = ((alls T.length).take i).filter f ++ if f L = true then [L] else [] := fun f => by
      rw [htk, List.filter_append]
      congr 1
      by_cases z : f L = true
      · rw [List.filter_cons_of_pos z, if_pos z]; rfl
      · rw [List.filter_cons_of_neg z, if_neg z]; rfl
    have mapA : ∀ f : List Bool → Bool, f L = true → (((alls T.length).take i).filter f).map lnD ++ [lnD L] = (((alls T.length).take (i + 1)).filter f).map lnD := fun f z => by rw [tk, if_pos z, List.map_append]; rfl
    have mapB : ∀ f : List Bool → Bool, f L = false → ((alls T.length).take i).filter f = ((alls T.length).take (i + 1)).filter f := fun f z => by rw [tk, if_neg (by rw [z]; exact Bool.false_ne_true), List.append_nil]
    have last : ∀ (As : List D) (kds : List (Key × D)) (x8 x10 x11 x12 x13 x14 x15 x16 : Sl) (bsD : D), bsD = .lst (bs.map D.bl) → As = (((alls T.length).take (i + 1)).filter fA).map lnD → kds.length ≤ i + 1 →
        (∀ f : List Nat, (kvGet kds (.inr (plS f))).getD (.tup []) = .tup ((((alls T.length).take (i + 1)).filter fun L => fA L && decide (fF L = f)).map lnD)) →
        ∀ E : DEnds, E.nx = K → dIf (dTest (dOp notInD (dC (.bl false)) (dVarB 9))) (dApp 5 (dVar 7)) dNext [.cask, .val (plD P), .val (.tup (T.map wayD)), .val (webD P T), .own As, .own ((((alls T.length).take i).filter fC).map lnD), .ow (.dic kds), .val (lnD L), x8, .val bsD, x10, x11, x12, x13, x14, x15, x16] m' E := by
      rintro As kds y8 y10 y11 y12 y13 y14 y15 y16 bsD rfl rfl hk1 hk2 E hE
      refine ⟨_, rfl, _, notIn_bl false bs, _, rfl, ?_⟩
      rw [hf]
      cases z : fC L with
      | true =>
        refine ⟨_, rfl, _, rfl, by rw [List.length_map]; have := fl fC; omega, ?_⟩
        show E.nx [_, _, _, _, _, _, _, _, _, _, _, _, _, _, _, _, _] m'
        rw [hE]
        rw [mapA fC z]
        exact hK _ _ ⟨rfl, kds, _, _, _, _, _, _, _, _, _, _, hk1, hk2, rfl⟩
      | false =>
        show E.nx [_, _, _, _, _, _, _, _, _, _, _, _, _, _, _, _, _] m'
        rw [hE]
        rw [mapB fC z]
        exact hK _ _ ⟨rfl, kds, _, _, _, _, _, _, _, _, _, _, hk1, hk2, rfl⟩
    refine ⟨_, rfl, _, notIn_bl true bs, _, rfl, ?_⟩
    rw [ht]
    cases z : fA L with
    | true =>
      refine ⟨_, rfl, _, rfl, by rw [List.length_map]; have := fl fA; omega, ?_⟩
      have hadd : addD ((kvGet kds (.inr (plS (fF L)))).getD (.tup [])) (.tup [lnD L]) = some (.tup (((((alls T.length).take i).filter fun M => fA M && decide (fF M = fF L)) ++ [L]).map lnD)) := by
        rw [hkd (fF L), List.map_append]
        show (if _ then some (D.tup _) else none) = _
        rw [if_pos (by
          rw [List.length_map]
          have := fl (fun M => fA M && decide (fF M = fF L))
          show _ + 1 ≤ LL
          omega)]
        rfl
      refine ⟨_, rfl, kds, rfl, _, rfl, _, rfl, by show 0 ≤ LL; omega, _, rfl, by show 1 ≤ LL; omega, _, hadd, kds, rfl, _, rfl, _, rfl, by omega, ?_⟩
      refine last _ (kvPut kds (.inr (plS (fF L))) _) _ _ _ _ _ _ _ _ _ rfl (mapA fA z) (Nat.le_trans (kvPut_len _ _ _) (by omega)) (fun f => ?_) _ rfl
      rw [put_get]
      by_cases e : fF L = f
      · subst e
        rw [if_pos rfl, tk, if_pos (by rw [z, decide_eq_true rfl]; rfl)]; rfl
      · rw [if_neg (fun w => e (plS_in (Sum.inr.inj w)).symm), hkd f, ← mapB]
        show (fA L && decide (fF L = f)) = false
        rw [decide_eq_false e, Bool.and_false]
    | false =>
      refine last _ kds _ _ _ _ _ _ _ _ _ rfl (by rw [mapB fA z]) (by omega) (fun f => ?_) _ rfl
      rw [hkd f, ← mapB]
      show (fA L && _) = false
      rw [z]; rfl
end K19
namespace K19
open PySem L2 G
open T hiding ckOk empty_is len11 mem_out out_len out_nd plS_inj
open SH hiding repl1 repl_pl str_ext
open K24 hiding S_law_right S_law_right_len d_law_right n_law_right pm10
open K18 hiding S_law_web S_law_web_len d_law_web law_law_web n_law_web
def topS (i : Nat) : Stmt := PySem.Challenge.pw_webreckon_k19_whole_lists_of_leanings.main.body.getD i (.Pass ⟨0, 0, 0, 0⟩)
def clsBody (s : Stmt) : List Stmt := match s with
  | .ClassDef _ _ _ b _ _ _ _ _ _ _ => b
  | _ => []
def methS (i j : Nat) : Stmt := (clsBody (topS i)).getD j (.Pass ⟨0, 0, 0, 0⟩)
abbrev N_are_letters : List Str := ["value", "letter"]
abbrev st_are_letters : Stmt := (topS 12)
theorem sc_are_letters : FnScope N_are_letters ["value"] (defScope st_are_letters) := ⟨rfl, rfl, rfl, by decide +kernel, rfl, by decide +kernel, by decide +kernel⟩
abbrev N_are_places : List Str := ["value"]
abbrev st_are_places : Stmt := (topS 13)
theorem sc_are_places : FnScope N_are_places ["value"] (defScope st_are_places) := ⟨rfl, rfl, rfl, by decide +kernel, rfl, by decide +kernel, by decide +kernel⟩
abbrev N_is_tie : List Str := ["places", "value"]
abbrev st_is_tie : Stmt := (topS 14)
theorem sc_is_tie : FnScope N_is_tie ["places", "value"] (defScope st_is_tie) := ⟨rfl, rfl, rfl, by decide +kernel, rfl, by decide +kernel, by decide +kernel⟩
abbrev N_wrong_tie : List Str := ["places", "ties", "index", "tie"]
abbrev st_wrong_tie : Stmt := (topS 15)
theorem sc_wrong_tie : FnScope N_wrong_tie ["places", "ties"] (defScope st_wrong_tie) := ⟨rfl, rfl, rfl, by decide +kernel, rfl, by decide +kernel, by decide +kernel⟩
abbrev N_Webinit : List Str := ["self", "places", "ties", "wrong"]
abbrev st_Webinit : Stmt := (methS 16 0)
theorem sc_Webinit : FnScope N_Webinit ["self", "places", "ties"] (defScope st_Webinit) := ⟨rfl, rfl, rfl, by decide +kernel, rfl, by decide +kernel, by decide +kernel⟩
abbrev N_Weblen : List Str := ["self"]
abbrev st_Weblen : Stmt := (methS 16 2)
theorem sc_Weblen : FnScope N_Weblen ["self"] (defScope st_Weblen) := ⟨rfl, rfl, rfl, by decide +kernel, rfl, by decide +kernel, by decide +kernel⟩
abbrev N_check_web : List Str := ["web"]
abbrev st_check_web : Stmt := (topS 17)
theorem sc_check_web : FnScope N_check_web ["web"] (defScope st_check_web) := ⟨rfl, rfl, rfl, by decide +kernel, rfl, by decide +kernel, by decide +kernel⟩
abbrev N_is_place : List Str := ["web", "value"]
abbrev st_is_place : Stmt := (topS 18)
theorem sc_is_place : FnScope N_is_place ["web", "value"] (defScope st_is_place) := ⟨rfl, rfl, rfl, by decide +kernel, rfl, by decide +kernel, by decide +kernel⟩
abbrev N_check_place : List Str := ["web", "place"]
abbrev st_check_place : Stmt := (topS 19)
theorem sc_check_place : FnScope N_check_place ["web", "place"] (defScope st_check_place) := ⟨rfl, rfl, rfl, by decide +kernel, rfl, by decide +kernel, by decide +kernel⟩
abbrev N_every_tie : List Str := ["web"]
abbrev st_every_tie : Stmt := (topS 21)
theorem sc_every_tie : FnScope N_every_tie ["web"] (defScope st_every_tie) := ⟨rfl, rfl, rfl, by decide +kernel, rfl, by decide +kernel, by decide +kernel⟩
abbrev N_herd_lot : List Str := ["web", "herd", "index", "tie"]
abbrev st_herd_lot : Stmt := (topS 22)
theorem sc_herd_lot : FnScope N_herd_lot ["web", "herd"] (defScope st_herd_lot) := ⟨rfl, rfl, rfl, by decide +kernel, rfl, by decide +kernel, by decide +kernel⟩
abbrev N_ways_of : List Str := ["web", "leaning", "tie", "sign"]
abbrev st_ways_of : Stmt := (topS 25)
theorem sc_ways_of : FnScope N_ways_of ["web", "leaning"] (defScope st_ways_of) := ⟨rfl, rfl, rfl, by decide +kernel, rfl, by decide +kernel, by decide +kernel⟩
abbrev N_first_order : List Str := ["web", "leaning", "ways", "left", "found", "free", "place", "way"]
abbrev st_first_order : Stmt := (topS 26)
theorem sc_first_order : FnScope N_first_order ["web", "leaning"] (defScope st_first_order) := ⟨rfl, rfl, rfl, by decide +kernel, rfl, by decide +kernel, by decide +kernel⟩
abbrev N_has_no_ring : List Str := ["web", "leaning"]
abbrev st_has_no_ring : Stmt := (topS 27)
theorem sc_has_no_ring : FnScope N_has_no_ring ["web", "leaning"] (defScope st_has_no_ring) := ⟨rfl, rfl, rfl, by decide +kernel, rfl, by decide +kernel, by decide +kernel⟩
abbrev N_ways_to : List Str := ["web", "leaning", "start", "ways", "known", "layer", "later", "place", "index", "way"]
abbrev st_ways_to : Stmt := (topS 28)
theorem sc_ways_to : FnScope N_ways_to ["web", "leaning", "start"] (defScope st_ways_to) := ⟨rfl, rfl, rfl, by decide +kernel, rfl, by decide +kernel, by decide +kernel⟩
abbrev N_told_ring_or_cut : List Str := ["web", "leaning", "index", "one", "two", "known", "place"]
abbrev st_told_ring_or_cut : Stmt := (topS 29)
theorem sc_told_ring_or_cut : FnScope N_told_ring_or_cut ["web", "leaning", "index"] (defScope st_told_ring_or_cut) := ⟨rfl, rfl, rfl, by decide +kernel, rfl, by decide +kernel, by decide +kernel⟩
abbrev N_is_all_rings : List Str := ["web", "leaning", "index"]
abbrev st_is_all_rings : Stmt := (topS 30)
theorem sc_is_all_rings : FnScope N_is_all_rings ["web", "leaning"] (defScope st_is_all_rings) := ⟨rfl, rfl, rfl, by decide +kernel, rfl, by decide +kernel, by decide +kernel⟩
abbrev N_front_places : List Str := ["web", "leaning", "ways", "place", "way"]
abbrev st_front_places : Stmt := (topS 31)
theorem sc_front_places : FnScope N_front_places ["web", "leaning"] (defScope st_front_places) := ⟨rfl, rfl, rfl, by decide +kernel, rfl, by decide +kernel, by decide +kernel⟩
abbrev N_all_leanings : List Str := ["web", "found", "tie", "leaning", "sign"]
abbrev st_all_leanings : Stmt := (topS 32)
theorem sc_all_leanings : FnScope N_all_leanings ["web"] (defScope st_all_leanings) := ⟨rfl, rfl, rfl, by decide +kernel, rfl, by decide +kernel, by decide +kernel⟩
abbrev N_ringless_list : List Str := ["web", "leaning"]
abbrev st_ringless_list : Stmt := (topS 33)
theorem sc_ringless_list : FnScope N_ringless_list ["web"] (defScope st_ringless_list) := ⟨rfl, rfl, rfl, by decide +kernel, rfl, by decide +kernel, by decide +kernel⟩
abbrev N_ringless : List Str := ["web"]
abbrev st_ringless : Stmt := (topS 34)
theorem sc_ringless : FnScope N_ringless ["web"] (defScope st_ringless) := ⟨rfl, rfl, rfl, by decide +kernel, rfl, by decide +kernel, by decide +kernel⟩
abbrev N_ringed : List Str := ["web", "leaning"]
abbrev st_ringed : Stmt := (topS 35)
theorem sc_ringed : FnScope N_ringed ["web"] (defScope st_ringed) := ⟨rfl, rfl, rfl, by decide +kernel, rfl, by decide +kernel, by decide +kernel⟩
abbrev N_with_front : List Str := ["web", "place", "leaning"]
abbrev st_with_front : Stmt := (topS 36)
theorem sc_with_front : FnScope N_with_front ["web", "place"] (defScope st_with_front) := ⟨rfl, rfl, rfl, by decide +kernel, rfl, by decide +kernel, by decide +kernel⟩
abbrev N_law_purse : List Str := ["_law_script", "_law_k", "_law_cell", "_law_more", "_law_figures"]
abbrev st_law_purse : Stmt := (topS 38)
theorem sc_law_purse : FnScope N_law_purse ["_law_script", "_law_k"] (defScope st_law_purse) := ⟨rfl, rfl, rfl, by decide +kernel, rfl, by decide +kernel, by decide +kernel⟩
abbrev N_law_take : List Str := ["_law_purse_here", "_law_many", "_law_digit", "_law_seed", "_law_laps", "_law_factor"]
abbrev st_law_take : Stmt := (topS 39)
theorem sc_law_take : FnScope N_law_take ["_law_purse_here", "_law_many"] (defScope st_law_take) := ⟨rfl, rfl, rfl, by decide +kernel, rfl, by decide +kernel, by decide +kernel⟩
abbrev N_law_one : List Str := ["_law_purse_here", "_law_things"]
abbrev st_law_one : Stmt := (topS 40)
theorem sc_law_one : FnScope N_law_one ["_law_purse_here", "_law_things"] (defScope st_law_one) := ⟨rfl, rfl, rfl, by decide +kernel, rfl, by decide +kernel, by decide +kernel⟩
abbrev N_law_web : List Str := ["_law_purse_here", "_law_most_places", "_law_most_ties", "_law_left", "_law_found", "_law_k", "_law_places_here", "_law_ties_here", "_law_one_here", "_law_two"]
abbrev st_law_web : Stmt := (topS 41)
theorem sc_law_web : FnScope N_law_web ["_law_purse_here", "_law_most_places", "_law_most_ties"] (defScope st_law_web) := ⟨rfl, rfl, rfl, by decide +kernel, rfl, by decide +kernel, by decide +kernel⟩
abbrev N_law_ways : List Str := ["_law_ties_here", "_law_leaning_here", "_law_k"]
abbrev st_law_ways : Stmt := (topS 42)
theorem sc_law_ways : FnScope N_law_ways ["_law_ties_here", "_law_leaning_here"] (defScope st_law_ways) := ⟨rfl, rfl, rfl, by decide +kernel, rfl, by decide +kernel, by decide +kernel⟩
abbrev N_law_reach : List Str := ["_law_ways_here", "_law_start", "_law_found", "_law_turn", "_law_way"]
abbrev st_law_reach : Stmt := (topS 43)
theorem sc_law_reach : FnScope N_law_reach ["_law_ways_here", "_law_start"] (defScope st_law_reach) := ⟨rfl, rfl, rfl, by decide +kernel, rfl, by decide +kernel, by decide +kernel⟩
abbrev N_law_in_ring : List Str := ["_law_ways_here", "_law_k"]
abbrev st_law_in_ring : Stmt := (topS 44)
theorem sc_law_in_ring : FnScope N_law_in_ring ["_law_ways_here", "_law_k"] (defScope st_law_in_ring) := ⟨rfl, rfl, rfl, by decide +kernel, rfl, by decide +kernel, by decide +kernel⟩
abbrev N_law_leanings : List Str := ["_law_many", "_law_found", "_law_turn", "_law_each"]
abbrev st_law_leanings : Stmt := (topS 45)
theorem sc_law_leanings : FnScope N_law_leanings ["_law_many"] (defScope st_law_leanings) := ⟨rfl, rfl, rfl, by decide +kernel, rfl, by decide +kernel, by decide +kernel⟩
abbrev N_law_joined : List Str := ["_law_places_here", "_law_ties_here", "_law_found", "_law_tie", "_law_both", "_law_herd"]
abbrev st_law_joined : Stmt := (topS 46)
theorem sc_law_joined : FnScope N_law_joined ["_law_places_here", "_law_ties_here"] (defScope st_law_joined) := ⟨rfl, rfl, rfl, by decide +kernel, rfl, by decide +kernel, by decide +kernel⟩
abbrev N_law_counted : List Str := ["_law_places_here", "_law_ties_here", "_law_x", "_law_y", "_law_rest", "_law_tie", "_law_less", "_law_shut_here", "_law_each"]
abbrev st_law_counted : Stmt := (topS 47)
theorem sc_law_counted : FnScope N_law_counted ["_law_places_here", "_law_ties_here", "_law_x", "_law_y"] (defScope st_law_counted) := ⟨rfl, rfl, rfl, by decide +kernel, rfl, by decide +kernel, by decide +kernel⟩
abbrev N_law_right : List Str := ["_law_purse_here", "_law_places_here", "_law_ties_here", "_law_mine", "_law_none", "_law_full", "_law_lone", "_law_leaning_here", "_law_ways_here", "_law_rounds", "_law_ends", "_law_spot", "_law_free", "_law_is_one", "_law_told", "_law_k", "_law_way"]
abbrev st_law_right : Stmt := (topS 48)
theorem sc_law_right : FnScope N_law_right ["_law_purse_here"] (defScope st_law_right) := ⟨rfl, rfl, rfl, by decide +kernel, rfl, by decide +kernel, by decide +kernel⟩
abbrev N_law : List Str := ["_law_script", "_law_k"]
abbrev st_law : Stmt := (topS 49)
theorem sc_law : FnScope N_law ["_law_script"] (defScope st_law) := ⟨rfl, rfl, rfl, by decide +kernel, rfl, by decide +kernel, by decide +kernel⟩
theorem pm0_rel {α β : Type} (R : α → β → Prop) (vs : List α) (us : List β) (h : Paired R vs us) : Paired R (pm0 vs) (pm0 us) := by
  match vs, us, h with
  | [], [], .nil => exact .nil
  | [_], [_], .cons a0 .nil => exact .cons a0 .nil
  | _ :: _ :: _, _ :: _ :: _, .cons a0 (.cons a1 t) => exact .cons a0 (.cons a1 t)
theorem pm10_rel {α β : Type} (R : α → β → Prop) (vs : List α) (us : List β) (h : Paired R vs us) : Paired R (pm10 vs) (pm10 us) := by
  match vs, us, h with
  | [], [], .nil => exact .nil
  | [_], [_], .cons a0 .nil => exact .cons a0 .nil
  | [_, _], [_, _], .cons a0 (.cons a1 .nil) => exact .cons a1 (.cons a0 .nil)
  | _ :: _ :: _ :: _, _ :: _ :: _ :: _, .cons a0 (.cons a1 (.cons a2 t)) => exact .cons a0 (.cons a1 (.cons a2 t))
structure Mo (K : PySem.W.Frag) (mg : Str → Option Value) (g : Gp) (ad : Nat → Addr) (fd : Nat → FuncData) (base : Heap) (P : Program) (w : World) : Prop where
  f_are_letters : Fun K "are_letters" "are_letters" st_are_letters (ad 0) (fd 0)
  b_are_letters : Binds K (fd 0) ["value"] []
  m_are_letters : mg "are_letters" = some (.ref (ad 0))
  f_are_places : Fun K "are_places" "are_places" st_are_places (ad 1) (fd 1)
  b_are_places : Binds K (fd 1) ["value"] []
  m_are_places : mg "are_places" = some (.ref (ad 1))
  f_is_tie : Fun K "is_tie" "is_tie" st_is_tie (ad 2) (fd 2)
  b_is_tie : Binds K (fd 2) ["places", "value"] []
  m_is_tie : mg "is_tie" = some (.ref (ad 2))
  f_wrong_tie : Fun K "wrong_tie" "wrong_tie" st_wrong_tie (ad 3) (fd 3)
  b_wrong_tie : Binds K (fd 3) ["places", "ties"] []
  m_wrong_tie : mg "wrong_tie" = some (.ref (ad 3))
  f_Webinit : Fun K "__init__" "Web.__init__" st_Webinit (ad 4) (fd 4)
  b_Webinit : Binds K (fd 4) ["self", "places", "ties"] []
  f_Weblen : Fun K "__len__" "Web.__len__" st_Weblen (ad 5) (fd 5)
  b_Weblen : Binds K (fd 5) ["self"] []
  f_check_web : Fun K "check_web" "check_web" st_check_web (ad 6) (fd 6)
  b_check_web : Binds K (fd 6) ["web"] []
  m_check_web : mg "check_web" = some (.ref (ad 6))
  f_is_place : Fun K "is_place" "is_place" st_is_place (ad 7) (fd 7)
  b_is_place : Binds K (fd 7) ["web", "value"] []
  m_is_place : mg "is_place" = some (.ref (ad 7))
  f_check_place : Fun K "check_place" "check_place" st_check_place (ad 8) (fd 8)
  b_check_place : Binds K (fd 8) ["web", "place"] []
  m_check_place : mg "check_place" = some (.ref (ad 8))
  f_every_tie : Fun K "every_tie" "every_tie" st_every_tie (ad 9) (fd 9)
  b_every_tie : Binds K (fd 9) ["web"] []
  m_every_tie : mg "every_tie" = some (.ref (ad 9))
  f_herd_lot : Fun K "herd_lot" "herd_lot" st_herd_lot (ad 10) (fd 10)
  b_herd_lot : Binds K (fd 10) ["web", "herd"] []
  m_herd_lot : mg "herd_lot" = some (.ref (ad 10))
  f_ways_of : Fun K "ways_of" "ways_of" st_ways_of (ad 11) (fd 11)
  b_ways_of : Binds K (fd 11) ["web", "leaning"] []
  m_ways_of : mg "ways_of" = some (.ref (ad 11))
  f_first_order : Fun K "first_order" "first_order" st_first_order (ad 12) (fd 12)
  b_first_order : Binds K (fd 12) ["web", "leaning"] []
  m_first_order : mg "first_order" = some (.ref (ad 12))
  f_has_no_ring : Fun K "has_no_ring" "has_no_ring" st_has_no_ring (ad 13) (fd 13)
  b_has_no_ring : Binds K (fd 13) ["web", "leaning"] []
  m_has_no_ring : mg "has_no_ring" = some (.ref (ad 13))
  f_ways_to : Fun K "ways_to" "ways_to" st_ways_to (ad 14) (fd 14)
  b_ways_to : Binds K (fd 14) ["web", "leaning", "start"] []
  m_ways_to : mg "ways_to" = some (.ref (ad 14))
  f_told_ring_or_cut : Fun K "told_ring_or_cut" "told_ring_or_cut" st_told_ring_or_cut (ad 15) (fd 15)
  b_told_ring_or_cut : Binds K (fd 15) ["web", "leaning", "index"] []
  m_told_ring_or_cut : mg "told_ring_or_cut" = some (.ref (ad 15))
  f_is_all_rings : Fun K "is_all_rings" "is_all_rings" st_is_all_rings (ad 16) (fd 16)
  b_is_all_rings : Binds K (fd 16) ["web", "leaning"] []
  m_is_all_rings : mg "is_all_rings" = some (.ref (ad 16))
  f_front_places : Fun K "front_places" "front_places" st_front_places (ad 17) (fd 17)
  b_front_places : Binds K (fd 17) ["web", "leaning"] []
  m_front_places : mg "front_places" = some (.ref (ad 17))
  f_all_leanings : Fun K "all_leanings" "all_leanings" st_all_leanings (ad 18) (fd 18)
  b_all_leanings : Binds K (fd 18) ["web"] []
  m_all_leanings : mg "all_leanings" = some (.ref (ad 18))
  f_ringless_list : Fun K "ringless_list" "ringless_list" st_ringless_list (ad 19) (fd 19)
  b_ringless_list : Binds K (fd 19) ["web"] []
  m_ringless_list : mg "ringless_list" = some (.ref (ad 19))
  f_ringless : Fun K "ringless" "ringless" st_ringless (ad 20) (fd 20)
  b_ringless : Binds K (fd 20) ["web"] []
  m_ringless : mg "ringless" = some (.ref (ad 20))
  f_ringed : Fun K "ringed" "ringed" st_ringed (ad 21) (fd 21)
  b_ringed : Binds K (fd 21) ["web"] []
  m_ringed : mg "ringed" = some (.ref (ad 21))
  f_with_front : Fun K "with_front" "with_front" st_with_front (ad 22) (fd 22)
  b_with_front : Binds K (fd 22) ["web", "place"] []
  m_with_front : mg "with_front" = some (.ref (ad 22))
  f_law_purse : Fun K "_law_purse" "_law_purse" st_law_purse (ad 23) (fd 23)
  b_law_purse : Binds K (fd 23) ["_law_script", "_law_k"] []
  m_law_purse : mg "_law_purse" = some (.ref (ad 23))
  f_law_take : Fun K "_law_take" "_law_take" st_law_take (ad 24) (fd 24)
  b_law_take : Binds K (fd 24) ["_law_purse_here", "_law_many"] []
  m_law_take : mg "_law_take" = some (.ref (ad 24))
  f_law_one : Fun K "_law_one" "_law_one" st_law_one (ad 25) (fd 25)
  b_law_one : Binds K (fd 25) ["_law_purse_here", "_law_things"] []
  m_law_one : mg "_law_one" = some (.ref (ad 25))
  f_law_web : Fun K "_law_web" "_law_web" st_law_web (ad 26) (fd 26)
  b_law_web : Binds K (fd 26) ["_law_purse_here", "_law_most_places", "_law_most_ties"] []
  m_law_web : mg "_law_web" = some (.ref (ad 26))
  f_law_ways : Fun K "_law_ways" "_law_ways" st_law_ways (ad 27) (fd 27)
  b_law_ways : Binds K (fd 27) ["_law_ties_here", "_law_leaning_here"] []
  m_law_ways : mg "_law_ways" = some (.ref (ad 27))
  f_law_reach : Fun K "_law_reach" "_law_reach" st_law_reach (ad 28) (fd 28)
  b_law_reach : Binds K (fd 28) ["_law_ways_here", "_law_start"] []
  m_law_reach : mg "_law_reach" = some (.ref (ad 28))
  f_law_in_ring : Fun K "_law_in_ring" "_law_in_ring" st_law_in_ring (ad 29) (fd 29)
  b_law_in_ring : Binds K (fd 29) ["_law_ways_here", "_law_k"] []
  m_law_in_ring : mg "_law_in_ring" = some (.ref (ad 29))
  f_law_leanings : Fun K "_law_leanings" "_law_leanings" st_law_leanings (ad 30) (fd 30)
  b_law_leanings : Binds K (fd 30) ["_law_many"] []
  m_law_leanings : mg "_law_leanings" = some (.ref (ad 30))
  f_law_joined : Fun K "_law_joined" "_law_joined" st_law_joined (ad 31) (fd 31)
  b_law_joined : Binds K (fd 31) ["_law_places_here", "_law_ties_here"] []
  m_law_joined : mg "_law_joined" = some (.ref (ad 31))
  f_law_counted : Fun K "_law_counted" "_law_counted" st_law_counted (ad 32) (fd 32)
  b_law_counted : Binds K (fd 32) ["_law_places_here", "_law_ties_here", "_law_x", "_law_y"] []
  m_law_counted : mg "_law_counted" = some (.ref (ad 32))
  f_law_right : Fun K "_law_right" "_law_right" st_law_right (ad 33) (fd 33)
  b_law_right : Binds K (fd 33) ["_law_purse_here"] []
  m_law_right : mg "_law_right" = some (.ref (ad 33))
  f_law : Fun K "law" "law" st_law (ad 34) (fd 34)
  b_law : Binds K (fd 34) ["_law_script"] []
  m_law : mg "law" = some (.ref (ad 34))
  kw_ringed_0 : KB0 K (fd 21) ["web"] ["web"] pm0
  kw_ringless_0 : KB0 K (fd 20) ["web"] ["web"] pm0
  kw_with_front_10 : KB0 K (fd 22) ["web", "place"] ["place", "web"] pm10
  m_Web : mg "Web" = some (.ref g.Cw)
  z_len : mg "len" = none
  z_all : mg "all" = none
  z_any : mg "any" = none
  z_abs : mg "abs" = none
  z_int : mg "int" = none
  z_bool : mg "bool" = none
  z_divmod : mg "divmod" = none
  z_min : mg "min" = none
  z_max : mg "max" = none
  z_tuple : mg "tuple" = none
  z_list : mg "list" = none
  z_sorted : mg "sorted" = none
  z_str : mg "str" = none
  z_isinstance : mg "isinstance" = none
  z_enumerate : mg "enumerate" = none
  z_range : mg "range" = none
  z_sum : mg "sum" = none
  z_zip : mg "zip" = none
  z_repr : mg "repr" = none
  z_set : mg "set" = none
  g_MOST_PLACES : ∃ t : Tok, mg "MOST_PLACES" = some (.int 7 t)
  g_MOST_TIES : ∃ t : Tok, mg "MOST_TIES" = some (.int 11 t)
  g_LETTERS : ∃ t : Tok, mg "LETTERS" = some (.str "abcdefgh" t)
  g_SIGNS : ∃ t : Tok, mg "SIGNS" = some (.str "+-" t)
  wty : WebTy K g
  ck : g.ck = K24.ckOk
  np : NoAttr K g.Cw "places"
  nt : NoAttr K g.Cw "ties"
  fl : PySem.W.findIn K (.ref g.Cw) "__len__" = some (some (.ref (ad 5)))
  il : PySem.W.isFn K (.ref (ad 5)) = true
  mkw : Mk K g.Cw (ad 4)
  dv : g.dv = DicV P w
variable {P : Program} {w : World} {K : PySem.W.Frag} {mg : Str → Option Value} {base : Heap} {g : Gp} {ad : Nat → Addr} {fd : Nat → FuncData}
theorem ok_are_letters (M : Mo K mg g ad fd base P w) : FnOk P w K mg base CX0 1 (ad 0) (fd 0) ["value"] (spOf K g S_are_letters) :=
  def_ok M.f_are_letters sc_are_letters S_are_letters_len fun cdv A outer s H E hr => ⟨d_are_letters,
    (gss_cons (gs_if (gw_pt (gw_or (gt_not (gt_val (ge_isi M.wty (.ty "str") (pe_bltn (by rfl) M.z_str rfl rfl) (by intro x b h; cases x <;> simp only [isStrD] at h <;> first | (cases h; exact kit_ty (by decide +kernel)) | cases h) (by rfl) M.z_isinstance (gvb 0)))) (gw_or1 (gt_cmp (or_ne hr.units) od_ne (gb_e (ge_lenDc' rfl sc_are_letters.nd (gi_srcB (gvb 0)) (blkOk_by (N := N_are_letters) (sc := (defScope st_are_letters)) (own := [("letter", 1)]) (by decide +kernel)) (fun s H C cl fp => (gg_name (j := 1) sc_are_letters.nd rfl (by first | exact .inl rfl | exact .inr rfl))) (fun s H C cl fp => (gv 1)) (fun s H C cl fp => ge_bl) (by rfl) M.z_len)) (gb_e (ge_callB cr_len cd_len0 (by rfl) M.z_len (by decide +kernel) (gab_cons (gvb 0) gab_nil))) rfl)))) (gss_one (gs_ret ge_bl)) gss_nil)
      (gss_one (gs_ret (ge_callB (cr_all rfl) cd_all (by rfl) M.z_all (by decide +kernel) (gab_cons (gb_e (ge_n (gn_lc' rfl sc_are_letters.nd (gi_srcB (gvb 0)) (blkOk_by (N := N_are_letters) (sc := (defScope st_are_letters)) (own := [("letter", 1)]) (by decide +kernel)) (fun s H C cl fp => (gg_name (j := 1) sc_are_letters.nd rfl (by first | exact .inl rfl | exact .inr rfl))) (fun s H C cl fp => gts_nil) (fun s H C cl fp => (ge_cmp or_in od_in (gvb 1) (gb_e (ge_globS (by rfl) M.g_LETTERS.choose_spec)) rfl))))) gab_nil))))), law_are_letters⟩
theorem ok_are_places (M : Mo K mg g ad fd base P w) : FnOk P w K mg base CX0 2 (ad 1) (fd 1) ["value"] (spOf K g S_are_places) :=
  def_ok M.f_are_places sc_are_places S_are_places_len fun cdv A outer s H E hr => ⟨d_are_places,
    (gss_one (gs_ret (ge_and (ge_call (ok_are_letters M) (hr.mono (by first | decide | omega)) (by rfl) M.m_are_letters M.f_are_letters.kp M.b_are_letters (ga_cons (gv 0) ga_nil)) (ge_and (ge_chain or_lt or_le od_lt od_le (gb_e ge_int) (gb_e (ge_callB cr_len cd_len0 (by rfl) M.z_len (by decide +kernel) (gab_cons (gvb 0) gab_nil))) (gb_e (ge_globI (by rfl) M.g_MOST_PLACES.choose_spec))) (ge_one (ge_cmp (or_eq hr.units) od_eq (gb_e (ge_n (gn_callTy (cr_list rfl) cn_list (by rfl) M.z_list (by decide +kernel) (gab_cons (gvb 0) gab_nil)))) (gb_e (ge_n (gn_callB (cr_sorted' rfl hr.units) cn_sorted (by rfl) M.z_sorted (by decide +kernel) (gab_cons (gvb 0) gab_nil)))) rfl)))))), law_are_places⟩
theorem ok_is_tie (M : Mo K mg g ad fd base P w) : FnOk P w K mg base CX0 1 (ad 2) (fd 2) ["places", "value"] (spOf K g S_is_tie) :=
  def_ok M.f_is_tie sc_is_tie S_is_tie_len fun cdv A outer s H E hr => ⟨d_is_tie,
    (gss_cons (gs_if (gw_pt (gw_or (gt_not (gt_val (ge_isi M.wty (.ty "str") (pe_bltn (by rfl) M.z_str rfl rfl) (by intro x b h; cases x <;> simp only [isStrD] at h <;> first | (cases h; exact kit_ty (by decide +kernel)) | cases h) (by rfl) M.z_isinstance (gvb 1)))) (gw_or1 (gt_cmp (or_ne hr.units) od_ne (gb_e (ge_callB cr_len cd_len0 (by rfl) M.z_len (by decide +kernel) (gab_cons (gvb 1) gab_nil))) (gb_e ge_int) rfl)))) (gss_one (gs_ret ge_bl)) gss_nil)
      (gss_one (gs_ret (ge_and (ge_cmp or_in od_in (gb_e (ge_ix (gvb 1) (gb_e ge_int))) (gvb 0) rfl) (ge_and (ge_cmp or_in od_in (gb_e (ge_ix (gvb 1) (gb_e ge_int))) (gvb 0) rfl) (ge_one (ge_cmp or_le od_le (gb_e (ge_ix (gvb 1) (gb_e ge_int))) (gb_e (ge_ix (gvb 1) (gb_e ge_int))) rfl))))))), law_is_tie⟩
theorem ok_wrong_tie (M : Mo K mg g ad fd base P w) : FnOk P w K mg base CX0 2 (ad 3) (fd 3) ["places", "ties"] (spOf K g S_wrong_tie) :=
  def_ok M.f_wrong_tie sc_wrong_tie S_wrong_tie_len fun cdv A outer s H E hr => ⟨d_wrong_tie,
    (gss_cons (gs_for PassesOwn.never rfl (gi_enum (by rfl) M.z_enumerate (gv 1)) (gg_tupK K rfl (ggs_cons (gg_name (j := 2) sc_wrong_tie.nd rfl (by first | exact .inl rfl | exact .inr rfl)) (ggs_cons (gg_name (j := 3) sc_wrong_tie.nd rfl (by first | exact .inl rfl | exact .inr rfl)) ggs_nil)))
      (gss_one (gs_if (gw_pt (gw_or (gt_cmp (or_eq hr.units) od_eq (gvb 2) (gb_e (ge_globI (by rfl) M.g_MOST_TIES.choose_spec)) rfl) (gw_or1 (gt_not (gt_val (ge_call (ok_is_tie M) (hr.mono (by first | decide | omega)) (by rfl) M.m_is_tie M.f_is_tie.kp M.b_is_tie (ga_cons (gv 0) (ga_cons (gv 3) ga_nil)))))))) (gss_one (gs_ret (gv 2))) gss_nil)))
      (gss_one (gs_ret ge_non))), law_wrong_tie⟩
theorem rel_mk {c : Option Addr} {F H : Hp} {m : Nat} : ∀ {env : Env'} {σ : St}, Ex F H → Ck g c m F H → Paired (fun (s : Sl) (o : Option V) => SlR K g c F H s (some o) ∧ ∀ o, s.adr o = []) env σ → Rel K g c F env m σ H := fun {env σ} e ck h => by
  have get : ∀ {env : Env'} {σ : St}, Paired (fun (s : Sl) (o : Option V) => SlR K g c F H s (some o) ∧ ∀ o, s.adr o = []) env σ → ∀ (i : Nat) (s : Sl), env[i]? = some s → SlR K g c F H s σ[i]? ∧ ∀ o, s.adr o = [] := by
    intro env σ h
    induction h with
    | nil => intro i s h; simp at h
    | cons h t ih =>
      intro i s hs
      cases i with
      | zero => simp at hs; subst hs; exact h
      | succ i => exact ih i s (by simpa using hs)
  exact ⟨e, Paired.length h, fun i s hs => (get h i s hs).1, fun i j si sj a h1 _ ha => by rw [(get h i _ h1).2] at ha; simp at ha, ck⟩
def spInit (K : PySem.W.Frag) (g : Gp) : Sp := fun vs H Q _ => ∃ c F m x dx t P T, vs = [.ref x, .str (plS P), .ref t] ∧ WbOk P T ∧ Ex F H ∧ Ck g c m F H ∧ Rep K g F (.tup (T.map wayD)) (.ref t) ∧ H x = some (.ins g.Cw dx []) ∧ c ≠ some x ∧
  ∀ F' H' H'', Fresh c F H F' H' → Ck g c m F' H' → (∀ b, b ≠ x → H'' b = H' b) → H'' x = some (.ins g.Cw dx [("places", .str (plS P)), ("ties", .ref t)]) → Q .non H''
theorem ok_Webinit (M : Mo K mg g ad fd base P w) : FnOk P w K mg base CX0 3 (ad 4) (fd 4) ["self", "places", "ties"] (spInit K g) := by
  refine M.f_Webinit.ok sc_Webinit (fun vs H Q E h => ?_) (fun cdv A outer s H vs Q E hr h => ?_)
  · obtain ⟨c, F, m, x, dx, t, P, T, rfl, _⟩ := h
    rfl
  · obtain ⟨c, F, m, x, dx, t, P, T, rfl, hW, eF, ck, rt, hx, cx, q⟩ := h
    refine ⟨_, pss_cons (ps_if (gt_not (gt_val (ge_call (ok_are_places M) (hr.mono (by decide)) (by rfl) M.m_are_places M.f_are_places.kp M.b_are_places (ga_cons (gv 1) ga_nil)))) pss_never pss_nil)
      (pss_cons (ps_if (gt_not (gt_val (ge_isi M.wty (.ty "tuple") (pe_bltn (by rfl) M.z_tuple rfl rfl) (f := isTupD) (by intro x b h; cases x <;> simp only [isTupD] at h <;> first | (cases h; exact kit_ty (by decide +kernel)) | cases h) (by rfl) M.z_isinstance (gvb 2)))) pss_never pss_nil)
      (pss_cons (ps_set (i := 3) sc_Webinit.nd rfl (.inl rfl) (ge_call (ok_wrong_tie M) (hr.mono (by decide)) (by rfl) M.m_wrong_tie M.f_wrong_tie.kp M.b_wrong_tie (ga_cons (gv 1) (ga_cons (gv 2) ga_nil))))
      (pss_cons (ps_if (gt_cmp (g := g) op_notN od_notN (gvb 3) (gb_e ge_non) rfl) pss_never pss_nil)
      (pss_cons (ps_fld (pv 0) (pv 1) rfl) (pss_one (ps_fld (pv 0) (pv 2) rfl)))))), ?_⟩
    have r0 : Rel K g c F [.no, .val (.str (plS P)), .val (.tup (T.map wayD)), .no] m [some (.ref x), some (.str (plS P)), some (.ref t), none] H :=
      rel_mk eF ck (.cons ⟨trivial, fun _ => rfl⟩ (.cons ⟨⟨_, rfl, .str _⟩, fun _ => rfl⟩ (.cons ⟨⟨_, rfl, rt⟩, fun _ => rfl⟩ (.cons ⟨trivial, fun _ => rfl⟩ .nil))))
    refine ⟨c, F, _, m, (fun b m1 => b = false ∧ m1 = m), r0, ⟨_, rfl, P, hW.pl, rfl, true, rfl, rfl, rfl⟩, fun b H1 F1 m1 r1 f1 ⟨hb, hm⟩ => ?_⟩
    subst hb hm
    refine ⟨c, F1, _, m1, (fun b m2 => b = false ∧ m2 = m1), r1, ⟨_, rfl, true, rfl, true, rfl, rfl, rfl⟩, fun b H2 F2 m2 r2 f2 ⟨hb, hm⟩ => ?_⟩
    subst hb hm
    refine ⟨c, F2, _, m2, (fun y m3 => y = .non ∧ m3 = m2), r2, ⟨_, rfl, _, rfl, P, T, hW, rfl, rfl, rfl⟩, fun v H3 F3 m3 y r3 f3 rp ⟨hy, hm⟩ => ?_⟩
    subst hy hm
    have r3' := r3.setV (i := 3) rp
    refine ⟨c, F3, _, m3, (fun b m4 => b = false ∧ m4 = m3), r3', ⟨_, rfl, _, rfl, _, rfl, rfl, rfl⟩, fun b H4 F4 m4 r4 f4 ⟨hb, hm⟩ => ?_⟩
    subst hb hm
    have fr := ((f1.trans f2).trans f3).trans f4
    have hx4 : H4 x = some (.ins g.Cw dx []) := fr.hh _ _ hx cx
    refine ⟨_, rfl, _, rfl, x, g.Cw, dx, _, rfl, hx4, M.wty.cls, M.np, by decide, ?_⟩
    refine ⟨_, rfl, _, rfl, x, g.Cw, dx, _, rfl, upd_same, M.wty.cls, M.nt, (show 1 < 1000 by decide), ?_⟩
    refine q F4 H4 _ fr r4.ck (fun b hb => by rw [upd_ne hb, upd_ne hb]) ?_
    rw [upd_same]
    rfl
theorem ge_make {X : Cx} (M : Mo X.K X.mg g ad fd X.base X.prog X.w) {e : Expr} {es : List Expr} {da : DA} {p pos : Pos} (hr : Room (3 + 1) X.A) (hg : Gl X "Web") (ha : GA g X (e :: es) da) (he : starEach (e :: es) X.env = (false, eval e X.env) :: starEach es X.env := by rfl) (hpl : (backTo pos (starEach es X.env)).any (·.1) = false := by rfl) :
    GE g X (.Call (.Name "Web" p) (e :: es) [] pos) (dMake da) :=
  PE.weak (pe_make M.mkw (ok_Webinit M) hr hg M.m_Web M.b_Webinit .nil pass0 ha (by decide) he hpl) fun σ H Q ⟨c, F, env, m, Q1, r, h, kk⟩ => ⟨c, F, env, m, _, r, h, fun vs H1 F1 m1 as r1 f1 ar ⟨P, T, hW, eas, q⟩ => fun x dx hx hdx hne => by
    subst eas
    cases ar with
    | cons a1 ar =>
      cases ar with
      | cons a2 ar =>
        cases ar
        cases a1
        have a2' : Rep X.K g F1 (.tup (T.map wayD)) _ := a2
        cases a2' with
        | @tup t xs ds hs hl =>
        have n1 := New.lay (F := F1) (o := .own x) r1.sub hdx
        have hx2 : upd H1 dx (.own x) x = none := by rw [upd_ne (Ne.symm hne)]; exact hx
        have n2 := New.lay (F := F1) (o := .ins g.Cw dx []) n1.fh hx2
        have n := n1.trans n2
        have cx : c ≠ some x := fun z => by obtain ⟨_, _, e, _⟩ := r1.ck x z; rw [e] at hx; cases hx
        have F1x : F1 x = none := ex_none r1.sub hx
        refine ⟨c, F1, m1, x, dx, t, P, T, rfl, hW, n.fh, r1.ck.new n, .tup hs hl, upd_same, cx, fun F' H' H'' fr ck hb hx'' => ⟨rfl, ?_⟩⟩
        have F'x : F' x = none := by
          cases z : F' x with
          | none => rfl
          | some o =>
            rcases fr.new x o z with y | y
            · rw [F1x] at y; cases y
            · rw [upd_same] at y; cases y
        have fresh : Fresh c F1 H1 (upd F' x (.ins g.Cw dx [("places", .str (plS P)), ("ties", .ref t)])) H'' := by
          refine ⟨fr.ff.trans (Evl.Ex.new F'x), fun a o z => ?_, fun a o z nz => ?_, fun a o z => ?_, fun a z => ?_⟩
          · by_cases y : a = x
            · subst y; rw [upd_same] at z; rw [← z]; exact hx''
            · rw [upd_ne y] at z; rw [hb a y]; exact fr.fh a o z
          · have y : a ≠ x := fun e => by subst e; rw [hx] at z; cases z
            rw [hb a y]
            exact fr.hk a o (n.hh a o z) nz
          · by_cases y : a = x
            · subst y; exact .inr hx
            · rw [upd_ne y] at z
              rcases fr.new a o z with u | u
              · exact .inl u
              · exact .inr (ex_none n.hh u)
          · have y : a ≠ x := fun e => cx (by rw [← e]; exact z)
            rw [upd_ne y]; exact fr.nc a z
        have ck' : Ck g c m1 (upd F' x (.ins g.Cw dx [("places", .str (plS P)), ("ties", .ref t)])) H'' := ⟨fun a z => (by
          have y : a ≠ x := fun e => cx (by rw [← e]; exact z)
          obtain ⟨b1, ys, b2, b3⟩ := ck a z
          exact ⟨by rw [upd_ne y]; exact b1, ys, by rw [hb a y]; exact b2, b3⟩), TabF.mono (TabF.keep ck.tb fun b u hu z => by
          have hx' : H' x = some (.ins g.Cw dx []) := fr.hh _ _ upd_same cx
          have y : b ≠ x := fun e => by
            subst e
            rw [hx'] at hu
            cases hu
            rcases z with z | ⟨_, _, z⟩ <;> cases z
          rw [hb b y]; exact hu) (Evl.Ex.new F'x) fun p hp => by
          have hx' : H' x = some (.ins g.Cw dx []) := fr.hh _ _ upd_same cx
          obtain ⟨ps, h1⟩ := ck.tb.at hp
          rw [upd_ne fun e => by rw [e, hx'] at h1; cases h1]
          exact ck.tb.nf p hp⟩
        have hxs : xs = (T.map tS).map V.str := repL_strs (by rw [ts_map]; exact hl)
        refine kk _ H'' _ m1 _ (r1.fresh fresh ck') (f1.trans fresh) (.web upd_same ?_) q
        rw [← hxs]
        exact Evl.ex_t fresh.ff hs⟩
theorem ok_Weblen (M : Mo K mg g ad fd base P w) : FnOk P w K mg base CX0 1 (ad 5) (fd 5) ["self"] (spLen K g) := by
  refine M.f_Weblen.ok sc_Weblen (fun vs H Q E h => ?_) (fun cdv A outer s H vs Q E hr h => ?_)
  · obtain ⟨a, dx, t, pl, ts, rfl, _⟩ := h; rfl
  · obtain ⟨a, dx, t, pl, ts, rfl, ha, ht, q⟩ := h
    exact ⟨_, pss_one (ps_ret (pe_callB call_len_seq (by rfl) M.z_len PySem.boot_len (pa_cons (pe_fld (pv 0) rfl) pa_nil))), ⟨_, rfl, _, _, _, _, _, rfl, ha, M.wty.cls, M.nt, rfl, t, _, rfl, .inr ht, by simpa using q⟩⟩
theorem ok_check_web (M : Mo K mg g ad fd base P w) : FnOk P w K mg base CX0 1 (ad 6) (fd 6) ["web"] (spOf K g S_check_web) :=
  def_ok M.f_check_web sc_check_web S_check_web_len fun cdv A outer s H E hr => ⟨d_check_web,
    (gss_one (gs_if (gt_not (gt_val (ge_isi M.wty (.own g.Cw) (pe_glob (by rfl) M.m_Web rfl) (by intro x b h; cases x <;> simp only [isWebD] at h <;> first | (cases h; exact kit_same) | cases h) (by rfl) M.z_isinstance (gvb 0)))) (gss_one gs_never) gss_nil)), law_check_web⟩
theorem ok_is_place (M : Mo K mg g ad fd base P w) : FnOk P w K mg base CX0 1 (ad 7) (fd 7) ["web", "value"] (spOf K g S_is_place) :=
  def_ok M.f_is_place sc_is_place S_is_place_len fun cdv A outer s H E hr => ⟨d_is_place,
    (gss_one (gs_ret (ge_and (ge_isi M.wty (.ty "str") (pe_bltn (by rfl) M.z_str rfl rfl) (by intro x b h; cases x <;> simp only [isStrD] at h <;> first | (cases h; exact kit_ty (by decide +kernel)) | cases h) (by rfl) M.z_isinstance (gvb 1)) (ge_and (ge_cmp (or_eq hr.units) od_eq (gb_e (ge_callB cr_len cd_len0 (by rfl) M.z_len (by decide +kernel) (gab_cons (gvb 1) gab_nil))) (gb_e ge_int) rfl) (ge_one (ge_cmp or_in od_in (gvb 1) (gb_e (ge_places M.wty.cls M.np (gv 0))) rfl)))))), law_is_place⟩
theorem ok_check_place (M : Mo K mg g ad fd base P w) : FnOk P w K mg base CX0 2 (ad 8) (fd 8) ["web", "place"] (spOf K g S_check_place) :=
  def_ok M.f_check_place sc_check_place S_check_place_len fun cdv A outer s H E hr => ⟨d_check_place,
    (gss_one (gs_if (gt_not (gt_val (ge_call (ok_is_place M) (hr.mono (by first | decide | omega)) (by rfl) M.m_is_place M.f_is_place.kp M.b_is_place (ga_cons (gv 0) (ga_cons (gv 1) ga_nil))))) (gss_one gs_never) gss_nil)), law_check_place⟩
theorem ok_every_tie (M : Mo K mg g ad fd base P w) : FnOk P w K mg base CX0 3 (ad 9) (fd 9) ["web"] (spOf K g S_every_tie) :=
  def_ok M.f_every_tie sc_every_tie S_every_tie_len fun cdv A outer s H E hr => ⟨d_every_tie,
    (gss_one (gs_ret (ge_tupRg rfl (by rfl) M.z_tuple (by rfl) M.z_range (ge_callB (CallR.or cr_len (cr_lenW (ok_Weblen M) (hr.mono (by decide)) M.fl M.il M.b_Weblen)) cd_lenW (by rfl) M.z_len PySem.boot_len (gab_cons (gvb 0) gab_nil))))), law_every_tie⟩
theorem ok_herd_lot (M : Mo K mg g ad fd base P w) : FnOk P w K mg base CX0 1 (ad 10) (fd 10) ["web", "herd"] (spOf K g S_herd_lot) :=
  def_ok M.f_herd_lot sc_herd_lot S_herd_lot_len fun cdv A outer s H E hr => ⟨d_herd_lot,
    (gss_one (gs_ret (ge_callTy cr_tuple cd_tuple (by rfl) M.z_tuple (by decide +kernel) (gab_cons (gb_e (ge_n (gn_lc' rfl sc_herd_lot.nd (gi_enumB (by rfl) M.z_enumerate (gb_e (ge_ties M.wty.cls M.nt (gv 0)))) (blkOk_by (N := N_herd_lot) (sc := (defScope st_herd_lot)) (own := [("index", 2), ("tie", 3)]) (by decide +kernel)) (fun s H C cl fp => (gg_tupK K rfl (ggs_cons (gg_name (j := 2) sc_herd_lot.nd rfl (by first | exact .inl rfl | exact .inr rfl)) (ggs_cons (gg_name (j := 3) sc_herd_lot.nd rfl (by first | exact .inl rfl | exact .inr rfl)) ggs_nil)))) (fun s H C cl fp => (gts_one (gt_cmp (or_ne hr.units) od_ne (gb_e (ge_cmp or_in od_in (gb_e (ge_ix (gvb 3) (gb_e ge_int))) (gvb 1) rfl)) (gb_e (ge_cmp or_in od_in (gb_e (ge_ix (gvb 3) (gb_e ge_int))) (gvb 1) rfl)) rfl))) (fun s H C cl fp => (gv 2))))) gab_nil)))), law_herd_lot⟩
theorem ok_ways_of (M : Mo K mg g ad fd base P w) : FnOk P w K mg base CX0 1 (ad 11) (fd 11) ["web", "leaning"] (spOf K g S_ways_of) :=
  def_ok M.f_ways_of sc_ways_of S_ways_of_len fun cdv A outer s H E hr => ⟨d_ways_of,
    (gss_one (gs_ret (ge_n (gn_lc' rfl sc_ways_of.nd (gi_bor (gi_zip (by rfl) M.z_zip (ge_ties M.wty.cls M.nt (gv 0)) (gv 1))) (blkOk_by (N := N_ways_of) (sc := (defScope st_ways_of)) (own := [("tie", 2), ("sign", 3)]) (by decide +kernel)) (fun s H C cl fp => (gg_tupK K rfl (ggs_cons (gg_name (j := 2) sc_ways_of.nd rfl (by first | exact .inl rfl | exact .inr rfl)) (ggs_cons (gg_name (j := 3) sc_ways_of.nd rfl (by first | exact .inl rfl | exact .inr rfl)) ggs_nil)))) (fun s H C cl fp => gts_nil) (fun s H C cl fp => (ge_if (gt_cmp (or_eq hr.units) od_eq (gvb 3) (gb_e ge_str) rfl) (gv 2) (ge_rev (gv 2)))))))), law_ways_of⟩
theorem ok_first_order (M : Mo K mg g ad fd base P w) : FnOk P w K mg base CX0 2 (ad 12) (fd 12) ["web", "leaning"] (spOf K g S_first_order) :=
  def_ok M.f_first_order sc_first_order S_first_order_len fun cdv A outer s H E hr => ⟨d_first_order,
    (gss_cons (gs_mixT3 (i := 2) (j := 3) (l := 4) rfl sc_first_order.nd rfl rfl rfl (by first | exact .inl rfl | exact .inr rfl) (by first | exact .inl rfl | exact .inr rfl) (by first | exact .inl rfl | exact .inr rfl) (gmx_val (ge_call (ok_ways_of M) (hr.mono (by first | decide | omega)) (by rfl) M.m_ways_of M.f_ways_of.kp M.b_ways_of (ga_cons (gv 0) (ga_cons (gv 1) ga_nil))) (gmx_val (ge_places M.wty.cls M.np (gv 0)) (gmx_val ge_str gmx_nil))))
      (gss_cons (gs_whileT PassesOwn.never (gtt_cmp (or_ne hr.units) od_ne (gvb 3) rfl) (gsst_tok 6 7 3 2 5 4 rfl sc_first_order.nd rfl rfl rfl rfl rfl rfl hr.units rfl rfl rfl rfl rfl (blkOk_by (N := N_first_order) (sc := (defScope st_first_order)) (own := [("place", 6)]) (by decide +kernel)) rfl rfl (by first | exact .inl rfl | exact .inr (.inl rfl) | exact .inr (.inr rfl)) (blkOk_by (N := N_first_order) (sc := ({ kind := PySem.ScopeKind.function, names := [(PySem.Str.ofString ".0", PySem.NameKind.local), (PySem.Str.ofString "place", PySem.NameKind.cell), (PySem.Str.ofString "any", PySem.NameKind.globalImplicit), (PySem.Str.ofString "left", PySem.NameKind.cell), (PySem.Str.ofString "ways", PySem.NameKind.cell)], isGenerator := false, isCoroutine := false, more := [] : PySem.Scope })) (own := [("way", 7)]) (by decide +kernel)) rfl (fun _ _ => (by first | exact .inl rfl | exact .inr (.inl rfl) | exact .inr (.inr rfl))) (fun _ _ => (by first | exact .inl rfl | exact .inr (.inl rfl) | exact .inr (.inr rfl))) (fun _ _ => (by first | exact .inl rfl | exact .inr (.inl rfl) | exact .inr (.inr rfl))) rfl M.z_any (sw_true rfl rfl rfl rfl) rfl rfl rfl))
      (gss_one (gs_ret (gv 4))))), law_first_order⟩
theorem ok_has_no_ring (M : Mo K mg g ad fd base P w) : FnOk P w K mg base CX0 3 (ad 13) (fd 13) ["web", "leaning"] (spOf K g S_has_no_ring) :=
  def_ok M.f_has_no_ring sc_has_no_ring S_has_no_ring_len fun cdv A outer s H E hr => ⟨d_has_no_ring,
    (gss_one (gs_ret (ge_cmp op_notN od_notN (gb_e (ge_call (ok_first_order M) (hr.mono (by first | decide | omega)) (by rfl) M.m_first_order M.f_first_order.kp M.b_first_order (ga_cons (gv 0) (ga_cons (gv 1) ga_nil)))) (gb_e ge_non) rfl))), law_has_no_ring⟩
theorem ok_ways_to (M : Mo K mg g ad fd base P w) : FnOk P w K mg base CX0 2 (ad 14) (fd 14) ["web", "leaning", "start"] (spOf K g S_ways_to) :=
  def_ok M.f_ways_to sc_ways_to S_ways_to_len fun cdv A outer s H E hr => ⟨d_ways_to,
    (gss_cons (gs_mix3 (i := 3) (j := 4) (l := 5) rfl sc_ways_to.nd rfl rfl rfl (by decide) (by decide) (by decide) rfl rfl rfl (gmx_val (ge_call (ok_ways_of M) (hr.mono (by first | decide | omega)) (by rfl) M.m_ways_of M.f_ways_of.kp M.b_ways_of (ga_cons (gv 0) (ga_cons (gv 1) ga_nil))) (gmx_new (gnw_dic1 (gv 2) (ge_tup gal_nil)) (gmx_val (ge_n (gn_lst (gal_cons (gv 2) gal_nil))) gmx_nil))) rfl)
      (gss_cons (gs_while PassesOwn.never (gt_cmp (or_ne hr.units) od_ne (gvb 5) (gb_e (ge_n (gn_lst gal_nil))) rfl) (gss_cons (gs_setN (i := 6) sc_ways_to.nd rfl (by first | exact .inl rfl | exact .inr rfl) (gn_lst gal_nil))
      (gss_cons (gs_for PassesOwn.never rfl (gi_src (gv 5)) (gg_name (j := 7) sc_ways_to.nd rfl (by first | exact .inl rfl | exact .inr rfl))
      (gss_one (gs_for PassesOwn.never rfl (gi_enum (by rfl) M.z_enumerate (gv 3)) (gg_tupK K rfl (ggs_cons (gg_name (j := 8) sc_ways_to.nd rfl (by first | exact .inl rfl | exact .inr rfl)) (ggs_cons (gg_name (j := 9) sc_ways_to.nd rfl (by first | exact .inl rfl | exact .inr rfl)) ggs_nil)))
      (gss_one (gs_if (gw_pt (gw_and (gt_cmp (or_eq hr.units) od_eq (gb_e (ge_ix (gvb 9) (gb_e ge_int))) (gvb 7) rfl) (gw_and1 (gt_cmp (or_notinDk hr.units) od_dnotin (gb_e (ge_ix (gvb 9) (gb_e ge_int))) (gvb 4) rfl)))) (gss_cons (gs_setD hr.units 4 (ge_op or_add od_add (gb_e (ge_dix hr.units (gvb 4) (gv 7))) (gb_e (ge_tup (gal_cons (gv 8) gal_nil)))) (ge_ix (gvb 9) (gb_e ge_int)))
      (gss_one (gs_append 6 (ge_ix (gvb 9) (gb_e ge_int))))) gss_nil)))))
      (gss_one (gs_freeze 6 (gs_set (i := 5) sc_ways_to.nd rfl (by first | exact .inl rfl | exact .inr rfl) (gv 6)))))))
      (gss_one (gs_freezeW 4 (gs_ret (gv 4)))))), law_ways_to⟩
theorem ok_told_ring_or_cut (M : Mo K mg g ad fd base P w) : FnOk P w K mg base CX0 3 (ad 15) (fd 15) ["web", "leaning", "index"] (spOf K g S_told_ring_or_cut) :=
  def_ok M.f_told_ring_or_cut sc_told_ring_or_cut S_told_ring_or_cut_len fun cdv A outer s H E hr => ⟨d_told_ring_or_cut,
    (gss_cons (gs_asg (ge_ix (gb_e (ge_call (ok_ways_of M) (hr.mono (by first | decide | omega)) (by rfl) M.m_ways_of M.f_ways_of.kp M.b_ways_of (ga_cons (gv 0) (ga_cons (gv 1) ga_nil)))) (gvb 2)) (gg_tupS rfl (ggs_cons (gg_name (j := 3) sc_told_ring_or_cut.nd rfl (by first | exact .inl rfl | exact .inr rfl)) (ggs_cons (gg_name (j := 4) sc_told_ring_or_cut.nd rfl (by first | exact .inl rfl | exact .inr rfl)) ggs_nil))))
      (gss_cons (gs_set (i := 5) sc_told_ring_or_cut.nd rfl (by first | exact .inl rfl | exact .inr rfl) (ge_call (ok_ways_to M) (hr.mono (by first | decide | omega)) (by rfl) M.m_ways_to M.f_ways_to.kp M.b_ways_to (ga_cons (gv 0) (ga_cons (gv 1) (ga_cons (gv 4) ga_nil)))))
      (gss_cons (gs_if (gt_cmp (or_inDk hr.units) od_din (gvb 3) (gvb 5) rfl) (gss_one (gs_ret (ge_tup (gal_cons ge_str (gal_cons (ge_callTy cr_tuple cd_tuple (by rfl) M.z_tuple (by decide +kernel) (gab_cons (gb_e (ge_n (gn_callB (cr_sortTp hr.units) cn_sortedT (by rfl) M.z_sorted (by decide +kernel) (gab_cons (gb_e (ge_op or_add od_add (gb_e (ge_dix hr.units (gvb 5) (gv 3))) (gb_e (ge_tup (gal_cons (gv 2) gal_nil))))) gab_nil)))) gab_nil)) gal_nil))))) gss_nil)
      (gss_one (gs_ret (ge_tup (gal_cons ge_str (gal_cons (ge_call (ok_herd_lot M) (hr.mono (by first | decide | omega)) (by rfl) M.m_herd_lot M.f_herd_lot.kp M.b_herd_lot (ga_cons (gv 0) (ga_cons (ge_n (gn_lc' rfl sc_told_ring_or_cut.nd (gi_srcB (gb_e (ge_places M.wty.cls M.np (gv 0)))) (blkOk_by (N := N_told_ring_or_cut) (sc := (defScope st_told_ring_or_cut)) (own := [("place", 6)]) (by decide +kernel)) (fun s H C cl fp => (gg_name (j := 6) sc_told_ring_or_cut.nd rfl (by first | exact .inl rfl | exact .inr rfl))) (fun s H C cl fp => (gts_one (gt_cmp (or_notinDk hr.units) od_dnotin (gvb 6) (gvb 5) rfl))) (fun s H C cl fp => (gv 6)))) ga_nil))) gal_nil)))))))), law_told_ring_or_cut⟩
theorem ok_is_all_rings (M : Mo K mg g ad fd base P w) : FnOk P w K mg base CX0 4 (ad 16) (fd 16) ["web", "leaning"] (spOf K g S_is_all_rings) :=
  def_ok M.f_is_all_rings sc_is_all_rings S_is_all_rings_len fun cdv A outer s H E hr => ⟨d_is_all_rings,
    (gss_one (gs_ret (ge_callB (cr_all rfl) cd_all (by rfl) M.z_all (by decide +kernel) (gab_cons (gb_e (ge_n (gn_lc' rfl sc_is_all_rings.nd (gi_srcB (gb_e (ge_call (ok_every_tie M) (hr.mono (by first | decide | omega)) (by rfl) M.m_every_tie M.f_every_tie.kp M.b_every_tie (ga_cons (gv 0) ga_nil)))) (blkOk_by (N := N_is_all_rings) (sc := (defScope st_is_all_rings)) (own := [("index", 2)]) (by decide +kernel)) (fun s H C cl fp => (gg_name (j := 2) sc_is_all_rings.nd rfl (by first | exact .inl rfl | exact .inr rfl))) (fun s H C cl fp => gts_nil) (fun s H C cl fp => (ge_cmp (or_eq hr.units) od_eq (gb_e (ge_ix (gb_e (ge_call (ok_told_ring_or_cut M) (hr.mono (by first | decide | omega)) (by rfl) M.m_told_ring_or_cut M.f_told_ring_or_cut.kp M.b_told_ring_or_cut (ga_cons (gv 0) (ga_cons (gv 1) (ga_cons (gv 2) ga_nil))))) (gb_e ge_int))) (gb_e ge_str) rfl))))) gab_nil)))), law_is_all_rings⟩
theorem ok_front_places (M : Mo K mg g ad fd base P w) : FnOk P w K mg base CX0 2 (ad 17) (fd 17) ["web", "leaning"] (spOf K g S_front_places) :=
  def_ok M.f_front_places sc_front_places S_front_places_len fun cdv A outer s H E hr => ⟨d_front_places,
    (gss_cons (gs_set (i := 2) sc_front_places.nd rfl (by first | exact .inl rfl | exact .inr rfl) (ge_call (ok_ways_of M) (hr.mono (by first | decide | omega)) (by rfl) M.m_ways_of M.f_ways_of.kp M.b_ways_of (ga_cons (gv 0) (ga_cons (gv 1) ga_nil))))
      (gss_one (gs_ret (ge_mtS PySem.F.slot_str_join PySem.F.type_str_join mt_join md_join (gb_e ge_str) (gab_cons (gb_e (ge_n (gn_lc' rfl sc_front_places.nd (gi_srcB (gb_e (ge_places M.wty.cls M.np (gv 0)))) (blkOk_by (N := N_front_places) (sc := (defScope st_front_places)) (own := [("place", 3)]) (by decide +kernel)) (fun s H C cl fp => (gg_name (j := 3) sc_front_places.nd rfl (by first | exact .inl rfl | exact .inr rfl))) (fun s H C cl fp => (gts_one (gt_not (gt_val (ge_callB (cr_any rfl) cd_any (by rfl) M.z_any (by decide +kernel) (gab_cons (gb_e (ge_n (gn_lc' rfl sc_front_places.nd (gi_srcB (gvb 2)) (blkOk_by (N := N_front_places) (sc := ({ kind := PySem.ScopeKind.function, names := [(PySem.Str.ofString ".0", PySem.NameKind.local), (PySem.Str.ofString "place", PySem.NameKind.cell), (PySem.Str.ofString "any", PySem.NameKind.globalImplicit), (PySem.Str.ofString "ways", PySem.NameKind.cell)], isGenerator := false, isCoroutine := false, more := [] : PySem.Scope })) (own := [("way", 4)]) (by decide +kernel)) (fun s H C cl fp => (gg_name (j := 4) sc_front_places.nd rfl (by first | exact .inl rfl | exact .inr rfl))) (fun s H C cl fp => gts_nil) (fun s H C cl fp => (ge_cmp (or_eq hr.units) od_eq (gb_e (ge_ix (gvb 4) (gb_e ge_int))) (gvb 3) rfl))))) gab_nil)))))) (fun s H C cl fp => (gv 3))))) gab_nil))))), law_front_places⟩
theorem ok_all_leanings (M : Mo K mg g ad fd base P w) : FnOk P w K mg base CX0 1 (ad 18) (fd 18) ["web"] (spOf K g S_all_leanings) :=
  def_ok M.f_all_leanings sc_all_leanings S_all_leanings_len fun cdv A outer s H E hr => ⟨d_all_leanings,
    (gss_cons (gs_set (i := 1) sc_all_leanings.nd rfl (by first | exact .inl rfl | exact .inr rfl) (ge_n (gn_lst (gal_cons ge_str gal_nil))))
      (gss_cons (gs_for PassesOwn.never rfl (gi_src (ge_ties M.wty.cls M.nt (gv 0))) (gg_name (j := 2) sc_all_leanings.nd rfl (by first | exact .inl rfl | exact .inr rfl))
      (gss_one (gs_setLc2 (i := 1) rfl sc_all_leanings.nd rfl rfl rfl (gi_srcB (gvb 1)) (blkOk_by (N := N_all_leanings) (sc := (defScope st_all_leanings)) (own := [("leaning", 3), ("sign", 4)]) (by decide +kernel)) (fun s H C cl fp => (gg_name (j := 3) sc_all_leanings.nd rfl (by first | exact .inl rfl | exact .inr rfl))) (fun s H C cl fp => gts_nil) (fun s H C cl fp => (gi_src (ge_globS (by rfl) M.g_SIGNS.choose_spec))) (fun s H C cl fp => (gg_name (j := 4) sc_all_leanings.nd rfl (by first | exact .inl rfl | exact .inr rfl))) (fun s H C cl fp => gts_nil) (fun s H C cl fp => (ge_op or_add od_add (gvb 3) (gvb 4))))))
      (gss_one (gs_ret (gv 1))))), law_all_leanings⟩
theorem ok_ringless_list (M : Mo K mg g ad fd base P w) : FnOk P w K mg base CX0 4 (ad 19) (fd 19) ["web"] (spOf K g S_ringless_list) :=
  def_ok M.f_ringless_list sc_ringless_list S_ringless_list_len fun cdv A outer s H E hr => ⟨d_ringless_list,
    (gss_one (gs_ret (ge_n (gn_lc' rfl sc_ringless_list.nd (gi_srcB (gb_e (ge_call (ok_all_leanings M) (hr.mono (by first | decide | omega)) (by rfl) M.m_all_leanings M.f_all_leanings.kp M.b_all_leanings (ga_cons (gv 0) ga_nil)))) (blkOk_by (N := N_ringless_list) (sc := (defScope st_ringless_list)) (own := [("leaning", 1)]) (by decide +kernel)) (fun s H C cl fp => (gg_name (j := 1) sc_ringless_list.nd rfl (by first | exact .inl rfl | exact .inr rfl))) (fun s H C cl fp => (gts_one (gt_val (ge_call (ok_has_no_ring M) (hr.mono (by first | decide | omega)) (by rfl) M.m_has_no_ring M.f_has_no_ring.kp M.b_has_no_ring (ga_cons (gv 0) (ga_cons (gv 1) ga_nil)))))) (fun s H C cl fp => (gv 1)))))), law_ringless_list⟩
theorem ok_ringless (M : Mo K mg g ad fd base P w) : FnOk P w K mg base CX0 5 (ad 20) (fd 20) ["web"] (spOf K g S_ringless) :=
  def_ok M.f_ringless sc_ringless S_ringless_len fun cdv A outer s H E hr => ⟨d_ringless,
    (gss_cons (gs_expr (ge_call (ok_check_web M) (hr.mono (by first | decide | omega)) (by rfl) M.m_check_web M.f_check_web.kp M.b_check_web (ga_cons (gv 0) ga_nil)))
      (gss_one (gs_ret (ge_callTy cr_tuple cd_tuple (by rfl) M.z_tuple (by decide +kernel) (gab_cons (gb_e (ge_call (ok_ringless_list M) (hr.mono (by first | decide | omega)) (by rfl) M.m_ringless_list M.f_ringless_list.kp M.b_ringless_list (ga_cons (gv 0) ga_nil))) gab_nil))))), law_ringless⟩
theorem ok_ringed (M : Mo K mg g ad fd base P w) : FnOk P w K mg base CX0 5 (ad 21) (fd 21) ["web"] (spOf K g S_ringed) :=
  def_ok M.f_ringed sc_ringed S_ringed_len fun cdv A outer s H E hr => ⟨d_ringed,
    (gss_cons (gs_expr (ge_call (ok_check_web M) (hr.mono (by first | decide | omega)) (by rfl) M.m_check_web M.f_check_web.kp M.b_check_web (ga_cons (gv 0) ga_nil)))
      (gss_one (gs_ret (ge_callTy cr_tuple cd_tuple (by rfl) M.z_tuple (by decide +kernel) (gab_cons (gb_e (ge_n (gn_lc' rfl sc_ringed.nd (gi_srcB (gb_e (ge_call (ok_all_leanings M) (hr.mono (by first | decide | omega)) (by rfl) M.m_all_leanings M.f_all_leanings.kp M.b_all_leanings (ga_cons (gv 0) ga_nil)))) (blkOk_by (N := N_ringed) (sc := (defScope st_ringed)) (own := [("leaning", 1)]) (by decide +kernel)) (fun s H C cl fp => (gg_name (j := 1) sc_ringed.nd rfl (by first | exact .inl rfl | exact .inr rfl))) (fun s H C cl fp => (gts_one (gt_val (ge_call (ok_is_all_rings M) (hr.mono (by first | decide | omega)) (by rfl) M.m_is_all_rings M.f_is_all_rings.kp M.b_is_all_rings (ga_cons (gv 0) (ga_cons (gv 1) ga_nil)))))) (fun s H C cl fp => (gv 1))))) gab_nil))))), law_ringed⟩
theorem ok_with_front (M : Mo K mg g ad fd base P w) : FnOk P w K mg base CX0 5 (ad 22) (fd 22) ["web", "place"] (spOf K g S_with_front) :=
  def_ok M.f_with_front sc_with_front S_with_front_len fun cdv A outer s H E hr => ⟨d_with_front,
    (gss_cons (gs_expr (ge_call (ok_check_web M) (hr.mono (by first | decide | omega)) (by rfl) M.m_check_web M.f_check_web.kp M.b_check_web (ga_cons (gv 0) ga_nil)))
      (gss_cons (gs_expr (ge_call (ok_check_place M) (hr.mono (by first | decide | omega)) (by rfl) M.m_check_place M.f_check_place.kp M.b_check_place (ga_cons (gv 0) (ga_cons (gv 1) ga_nil))))
      (gss_one (gs_ret (ge_callTy cr_tuple cd_tuple (by rfl) M.z_tuple (by decide +kernel) (gab_cons (gb_e (ge_n (gn_lc' rfl sc_with_front.nd (gi_srcB (gb_e (ge_call (ok_ringless_list M) (hr.mono (by first | decide | omega)) (by rfl) M.m_ringless_list M.f_ringless_list.kp M.b_ringless_list (ga_cons (gv 0) ga_nil)))) (blkOk_by (N := N_with_front) (sc := (defScope st_with_front)) (own := [("leaning", 2)]) (by decide +kernel)) (fun s H C cl fp => (gg_name (j := 2) sc_with_front.nd rfl (by first | exact .inl rfl | exact .inr rfl))) (fun s H C cl fp => (gts_one (gt_cmp (or_eq hr.units) od_eq (gb_e (ge_call (ok_front_places M) (hr.mono (by first | decide | omega)) (by rfl) M.m_front_places M.f_front_places.kp M.b_front_places (ga_cons (gv 0) (ga_cons (gv 2) ga_nil)))) (gvb 1) rfl))) (fun s H C cl fp => (gv 2))))) gab_nil)))))), law_with_front⟩
theorem cask_fresh {c : Option Addr} {F H H' : Hp} {a : Addr} {m : Nat} (e : Ex F H) (ck : Ck g c m F H) (hc : c = some a) (k : ∀ b o, H b = some o → b ≠ a → H' b = some o) : Fresh c F H F H' := by
  obtain ⟨h1, _⟩ := ck a hc
  refine ⟨fun _ _ h => h, fun b o h => k b o (e b o h) (fun z => by subst z; rw [h1] at h; cases h), fun b o h n => .of (k b o h (fun z => n (by rw [z]; exact hc))), fun b o h => .inl h, fun b h => (ck b h).1⟩
theorem cask_ck {c : Option Addr} {F H H' : Hp} {a : Addr} {m m' : Nat} {xs : List V} (hg : g.ck = K24.ckOk) (ck : Ck g c m F H) (hc : c = some a) (k : ∀ b o, H b = some o → b ≠ a → H' b = some o) (h : H' a = some (.lst xs)) (hk : K24.ckOk m' xs) : Ck g c m' F H' := ⟨fun b z => by
  rw [hc] at z
  cases z
  exact ⟨(ck a hc).1, xs, h, by rw [hg]; exact hk⟩, ck.tb.keep fun b o hb z => k b o hb fun e => by
    subst e
    obtain ⟨_, ys, h0, _⟩ := ck b hc
    rw [h0] at hb
    cases hb
    rcases z with z | ⟨_, _, z⟩ <;> cases z⟩
theorem ok_law_take (M : Mo K mg g ad fd base P w) : FnOk P w K mg base CX0 1 (ad 24) (fd 24) ["_law_purse_here", "_law_many"] (spOf K g S_law_take) := by
  refine M.f_law_take.ok sc_law_take (fun vs H Q E h => ?_) (fun cdv A outer s H vs Q E hr h => ?_)
  · obtain ⟨c, F, as, m, Q', _, ar, _, hs, _⟩ := h
    rw [← ar.length]; exact S_law_take_len as m Q' hs
  · obtain ⟨c, F, as, m, Q', eF, ar, ck, ⟨n, hn0, hn1, hm, rfl, q⟩, kk⟩ := h
    obtain ⟨a, rfl, hc⟩ : ∃ a, vs = [.ref a, .int n] ∧ c = some a := by
      cases ar with
      | cons h1 t =>
        cases t with
        | cons h2 t =>
          cases t
          obtain ⟨a, e1, rfl⟩ := h1
          have h2' : Rep K g F (.int n) _ := h2
          cases h2'
          exact ⟨a, rfl, e1⟩
    obtain ⟨hFa, xs, hH, hck⟩ := ck a hc
    rw [M.ck] at hck
    obtain ⟨sd, f, l, rfl, hs0, hs1, hf0, hl0, hl1⟩ := hck
    refine ⟨_, pss_cons (ps_asg (pe_op op_add (pe_ix ix_list (pv 0) pe_int (fun _ _ => rfl)) pe_int) (pg_sub (pv 0) pe_int set_list))
      (pss_cons (ps_if (pt_cmpR op_gt (pe_ix ix_list (pv 0) pe_int (fun _ _ => rfl)) pe_int (nomark _))
        (pss_cons (ps_asg (pe_callB call_divmod (by rfl) M.z_divmod (by decide +kernel) (pa_cons (pe_ix ix_list (pv 0) pe_int (fun _ _ => rfl)) (pa_cons (pv 1) pa_nil))) (pg_tup rfl (pgs_cons (pg_sub (pv 0) pe_int set_list) (pgs_cons (pg_name (i := 2) sc_law_take.nd rfl (.inl rfl)) pgs_nil))))
          (pss_one (ps_ret (pv 2)))) pss_nil)
      (pss_cons (ps_par (i := 3) (j := 4) rfl sc_law_take.nd rfl rfl (by decide) rfl rfl (pa_cons (pe_callTy call_int1 (by rfl) M.z_int (by decide +kernel) (pa_cons (pe_ix ix_list (pv 0) pe_int (fun _ _ => rfl)) pa_nil)) (pa_cons (pe_ix ix_list (pv 0) pe_int (fun _ _ => rfl)) pa_nil)) rfl)
      (pss_cons (ps_set (i := 5) sc_law_take.nd rfl (.inl rfl) (pe_op op_add (pe_op op_mod (pe_callTy call_int1 (by rfl) M.z_int (by decide +kernel) (pa_cons (pe_op op_fdiv (pv 3) pe_int) pa_nil)) pe_int) pe_int))
      (pss_cons (ps_asg (pe_op op_mod (pe_callTy call_int1 (by rfl) M.z_int (by decide +kernel) (pa_cons (pe_op op_add (pe_op op_add (pe_op op_mul (pv 3) (pv 5)) (pe_op op_mul (pe_op op_mul pe_int (pv 4)) (pv 4))) pe_int) pa_nil)) pe_int) (pg_sub (pv 0) pe_int set_list))
      (pss_one (ps_ret (pe_op op_mod (pe_callTy call_int1 (by rfl) M.z_int (by decide +kernel) (pa_cons (pe_op op_fdiv (pe_ix ix_list (pv 0) pe_int (fun _ _ => rfl)) pe_int) pa_nil)) (pv 1)))))))), ?_⟩
    refine ⟨.ref a, rfl, a, _, 2, .int l, rfl, rfl, SqL.of hH, rfl, l, 1, rfl, rfl, .ref a, rfl, a, _, 2, 2, rfl, rfl, hH, rfl, ?_⟩
    have hH1 : upd H a (.lst [.int sd, .int f, .int (l + 1)]) a = some (.lst [.int sd, .int f, .int (l + 1)]) := upd_same
    show tSeq _ _ _ _ (upd H a (.lst [.int sd, .int f, .int (l + 1)]))
    refine ⟨.ref a, rfl, a, _, 1, .int f, rfl, rfl, SqL.of hH1, rfl, f, 0, rfl, rfl, _, rfl, ?_⟩
    by_cases hf : (0 : Int) < f
    · rw [decide_eq_true hf]
      refine ⟨.ref a, rfl, a, _, 1, .int f, rfl, rfl, SqL.of hH1, rfl, .int n, rfl, f, n, rfl, ⟨hn0, by omega⟩, fun t ht => ?_⟩
      have hat : a ≠ t := fun z => by subst z; rw [hH1] at ht; cases ht
      refine ⟨t, _, rfl, SqT.of upd_same, rfl, _, _, rfl, .ref a, rfl, a, _, 1, 1, rfl, rfl, by rw [upd_ne hat]; exact hH1, rfl, ?_⟩
      refine ⟨_, _, rfl, rfl, _, rfl, ?_⟩
      have hd0 : 0 ≤ f % n := Int.emod_nonneg f (by omega)
      have hd1 : f % n < n := Int.emod_lt_of_pos f hn0
      have e : f % n = ((f % n).toNat : Int) := by omega
      have kp : ∀ b o, H b = some o → b ≠ a → upd (upd (upd H a (.lst [.int sd, .int f, .int (l + 1)])) t (.tup [.int (f / n), .int (f % n)])) a (.lst [.int sd, .int (f / n), .int (l + 1)]) b = some o := fun b o hb nb => by
        have hbt : b ≠ t := fun z => by subst z; rw [upd_ne nb, hb] at ht; cases ht
        rw [upd_ne nb, upd_ne hbt, upd_ne nb]; exact hb
      refine kk _ _ F (m + 1) (.int ((f % n).toNat : Nat)) (cask_fresh eF ck hc kp) (cask_ck M.ck ck hc kp upd_same ⟨sd, f / n, l + 1, rfl, hs0, hs1, Int.ediv_nonneg hf0 (by omega), by omega, by omega⟩) ?_ (q _ (by omega))
      rw [← e]; exact .int _
    · rw [decide_eq_false hf]
      have hf' : f = 0 := by omega
      refine ⟨.ref a, rfl, a, _, 0, .int sd, rfl, rfl, SqL.of hH1, rfl, .inl ⟨sd, rfl, .ref a, rfl, a, _, 2, .int (l + 1), rfl, rfl, SqL.of hH1, rfl, _, _, rfl, ?_⟩⟩
      refine ⟨_, rfl, sd, 13, rfl, rfl, ⟨by decide, by decide⟩, .inl ⟨_, rfl, _, 39979, rfl, rfl, (show (0 : Int) < 39979 by decide), _, 30071, rfl, rfl, ?_⟩⟩
      have hsd : (-(2 ^ 64) < sd ∧ sd < 2 ^ 64) := by omega
      have hlp : (-(2 ^ 64) < l + 1 ∧ l + 1 < 2 ^ 64) := by omega
      refine ⟨_, rfl, _, rfl, sd, _, rfl, rfl, .inl hsd, _, rfl, 50021, l + 1, rfl, rfl, .inr hlp, _, rfl, _, l + 1, rfl, rfl, .inr hlp, _, _, rfl, rfl, _, 37, rfl, rfl, .inl ⟨_, rfl, _, 2147483399, rfl, rfl, (show (0 : Int) < 2147483399 by decide), .ref a, rfl, a, _, 0, 0, rfl, rfl, hH1, rfl, ?_⟩⟩
      generalize hz : (sd * (sd / 13 % 39979 + 30071) + 50021 * (l + 1) * (l + 1) + 37) % 2147483399 = z
      have hz0 : 0 ≤ z := by rw [← hz]; exact Int.emod_nonneg _ (by decide)
      have hz1 : z < 2147483399 := by rw [← hz]; exact Int.emod_lt_of_pos _ (by decide)
      refine ⟨.ref a, rfl, a, _, 0, .int z, rfl, rfl, SqL.of upd_same, ?_, z, 128, rfl, rfl, ⟨by decide, by decide⟩, .inl ⟨_, rfl, .int n, rfl, _, n, rfl, rfl, hn0, ?_⟩⟩
      · rw [← hz]; rfl
      have hd0 : 0 ≤ z / 128 % n := Int.emod_nonneg _ (by omega)
      have hd1 : z / 128 % n < n := Int.emod_lt_of_pos _ hn0
      have e : z / 128 % n = ((z / 128 % n).toNat : Int) := by omega
      refine kk _ _ F (m + 1) (.int ((z / 128 % n).toNat : Nat)) (cask_fresh eF ck hc fun b o hb nb => ?_) (cask_ck M.ck ck hc (fun b o hb nb => ?_) upd_same ⟨z, f, l + 1, by rw [← hz]; rfl, hz0, hz1, hf0, by omega, by omega⟩) ?_ (q _ (by omega))
      · rw [upd_ne nb, upd_ne nb]; exact hb
      · rw [upd_ne nb, upd_ne nb]; exact hb
      · rw [← e]; exact .int _
theorem ok_law_one (M : Mo K mg g ad fd base P w) : FnOk P w K mg base CX0 2 (ad 25) (fd 25) ["_law_purse_here", "_law_things"] (spOf K g S_law_one) :=
  def_ok M.f_law_one sc_law_one S_law_one_len fun cdv A outer s H E hr => ⟨d_law_one,
    (gss_one (gs_ret (ge_ix (gvb 1) (gb_e (ge_call (ok_law_take M) (hr.mono (by first | decide | omega)) (by rfl) M.m_law_take M.f_law_take.kp M.b_law_take (ga_cask 0 (ga_cons (ge_callB cr_len cd_len0 (by rfl) M.z_len (by decide +kernel) (gab_cons (gvb 1) gab_nil)) ga_nil))))))), law_law_one⟩
theorem ok_law_web (M : Mo K mg g ad fd base P w) : FnOk P w K mg base CX0 3 (ad 26) (fd 26) ["_law_purse_here", "_law_most_places", "_law_most_ties"] (spOf K g S_law_web) :=
  def_ok M.f_law_web sc_law_web S_law_web_len fun cdv A outer s H E hr => ⟨d_law_web,
    (gss_cons (gs_mix2 (i := 3) (j := 4) rfl sc_law_web.nd rfl rfl (by decide) rfl rfl (gmx_new (gnw_n (gn_callTy (cr_list rfl) cn_list (by rfl) M.z_list (by decide +kernel) (gab_cons (gb_e ge_str) gab_nil))) (gmx_new (gnw_n (gn_lst gal_nil)) gmx_nil)) rfl)
      (gss_cons (gs_for PassesOwn.never rfl (gi_range (by rfl) M.z_range (ge_op or_add od_add (gb_e ge_int) (gb_e (ge_call (ok_law_take M) (hr.mono (by first | decide | omega)) (by rfl) M.m_law_take M.f_law_take.kp M.b_law_take (ga_cask 0 (ga_cons (gv 1) ga_nil)))))) (gg_name (j := 5) sc_law_web.nd rfl (by first | exact .inl rfl | exact .inr rfl))
      (gss_one (gs_appendPop 4 3 (ge_call (ok_law_take M) (hr.mono (by first | decide | omega)) (by rfl) M.m_law_take M.f_law_take.kp M.b_law_take (ga_cask 0 (ga_cons (ge_callB cr_len cd_len0 (by rfl) M.z_len (by decide +kernel) (gab_cons (gvb 3) gab_nil)) ga_nil))))))
      (gss_cons (gs_mix2 (i := 6) (j := 7) rfl sc_law_web.nd rfl rfl (by decide) rfl rfl (gmx_val (ge_mtS PySem.F.slot_str_join PySem.F.type_str_join mt_join md_join (gb_e ge_str) (gab_cons (gb_e (ge_n (gn_callB (cr_sorted' rfl hr.units) cn_sorted (by rfl) M.z_sorted (by decide +kernel) (gab_cons (gvb 4) gab_nil)))) gab_nil)) (gmx_new (gnw_n (gn_lst gal_nil)) gmx_nil)) rfl)
      (gss_cons (gs_for PassesOwn.never rfl (gi_range (by rfl) M.z_range (ge_call (ok_law_take M) (hr.mono (by first | decide | omega)) (by rfl) M.m_law_take M.f_law_take.kp M.b_law_take (ga_cask 0 (ga_cons (ge_op or_add od_add (gvb 2) (gb_e ge_int)) ga_nil)))) (gg_name (j := 5) sc_law_web.nd rfl (by first | exact .inl rfl | exact .inr rfl))
      (gss_cons (gs_par (i := 8) (j := 9) rfl sc_law_web.nd rfl rfl (by decide) rfl rfl (gal_cons (ge_call (ok_law_one M) (hr.mono (by first | decide | omega)) (by rfl) M.m_law_one M.f_law_one.kp M.b_law_one (ga_cask 0 (ga_cons (gv 6) ga_nil))) (gal_cons (ge_call (ok_law_one M) (hr.mono (by first | decide | omega)) (by rfl) M.m_law_one M.f_law_one.kp M.b_law_one (ga_cask 0 (ga_cons (gv 6) ga_nil))) gal_nil)) rfl)
      (gss_cons (gs_set (i := 9) sc_law_web.nd rfl (by first | exact .inl rfl | exact .inr rfl) (ge_if (gw_pt (gw_and (gt_cmp (or_eq hr.units) od_eq (gvb 8) (gvb 9) rfl) (gw_and1 (gt_cmp or_gt od_gt (gb_e (ge_call (ok_law_take M) (hr.mono (by first | decide | omega)) (by rfl) M.m_law_take M.f_law_take.kp M.b_law_take (ga_cask 0 (ga_cons ge_int ga_nil)))) (gb_e ge_int) rfl)))) (ge_call (ok_law_one M) (hr.mono (by first | decide | omega)) (by rfl) M.m_law_one M.f_law_one.kp M.b_law_one (ga_cask 0 (ga_cons (gv 6) ga_nil))) (gv 9)))
      (gss_one (gs_append 7 (ge_op or_add od_add (gb_e (ge_callB (cr_min2 rfl) cd_min2 (by rfl) M.z_min (by decide +kernel) (gab_cons (gvb 8) (gab_cons (gvb 9) gab_nil)))) (gb_e (ge_callB (cr_max2 rfl) cd_max2 (by rfl) M.z_max (by decide +kernel) (gab_cons (gvb 8) (gab_cons (gvb 9) gab_nil))))))))))
      (gss_one (gs_ret (ge_tup (gal_cons (gv 6) (gal_cons (ge_callTy cr_tuple cd_tuple (by rfl) M.z_tuple (by decide +kernel) (gab_cons (gvb 7) gab_nil)) gal_nil))))))))), law_law_web⟩
theorem ok_law_ways (M : Mo K mg g ad fd base P w) : FnOk P w K mg base CX0 1 (ad 27) (fd 27) ["_law_ties_here", "_law_leaning_here"] (spOf K g S_law_ways) :=
  def_ok M.f_law_ways sc_law_ways S_law_ways_len fun cdv A outer s H E hr => ⟨d_law_ways,
    (gss_one (gs_ret (ge_n (gn_lc' rfl sc_law_ways.nd (gi_bor (gi_range (by rfl) M.z_range (ge_callB cr_len cd_len0 (by rfl) M.z_len (by decide +kernel) (gab_cons (gvb 0) gab_nil)))) (blkOk_by (N := N_law_ways) (sc := (defScope st_law_ways)) (own := [("_law_k", 2)]) (by decide +kernel)) (fun s H C cl fp => (gg_name (j := 2) sc_law_ways.nd rfl (by first | exact .inl rfl | exact .inr rfl))) (fun s H C cl fp => gts_nil) (fun s H C cl fp => (ge_if (gt_cmp (or_eq hr.units) od_eq (gb_e (ge_ix (gvb 1) (gvb 2))) (gb_e ge_str) rfl) (ge_ix (gvb 0) (gvb 2)) (ge_rev (ge_ix (gvb 0) (gvb 2))))))))), law_law_ways⟩
theorem ok_law_reach (M : Mo K mg g ad fd base P w) : FnOk P w K mg base CX0 1 (ad 28) (fd 28) ["_law_ways_here", "_law_start"] (spOf K g S_law_reach) :=
  def_ok M.f_law_reach sc_law_reach S_law_reach_len fun cdv A outer s H E hr => ⟨d_law_reach,
    (gss_cons (gs_setN (i := 2) sc_law_reach.nd rfl (by first | exact .inl rfl | exact .inr rfl) (gn_lst (gal_cons (gv 1) gal_nil)))
      (gss_cons (gs_for PassesOwn.never rfl (gi_src (gv 0)) (gg_name (j := 3) sc_law_reach.nd rfl (by first | exact .inl rfl | exact .inr rfl))
      (gss_one (gs_for PassesOwn.never rfl (gi_src (gv 0)) (gg_name (j := 4) sc_law_reach.nd rfl (by first | exact .inl rfl | exact .inr rfl))
      (gss_one (gs_if (gw_pt (gw_and (gt_cmp or_in od_in (gb_e (ge_ix (gvb 4) (gb_e ge_int))) (gvb 2) rfl) (gw_and1 (gt_cmp or_notin od_notin (gb_e (ge_ix (gvb 4) (gb_e ge_int))) (gvb 2) rfl)))) (gss_one (gs_append 2 (ge_ix (gvb 4) (gb_e ge_int)))) gss_nil)))))
      (gss_one (gs_retO 2)))), law_law_reach⟩
theorem ok_law_in_ring (M : Mo K mg g ad fd base P w) : FnOk P w K mg base CX0 2 (ad 29) (fd 29) ["_law_ways_here", "_law_k"] (spOf K g S_law_in_ring) :=
  def_ok M.f_law_in_ring sc_law_in_ring S_law_in_ring_len fun cdv A outer s H E hr => ⟨d_law_in_ring,
    (gss_one (gs_ret (ge_cmp or_in od_in (gb_e (ge_ix (gb_e (ge_ix (gvb 0) (gvb 1))) (gb_e ge_int))) (gb_e (ge_call (ok_law_reach M) (hr.mono (by first | decide | omega)) (by rfl) M.m_law_reach M.f_law_reach.kp M.b_law_reach (ga_cons (gv 0) (ga_cons (ge_ix (gb_e (ge_ix (gvb 0) (gvb 1))) (gb_e ge_int)) ga_nil)))) rfl))), law_law_in_ring⟩
theorem ok_law_leanings (M : Mo K mg g ad fd base P w) : FnOk P w K mg base CX0 1 (ad 30) (fd 30) ["_law_many"] (spOf K g S_law_leanings) :=
  def_ok M.f_law_leanings sc_law_leanings S_law_leanings_len fun cdv A outer s H E hr => ⟨d_law_leanings,
    (gss_cons (gs_set (i := 1) sc_law_leanings.nd rfl (by first | exact .inl rfl | exact .inr rfl) (ge_n (gn_lst (gal_cons ge_str gal_nil))))
      (gss_cons (gs_for PassesOwn.never rfl (gi_range (by rfl) M.z_range (gv 0)) (gg_name (j := 2) sc_law_leanings.nd rfl (by first | exact .inl rfl | exact .inr rfl))
      (gss_one (gs_set (i := 1) sc_law_leanings.nd rfl (by first | exact .inl rfl | exact .inr rfl) (ge_op or_add od_add (gb_e (ge_n (gn_lc' rfl sc_law_leanings.nd (gi_srcB (gvb 1)) (blkOk_by (N := N_law_leanings) (sc := (defScope st_law_leanings)) (own := [("_law_each", 3)]) (by decide +kernel)) (fun s H C cl fp => (gg_name (j := 3) sc_law_leanings.nd rfl (by first | exact .inl rfl | exact .inr rfl))) (fun s H C cl fp => gts_nil) (fun s H C cl fp => (ge_op or_add od_add (gvb 3) (gb_e ge_str)))))) (gb_e (ge_n (gn_lc' rfl sc_law_leanings.nd (gi_srcB (gvb 1)) (blkOk_by (N := N_law_leanings) (sc := (defScope st_law_leanings)) (own := [("_law_each", 3)]) (by decide +kernel)) (fun s H C cl fp => (gg_name (j := 3) sc_law_leanings.nd rfl (by first | exact .inl rfl | exact .inr rfl))) (fun s H C cl fp => gts_nil) (fun s H C cl fp => (ge_op or_add od_add (gvb 3) (gb_e ge_str))))))))))
      (gss_one (gs_ret (ge_n (gn_callB (cr_sorted' rfl hr.units) cn_sorted (by rfl) M.z_sorted (by decide +kernel) (gab_cons (gvb 1) gab_nil))))))), law_law_leanings⟩
theorem ok_law_joined (M : Mo K mg g ad fd base P w) : FnOk P w K mg base CX0 1 (ad 31) (fd 31) ["_law_places_here", "_law_ties_here"] (spOf K g S_law_joined) :=
  def_ok M.f_law_joined sc_law_joined S_law_joined_len fun cdv A outer s H E hr => ⟨d_law_joined,
    (gss_cons (gs_set (i := 2) sc_law_joined.nd rfl (by first | exact .inl rfl | exact .inr rfl) (ge_n (gn_callTy (cr_list rfl) cn_list (by rfl) M.z_list (by decide +kernel) (gab_cons (gvb 0) gab_nil))))
      (gss_cons (gs_for PassesOwn.never rfl (gi_src (gv 1)) (gg_name (j := 3) sc_law_joined.nd rfl (by first | exact .inl rfl | exact .inr rfl))
      (gss_cons (gs_set (i := 4) sc_law_joined.nd rfl (by first | exact .inl rfl | exact .inr rfl) (ge_n (gn_lc' rfl sc_law_joined.nd (gi_srcB (gvb 2)) (blkOk_by (N := N_law_joined) (sc := (defScope st_law_joined)) (own := [("_law_herd", 5)]) (by decide +kernel)) (fun s H C cl fp => (gg_name (j := 5) sc_law_joined.nd rfl (by first | exact .inl rfl | exact .inr rfl))) (fun s H C cl fp => (gts_one (gw_pt (gw_or (gt_cmp or_in od_in (gb_e (ge_ix (gvb 3) (gb_e ge_int))) (gvb 5) rfl) (gw_or1 (gt_cmp or_in od_in (gb_e (ge_ix (gvb 3) (gb_e ge_int))) (gvb 5) rfl)))))) (fun s H C cl fp => (gv 5)))))
      (gss_one (gs_set (i := 2) sc_law_joined.nd rfl (by first | exact .inl rfl | exact .inr rfl) (ge_op or_add od_add (gb_e (ge_n (gn_lc' rfl sc_law_joined.nd (gi_srcB (gvb 2)) (blkOk_by (N := N_law_joined) (sc := (defScope st_law_joined)) (own := [("_law_herd", 5)]) (by decide +kernel)) (fun s H C cl fp => (gg_name (j := 5) sc_law_joined.nd rfl (by first | exact .inl rfl | exact .inr rfl))) (fun s H C cl fp => (gts_one (gt_cmp or_notin od_notin (gvb 5) (gvb 4) rfl))) (fun s H C cl fp => (gv 5))))) (gb_e (ge_n (gn_lst (gal_cons (ge_mtS PySem.F.slot_str_join PySem.F.type_str_join mt_join md_join (gb_e ge_str) (gab_cons (gvb 4) gab_nil)) gal_nil)))))))))
      (gss_one (gs_ret (ge_callB cr_len cd_len0 (by rfl) M.z_len (by decide +kernel) (gab_cons (gvb 2) gab_nil)))))), law_law_joined⟩
theorem ok_law_counted (M : Mo K mg g ad fd base P w) : ∀ n, FnOk P w K mg base CX0 (n + 1) (ad 32) (fd 32) ["_law_places_here", "_law_ties_here", "_law_x", "_law_y"] (spOf K g (S_law_counted n))
  | 0 => fn_false S_law_counted_zero
  | n + 1 => def_ok M.f_law_counted sc_law_counted (S_law_counted_len (n + 1)) fun cdv A outer s H E hr => ⟨d_law_counted n,
    (gss_cons (gs_if (gt_cmp (or_eq hr.units) od_eq (gb_e (ge_callB cr_len cd_len0 (by rfl) M.z_len (by decide +kernel) (gab_cons (gvb 1) gab_nil))) (gb_e ge_int) rfl) (gss_one (gs_ret ge_int)) gss_nil)
      (gss_cons (gs_asg (ge_tup (gal_cons (ge_slice (gvb 1) go_none (go_some ge_negI)) (gal_cons (ge_ix (gvb 1) (gb_e ge_negI)) gal_nil))) (gg_tupK K rfl (ggs_cons (gg_name (j := 4) sc_law_counted.nd rfl (by first | exact .inl rfl | exact .inr rfl)) (ggs_cons (gg_name (j := 5) sc_law_counted.nd rfl (by first | exact .inl rfl | exact .inr rfl)) ggs_nil))))
      (gss_cons (gs_if (gt_cmp (or_eq hr.units) od_eq (gb_e (ge_ix (gvb 5) (gb_e ge_int))) (gb_e (ge_ix (gvb 5) (gb_e ge_int))) rfl) (gss_one (gs_ret (ge_op or_mul od_mul (gvb 3) (gb_e (ge_call (ok_law_counted M n) (hr.mono (by first | exact Nat.le_refl _ | decide | omega)) (by rfl) M.m_law_counted M.f_law_counted.kp M.b_law_counted (ga_cons (gv 0) (ga_cons (gv 4) (ga_cons (gv 2) (ga_cons (gv 3) ga_nil))))))))) gss_nil)
      (gss_cons (gs_set (i := 6) sc_law_counted.nd rfl (by first | exact .inl rfl | exact .inr rfl) (ge_replS0 5 (gv 0)))
      (gss_cons (gs_set (i := 7) sc_law_counted.nd rfl (by first | exact .inl rfl | exact .inr rfl) (ge_callTy cr_tuple cd_tuple (by rfl) M.z_tuple (by decide +kernel) (gab_cons (gb_e (ge_n (gn_lc' rfl sc_law_counted.nd (gi_srcB (gvb 4)) (blkOk_by (N := N_law_counted) (sc := (defScope st_law_counted)) (own := [("_law_each", 8)]) (by decide +kernel)) (fun s H C cl fp => (gg_name (j := 8) sc_law_counted.nd rfl (by first | exact .inl rfl | exact .inr rfl))) (fun s H C cl fp => gts_nil) (fun s H C cl fp => (ge_replSS 5 5 (gv 8)))))) gab_nil)))
      (gss_cons (gs_if (gt_cmp or_gt od_gt (gb_e (ge_call (ok_law_joined M) (hr.mono (by first | decide | omega)) (by rfl) M.m_law_joined M.f_law_joined.kp M.b_law_joined (ga_cons (gv 0) (ga_cons (gv 4) ga_nil)))) (gb_e (ge_call (ok_law_joined M) (hr.mono (by first | decide | omega)) (by rfl) M.m_law_joined M.f_law_joined.kp M.b_law_joined (ga_cons (gv 0) (ga_cons (gv 1) ga_nil)))) rfl) (gss_one (gs_ret (ge_op or_mul od_mul (gvb 2) (gb_e (ge_call (ok_law_counted M n) (hr.mono (by first | exact Nat.le_refl _ | decide | omega)) (by rfl) M.m_law_counted M.f_law_counted.kp M.b_law_counted (ga_cons (gv 6) (ga_cons (gv 7) (ga_cons (gv 2) (ga_cons (gv 3) ga_nil))))))))) gss_nil)
      (gss_one (gs_ret (ge_op or_add od_add (gb_e (ge_call (ok_law_counted M n) (hr.mono (by first | exact Nat.le_refl _ | decide | omega)) (by rfl) M.m_law_counted M.f_law_counted.kp M.b_law_counted (ga_cons (gv 0) (ga_cons (gv 4) (ga_cons (gv 2) (ga_cons (gv 3) ga_nil)))))) (gb_e (ge_call (ok_law_counted M n) (hr.mono (by first | exact Nat.le_refl _ | decide | omega)) (by rfl) M.m_law_counted M.f_law_counted.kp M.b_law_counted (ga_cons (gv 6) (ga_cons (gv 7) (ga_cons (gv 2) (ga_cons (gv 3) ga_nil))))))))))))))), law_law_counted n⟩
theorem ok_law_right (M : Mo K mg g ad fd base P w) : FnG P w K mg base 8 (ad 33) (fd 33) ["_law_purse_here"] (spOf K g S_law_right) :=
  def_okG M.f_law_right sc_law_right S_law_right_len fun cdv A outer s H E hr calm => ⟨d_law_right,
    (gss_cons (gs_asg (ge_call (ok_law_web M) (hr.mono (by first | decide | omega)) (by rfl) M.m_law_web M.f_law_web.kp M.b_law_web (ga_cask 0 (ga_cons ge_int (ga_cons ge_int ga_nil)))) (gg_tupK K rfl (ggs_cons (gg_name (j := 1) sc_law_right.nd rfl (by first | exact .inl rfl | exact .inr rfl)) (ggs_cons (gg_name (j := 2) sc_law_right.nd rfl (by first | exact .inl rfl | exact .inr rfl)) ggs_nil))))
      (gss_cons (gs_mixT4 (i := 3) (j := 4) (l := 5) (n := 6) rfl sc_law_right.nd rfl rfl rfl rfl (by first | exact .inl rfl | exact .inr rfl) (by first | exact .inl rfl | exact .inr rfl) (by first | exact .inl rfl | exact .inr rfl) (by first | exact .inl rfl | exact .inr rfl) (gmx_val (ge_make M (hr.mono (by decide)) (by rfl) (ga_cons (gv 1) (ga_cons (gv 2) ga_nil))) (gmx_new (gnw_n (gn_lst gal_nil)) (gmx_new (gnw_n (gn_lst gal_nil)) (gmx_new gnw_dic0 gmx_nil)))))
      (gss_cons (gs_for PassesOwn.never rfl (gi_src (ge_call (ok_law_leanings M) (hr.mono (by first | decide | omega)) (by rfl) M.m_law_leanings M.f_law_leanings.kp M.b_law_leanings (ga_cons (ge_callB cr_len cd_len0 (by rfl) M.z_len (by decide +kernel) (gab_cons (gvb 2) gab_nil)) ga_nil))) (gg_name (j := 7) sc_law_right.nd rfl (by first | exact .inl rfl | exact .inr rfl))
      (gss_cons (gs_set (i := 8) sc_law_right.nd rfl (by first | exact .inl rfl | exact .inr rfl) (ge_call (ok_law_ways M) (hr.mono (by first | decide | omega)) (by rfl) M.m_law_ways M.f_law_ways.kp M.b_law_ways (ga_cons (gv 2) (ga_cons (gv 7) ga_nil))))
      (gss_cons (gs_setLc' (i := 9) rfl sc_law_right.nd rfl rfl rfl (gi_bor (gi_range (by rfl) M.z_range (ge_callB cr_len cd_len0 (by rfl) M.z_len (by decide +kernel) (gab_cons (gvb 8) gab_nil)))) (blkOk_by (N := N_law_right) (sc := (defScope st_law_right)) (own := [("_law_k", 15)]) (by decide +kernel)) (fun s H C cl fp => (gg_name (j := 15) sc_law_right.nd rfl (by first | exact .inl rfl | exact .inr rfl))) (fun s H C cl fp => gts_nil) (fun s H C cl fp => (ge_call (ok_law_in_ring M) (hr.mono (by first | decide | omega)) (by rfl) M.m_law_in_ring M.f_law_in_ring.kp M.b_law_in_ring (ga_cons (gv 8) (ga_cons (gv 15) ga_nil)))))
      (gss_cons (gs_set (i := 10) sc_law_right.nd rfl (by first | exact .inl rfl | exact .inr rfl) (ge_n (gn_lc' rfl sc_law_right.nd (gi_srcB (gvb 8)) (blkOk_by (N := N_law_right) (sc := (defScope st_law_right)) (own := [("_law_way", 16)]) (by decide +kernel)) (fun s H C cl fp => (gg_name (j := 16) sc_law_right.nd rfl (by first | exact .inl rfl | exact .inr rfl))) (fun s H C cl fp => gts_nil) (fun s H C cl fp => (ge_ix (gvb 16) (gb_e ge_int))))))
      (gss_cons (gs_set (i := 12) sc_law_right.nd rfl (by first | exact .inl rfl | exact .inr rfl) (ge_mtS PySem.F.slot_str_join PySem.F.type_str_join mt_join md_join (gb_e ge_str) (gab_cons (gb_e (ge_n (gn_lc' rfl sc_law_right.nd (gi_srcB (gvb 1)) (blkOk_by (N := N_law_right) (sc := (defScope st_law_right)) (own := [("_law_spot", 11)]) (by decide +kernel)) (fun s H C cl fp => (gg_name (j := 11) sc_law_right.nd rfl (by first | exact .inl rfl | exact .inr rfl))) (fun s H C cl fp => (gts_one (gt_cmp or_notin od_notin (gvb 11) (gvb 10) rfl))) (fun s H C cl fp => (gv 11))))) gab_nil)))
      (gss_cons (gs_if (gt_cmp or_notin od_notin (gb_e ge_bl) (gvb 9) rfl) (gss_cons (gs_append 4 (gv 7))
      (gss_one (gs_setD hr.units 6 (ge_op or_add od_add (gb_e (ge_getK hr.units (gvb 6) (gv 12) (ge_tup gal_nil) ⟨rfl, rfl, rfl, rfl⟩)) (gb_e (ge_tup (gal_cons (gv 7) gal_nil)))) (gv 12)))) gss_nil)
      (gss_one (gs_if (gt_cmp or_notin od_notin (gb_e ge_bl) (gvb 9) rfl) (gss_one (gs_append 5 (gv 7))) gss_nil))))))))
      (gss_cons (gs_if (gt_cmp (or_ne hr.units) od_ne (gb_e (ge_n (gn_lst (gal_cons (ge_call (ok_ringless M) (hr.mono (by first | decide | omega)) (by rfl) M.m_ringless M.f_ringless.kp M.b_ringless (ga_cons (gv 3) ga_nil)) (gal_cons (ge_callK (ok_ringless M) (hr.mono (by decide)) (by rfl) M.m_ringless M.f_ringless.kp M.kw_ringless_0 pm0_rel rfl (gk_cons (gv 3) (mono_var _) gk_nil) rfl) gal_nil))))) (gb_e (ge_n (gn_repL (ge_n (gn_lst (gal_cons (ge_callTy cr_tuple cd_tuple (by rfl) M.z_tuple (by decide +kernel) (gab_cons (gvb 4) gab_nil)) gal_nil))) ge_int))) rfl) (gss_one (gs_ret ge_bl)) gss_nil)
      (gss_cons (gs_if (gt_cmp (or_ne hr.units) od_ne (gb_e (ge_n (gn_lst (gal_cons (ge_call (ok_ringed M) (hr.mono (by first | decide | omega)) (by rfl) M.m_ringed M.f_ringed.kp M.b_ringed (ga_cons (gv 3) ga_nil)) (gal_cons (ge_callK (ok_ringed M) (hr.mono (by decide)) (by rfl) M.m_ringed M.f_ringed.kp M.kw_ringed_0 pm0_rel rfl (gk_cons (gv 3) (mono_var _) gk_nil) rfl) gal_nil))))) (gb_e (ge_n (gn_repL (ge_n (gn_lst (gal_cons (ge_callTy cr_tuple cd_tuple (by rfl) M.z_tuple (by decide +kernel) (gab_cons (gvb 5) gab_nil)) gal_nil))) ge_int))) rfl) (gss_one (gs_ret ge_bl)) gss_nil)
      (gss_cons (gs_if (gt_cmp (or_ne hr.units) od_ne (gb_e (ge_callB cr_len cd_len0 (by rfl) M.z_len (by decide +kernel) (gab_cons (gvb 4) gab_nil))) (gb_e (ge_call (ok_law_counted M 6) (hr.mono (by first | exact Nat.le_refl _ | decide | omega)) (by rfl) M.m_law_counted M.f_law_counted.kp M.b_law_counted (ga_cons (gv 1) (ga_cons (gv 2) (ga_cons ge_int (ga_cons ge_int ga_nil)))))) rfl) (gss_one (gs_ret ge_bl)) gss_nil)
      (gss_cons (gs_if (gt_cmp (or_ne hr.units) od_ne (gb_e (ge_callB cr_len cd_len0 (by rfl) M.z_len (by decide +kernel) (gab_cons (gvb 5) gab_nil))) (gb_e (ge_call (ok_law_counted M 6) (hr.mono (by first | exact Nat.le_refl _ | decide | omega)) (by rfl) M.m_law_counted M.f_law_counted.kp M.b_law_counted (ga_cons (gv 1) (ga_cons (gv 2) (ga_cons ge_int (ga_cons ge_int ga_nil)))))) rfl) (gss_one (gs_ret ge_bl)) gss_nil)
      (gss_cons (gs_set (i := 13) sc_law_right.nd rfl (by first | exact .inl rfl | exact .inr rfl) (ge_cmp (or_eq hr.units) od_eq (gb_e (ge_call (ok_law_joined M) (hr.mono (by first | decide | omega)) (by rfl) M.m_law_joined M.f_law_joined.kp M.b_law_joined (ga_cons (gv 1) (ga_cons (gv 2) ga_nil)))) (gb_e ge_int) rfl))
      (gss_cons (gs_for PassesOwn.never rfl (gi_src (gv 1)) (gg_name (j := 11) sc_law_right.nd rfl (by first | exact .inl rfl | exact .inr rfl))
      (gss_cons (gs_set (i := 14) sc_law_right.nd rfl (by first | exact .inl rfl | exact .inr rfl) (ge_call (ok_with_front M) (hr.mono (by first | decide | omega)) (by rfl) M.m_with_front M.f_with_front.kp M.b_with_front (ga_cons (gv 3) (ga_cons (gv 11) ga_nil))))
      (gss_cons (gs_if (gw_pt (gw_or (gt_cmp (or_ne hr.units) od_ne (gvb 14) (gb_e (ge_getK hr.units (gvb 6) (gv 11) (ge_tup gal_nil) ⟨rfl, rfl, rfl, rfl⟩)) rfl) (gw_or1 (gt_cmp (or_ne hr.units) od_ne (gb_e (ge_callK (ok_with_front M) (hr.mono (by decide)) (by rfl) M.m_with_front M.f_with_front.kp M.kw_with_front_10 pm10_rel rfl (gk_cons (gv 11) (mono_var _) (gk_cons (gv 3) (mono_var _) gk_nil)) rfl)) (gvb 14) rfl)))) (gss_one (gs_ret ge_bl)) gss_nil)
      (gss_one (gs_if (gw_pt (gw_and (gt_val (gv 13)) (gw_and1 (gt_cmp (or_ne hr.units) od_ne (gb_e (ge_callB cr_len cd_len0 (by rfl) M.z_len (by decide +kernel) (gab_cons (gvb 14) gab_nil))) (gb_e (ge_call (ok_law_counted M 6) (hr.mono (by first | exact Nat.le_refl _ | decide | omega)) (by rfl) M.m_law_counted M.f_law_counted.kp M.b_law_counted (ga_cons (gv 1) (ga_cons (gv 2) (ga_cons ge_int (ga_cons ge_int ga_nil)))))) rfl)))) (gss_one (gs_ret ge_bl)) gss_nil)))))
      (gss_one (gs_ret ge_bl))))))))))), law_law_right⟩
end K19
namespace K19
open PySem L2 G
open T hiding ckOk empty_is len11 mem_out out_len out_nd plS_inj
open SH hiding repl1 repl_pl str_ext
open K24 hiding S_law_right S_law_right_len d_law_right n_law_right pm10
open K18 hiding S_law_web S_law_web_len d_law_web law_law_web n_law_web
variable {P : Program} {w : World} {K : PySem.W.Frag} {mg : Str → Option Value} {base : Heap} {g : Gp} {ad : Nat → Addr} {fd : Nat → FuncData}
def spPurse (K : PySem.W.Frag) : Sp := fun vs H Q _ => ∃ (a : Addr) (ns : List Int) (k : Nat), vs = [.ref a, .int (k : Nat)] ∧ SqL K H a (ns.map V.int) ∧ k < 1000 ∧ ns.length ≤ 63 ∧
  ∀ p H' (s f : Int), Ex H H' → H p = none → H' p = some (.lst [.int s, .int f, .int 0]) → 0 ≤ s → s < 2147483399 → 0 ≤ f → Q (.ref p) H'
theorem ok_purse (M : Mo K mg g ad fd base P w) : FnOk P w K mg base CX0 1 (ad 23) (fd 23) ["_law_script", "_law_k"] (spPurse K) := by
  refine M.f_law_purse.ok sc_law_purse (fun vs H Q E h => ?_) (fun cdv A outer s H vs Q E hr h => ?_)
  · obtain ⟨a, ns, k, rfl, _⟩ := h
    rfl
  · obtain ⟨a, ns, k, rfl, hS, hk, hlen, q⟩ := h
    obtain ⟨t3, p3, fin'⟩ : ∃ t, PSs (cxOf CX0 P w K mg base N_law_purse "_law_purse" (defScope st_law_purse) (ad 23) cdv A outer s H E).nox ((defBody st_law_purse).drop 2) t ∧ ∀ (H1 : Hp) (cell : Int) (y3 : Option V), Ex H H1 → t { nx := fun _ H' => Q .non H', rt := Q } [some (.ref a), some (.int (k : Nat)), some (.int cell), y3, none] H1 := by
      refine ⟨_, pss_cons (ps_set (i := 4) sc_law_purse.nd rfl (.inl rfl) (pe_ifExp (PW.pt (pw_or (pt_cmpR op_lt (pv 2) pe_int (nomark _)) (pw_or1 (pt_cmpR op_ge (pv 2) (pe_op op_pow pe_int pe_int) (nomark _))))) (pe_callB call_abs (by rfl) M.z_abs (by decide +kernel) (pa_cons (pv 2) pa_nil)) pe_int))
        (pss_one (ps_ret (pe_lst (pa_cons (pe_op op_mod (pe_callTy call_int1 (by rfl) M.z_int (by decide +kernel) (pa_cons (pv 2) pa_nil)) pe_int) (pa_cons (pv 4) (pa_cons pe_int pa_nil)))))), fun H1 cell y3 e1 => ?_⟩
      have ret : ∀ f : Int, 0 ≤ f → tRet (tLst (tCons (tOp (rI (fun _ j => 0 < j) fun i j => .int (i % j)) (tCB (fun xs H Q => (∃ i, xs = [.int i] ∧ Q (.int i) H) ∨ ∃ k, xs = [.bl k] ∧ Q (.int (if k then 1 else 0)) H) (tCons (tVar 2) tNil)) (tC (.int 2147483399))) (tCons (tVar 4) (tCons (tC (.int 0)) tNil)))) { nx := fun _ H' => Q .non H', rt := Q } [some (.ref a), some (.int (k : Nat)), some (.int cell), y3, some (.int f)] H1 := by
        intro f hf
        refine ⟨_, rfl, .inl ⟨cell, rfl, cell, 2147483399, rfl, rfl, (show (0 : Int) < 2147483399 by decide), _, rfl, (ll (show 3 ≤ LL by decide)), fun p hp => ?_⟩⟩
        have hp0 : H p = none := ex_none e1 hp
        exact q p _ _ f (e1.trans (Evl.Ex.new hp)) hp0 upd_same (Int.emod_nonneg _ (by decide)) (Int.emod_lt_of_pos _ (by decide)) hf
      refine ⟨_, rfl, cell, 0, rfl, rfl, _, rfl, ?_⟩
      by_cases h1 : cell < 0
      · rw [decide_eq_true h1]
        refine ⟨_, rfl, cell, rfl, ?_⟩
        rw [if_pos h1]
        exact ret _ (by omega)
      · rw [decide_eq_false h1]
        refine ⟨_, rfl, 10, 18, rfl, rfl, ⟨by decide, by decide, by decide⟩, cell, _, rfl, rfl, _, rfl, ?_⟩
        by_cases h2 : ((10 : Int) ^ (18 : Int).toNat) ≤ cell
        · rw [decide_eq_true h2]
          refine ⟨_, rfl, cell, rfl, ?_⟩
          rw [if_neg h1]
          exact ret _ (by omega)
        · rw [decide_eq_false h2]
          exact ret _ (by omega)
    obtain ⟨t2, p2, two⟩ : ∃ t, PSs (cxOf CX0 P w K mg base N_law_purse "_law_purse" (defScope st_law_purse) (ad 23) cdv A outer s H E).nox ((defBody st_law_purse).drop 1) t ∧ ∀ (cell : Int), t { nx := fun _ H' => Q .non H', rt := Q } [some (.ref a), some (.int (k : Nat)), some (.int cell), none, none] H := by
      refine ⟨_, pss_cons (ps_if (pt_cmpR op_ge (pv 1) (pe_callB call_len_seq (by rfl) M.z_len PySem.boot_len (pa_cons (pv 0) pa_nil)) (nomark _))
        (pss_one (ps_for PassesOwn.never rfl (pi_list (pe_slice sl_list (pv 0) po_none (po_some pe_int))) (pg_name (i := 3) sc_law_purse.nd rfl (.inl rfl))
          (pss_one (ps_set (i := 2) sc_law_purse.nd rfl (.inl rfl) (pe_op op_mod (pe_callTy call_int1 (by rfl) M.z_int (by decide +kernel) (pa_cons (pe_op op_add (pe_op op_mul (pv 2) pe_int) (pe_op op_mul (pv 3) (pe_op op_add (pv 1) pe_int))) pa_nil)) pe_int))))) pss_nil) p3, fun cell => ?_⟩
      refine ⟨_, rfl, _, rfl, a, ns.map V.int, rfl, .inl hS, (k : Nat), _, rfl, rfl, _, rfl, ?_⟩
      by_cases hge : (((ns.map V.int).length : Nat) : Int) ≤ (k : Nat)
      · rw [decide_eq_true hge]
        refine ⟨_, rfl, 4, rfl, a, ns.map V.int, rfl, hS, fun p hp => ?_⟩
        have e1 : Ex H (upd H p (.lst (cutV (ns.map V.int) none (some 4)))) := Evl.Ex.new hp
        have hP : SqL K (upd H p (.lst (cutV (ns.map V.int) none (some 4)))) p (cutV (ns.map V.int) none (some 4)) := SqL.of upd_same
        obtain ⟨ms, hms⟩ : ∃ ms : List Int, cutV (ns.map V.int) none (some 4) = ms.map V.int := ⟨(ns.drop (HT.sIx (ns.map V.int).length 0 none)).take (HT.sIx (ns.map V.int).length (ns.map V.int).length (some 4) - HT.sIx (ns.map V.int).length 0 none), by
          unfold cutV; rw [← List.map_drop, ← List.map_take]⟩
        rw [hms] at hP e1 ⊢
        generalize upd H p (.lst (ms.map V.int)) = H1 at *
        refine ⟨p, rfl, ⟨_, hP⟩, fun i m σ H3 => ∃ (cell : Int) (y3 : Option V), σ = [some (.ref a), some (.int (k : Nat)), some (.int cell), y3, none] ∧ i + m = ms.length ∧ H3 = H1, ⟨ms.length, cell, none, rfl, by omega, rfl⟩, fun i m σ H3 hW => ?_⟩
        obtain ⟨cell2, y3, rfl, em, rfl⟩ := hW
        by_cases hi : i < ms.length
        · have gi : (ms.map V.int)[i]? = some (.int ms[i]) := by rw [List.getElem?_map, List.getElem?_eq_getElem hi]; rfl
          refine .inr ⟨⟨_, _, hP, gi⟩, fun σ' H' => ∃ (cell : Int) (y3 : Option V), σ' = [some (.ref a), some (.int (k : Nat)), some (.int cell), y3, none] ∧ H' = H3, fun σ' H' hN => ?_, fun v H' hy => ?_⟩
          · obtain ⟨c3, z3, e1, e2⟩ := hN
            exact ⟨m - 1, by omega, c3, z3, e1, by omega, e2⟩
          · obtain ⟨rfl, fv⟩ := hy
            have ev : v = .int ms[i] := Option.some.inj ((fv _ hP).symm.trans gi)
            subst ev
            refine ⟨_, rfl, cell2, 49999, rfl, rfl, .inr ⟨by decide, by decide⟩, _, rfl, _, rfl, (k : Nat), 7, rfl, rfl, ms[i], _, rfl, rfl, .inr ⟨by omega, by omega⟩, _, _, rfl, rfl, .inl ⟨_, rfl, _, 2147483423, rfl, rfl, (show (0 : Int) < 2147483423 by decide), _, _, rfl, rfl⟩⟩
        · refine .inl ⟨⟨_, hP, ?_⟩, fin' H3 cell2 y3 e1⟩
          rw [List.length_map]; omega
      · rw [decide_eq_false hge]
        exact fin' H cell none (fun _ _ h => h)
    refine ⟨_, pss_cons (ps_set (i := 2) sc_law_purse.nd rfl (.inl rfl) (pe_ifExp (pt_cmpR op_lt (pv 1) (pe_callB call_len_seq (by rfl) M.z_len PySem.boot_len (pa_cons (pv 0) pa_nil)) (nomark _)) (pe_ix ix_list (pv 0) (pv 1) (fun _ _ => rfl)) (pe_op op_add (pe_op op_mul pe_int (pv 1)) pe_int))) p2, ?_⟩
    refine ⟨_, rfl, _, rfl, a, ns.map V.int, rfl, .inl hS, (k : Nat), _, rfl, rfl, _, rfl, ?_⟩
    by_cases hlt : ((k : Nat) : Int) < ((ns.map V.int).length : Nat)
    · rw [decide_eq_true hlt]
      rw [List.length_map] at hlt
      have hk' : k < ns.length := by omega
      exact ⟨_, rfl, _, rfl, a, ns.map V.int, (k : Nat), .int ns[k], rfl, rfl, hS, atI_nat (by rw [List.getElem?_map, List.getElem?_eq_getElem hk']; rfl), two ns[k]⟩
    · rw [decide_eq_false hlt]
      exact ⟨_, rfl, 5003, (k : Nat), rfl, rfl, .inl ⟨by decide, by decide⟩, _, 71, rfl, rfl, two _⟩
def dLenScr (i : Nat) : DE := fun env m Q => ∃ ns, env[i]? = some (.scr ns) ∧ Q (.int (ns.length : Nat)) m
theorem ge_lenScr {X : Cx} (i : Nat) {x : Str} {p p2 pos : Pos} (hg : Gl X "len") (hm : X.mg "len" = none) (hN : X.N[i]? = some x := by rfl) (hv : Vis X.env.scope x := by first | exact Or.inl rfl | exact Or.inr (Or.inl rfl) | exact Or.inr (Or.inr rfl)) (hd : (x == ("__debug__" : Str)) = false := by decide)
    (hcd : (x == ("__classdict__" : Str)) = false := by decide) (hs : starEach [.Name x p2] X.env = (false, eval (.Name x p2) X.env) :: starEach [] X.env := by rfl) : GE g X (.Call (.Name "len" p) [.Name x p2] [] pos) (dLenScr i) :=
  PE.weak (pe_callB call_len_seq hg hm PySem.boot_len (pa_cons (pe_var hN hv hd hcd) pa_nil hs) (by decide) (by decide) hs rfl) fun σ H Q ⟨c, F, env, m, Q1, r, ⟨ns, hns, q⟩, kk⟩ => by
    obtain ⟨a, e, h⟩ := r.slot i _ hns
    refine ⟨_, e, a, ns.map V.int, rfl, .inl (Evl.ex_l r.sub h), ?_⟩
    rw [List.length_map]
    exact kk _ H F m _ r (Fresh.refl r.sub r.ck) (.int _) q
def dRight (i j : Nat) : DE := fun env m Q => ∃ ns k, env[i]? = some (.scr ns) ∧ env[j]? = some (.val (natD k)) ∧ ns.length ≤ 63 ∧ k < 1000 ∧ Q (.bl true) m
theorem ge_right {X : Cx} (M : Mo X.K X.mg g ad fd X.base X.prog X.w) (i j : Nat) {x y : Str} {p p2 p3 p4 pos pos2 : Pos} (hr : Room 8 X.A) (calm : Calm X.A) (hg1 : Gl X "_law_right") (hg2 : Gl X "_law_purse") (hN : X.N[i]? = some x := by rfl) (hv : Vis X.env.scope x := by first | exact Or.inl rfl | exact Or.inr (Or.inl rfl) | exact Or.inr (Or.inr rfl)) (hd : (x == ("__debug__" : Str)) = false := by decide)
    (hcd : (x == ("__classdict__" : Str)) = false := by decide) (hN2 : X.N[j]? = some y := by rfl) (hv2 : Vis X.env.scope y := by first | exact Or.inl rfl | exact Or.inr (Or.inl rfl) | exact Or.inr (Or.inr rfl)) (hd2 : (y == ("__debug__" : Str)) = false := by decide) (hcd2 : (y == ("__classdict__" : Str)) = false := by decide)
    (hs1 : starEach [.Name x p3, .Name y p4] X.env = (false, eval (.Name x p3) X.env) :: starEach [.Name y p4] X.env := by rfl) (hs2 : starEach [.Name y p4] X.env = (false, eval (.Name y p4) X.env) :: starEach [] X.env := by rfl)
    (hs3 : starEach [.Call (.Name "_law_purse" p2) [.Name x p3, .Name y p4] [] pos2] X.env = (false, eval (.Call (.Name "_law_purse" p2) [.Name x p3, .Name y p4] [] pos2) X.env) :: starEach [] X.env := by rfl) :
    GE g X (.Call (.Name "_law_right" p) [.Call (.Name "_law_purse" p2) [.Name x p3, .Name y p4] [] pos2] [] pos) (dRight i j) :=
  PE.weak (pe_callG (ok_law_right M) hr calm hg1 M.m_law_right M.f_law_right.kp M.b_law_right (pa_cons (pe_call (ok_purse M) (hr.mono (by decide)) hg2 M.m_law_purse M.f_law_purse.kp M.b_law_purse .nil pass0 (pa_cons (pe_var hN hv hd hcd) (pa_cons (pe_var hN2 hv2 hd2 hcd2) pa_nil hs2) hs1) (by decide) hs1 (by rw [hs2]; rfl)) pa_nil hs3) (by decide) hs3 rfl) fun σ H Q ⟨c, F, env, m, Q1, r, ⟨ns, k, h1, h2, hlen, hk, q⟩, kk⟩ => by
    obtain ⟨a, e1, hS⟩ := r.slot i _ h1
    obtain ⟨v, e2, rv⟩ := r.slot j _ h2
    have rv' : Rep X.K g F (.int (k : Nat)) v := rv
    cases rv'
    refine ⟨_, e1, _, e2, a, ns, k, rfl, Evl.ex_l r.sub hS, hk, hlen, fun pp H1 s f ex hp hH1 hs0 hs1 hf => ?_⟩
    have hF : F pp = none := ex_none r.sub hp
    refine ⟨some pp, F, [.cask], 0, fun d _ => d = .bl true, r.sub.trans ex, .cons ⟨pp, rfl, rfl⟩ .nil, ⟨fun b z => ?_, r.ck.tb.keep fun b o z _ => ex b o z⟩, ⟨by decide, rfl, fun _ => rfl⟩, fun v2 H2 F2 m2 x2 fr ckx rp ex2 => ?_⟩
    · cases z
      exact ⟨hF, _, hH1, by rw [M.ck]; exact ⟨s, f, 0, rfl, hs0, hs1, hf, by decide, by decide⟩⟩
    · subst ex2
      have ne : ∀ {b : Addr} {o : HO}, H b = some o → (some pp : Option Addr) ≠ some b := fun hb z => by cases z; rw [hp] at hb; cases hb
      have fresh : Fresh c F H F2 H2 := by
        refine ⟨fr.ff, fr.fh, fun b o hb _ => fr.hk b o (ex b o hb) (ne hb), fun b o hb => ?_, fun b z => ?_⟩
        · rcases fr.new b o hb with u | u
          · exact .inl u
          · exact .inr (ex_none ex u)
        · obtain ⟨u1, ys, u2, _⟩ := r.ck b z
          cases w2 : F2 b with
          | none => rfl
          | some o =>
            rcases fr.new b o w2 with u | u
            · rw [u1] at u; cases u
            · rw [ex b _ u2] at u; cases u
      have ck2 : Ck g c m F2 H2 := ⟨fun b z => by
        obtain ⟨u1, ys, u2, u3⟩ := r.ck b z
        exact ⟨fresh.nc b z, ys, fr.hh b _ (ex b _ u2) (ne u2), u3⟩, ckx.tb⟩
      exact kk v2 H2 F2 m _ (r.fresh fresh ck2) fresh rp q
def d_law : DS := dRet (dCallB allD (dConsL (dNew (dLc (dIRng (dCallB maxD2 (dConsL (dC (.int 2)) (dConsL (dCallB minD2 (dConsL (dLenScr 0) (dConsL (dC (.int 3)) dNilL))) dNilL)))) (tgN 1) dYes (dRight 0 1) [1])) dNilL))
def S_law : G.Spec := fun as m Q => ∃ ns, ns.length ≤ 63 ∧ as = [.scr ns] ∧ ∀ m', Q (.bl true) m'
theorem S_law_len : ∀ as m Q, S_law as m Q → as.length = 1 := by rintro as m Q ⟨_, _, rfl, _⟩; rfl
theorem law_law : ∀ as m Q, S_law as m Q → d_law (pad N_law as) m (fin Q) := by
  rintro as m Q ⟨ns, hlen, rfl, q⟩
  refine ⟨_, rfl, _, rfl, _, rfl, ?_⟩
  obtain ⟨n, hn, e⟩ : ∃ n : Nat, n ≤ 4 ∧ (if (if (3 : Int) < (ns.length : Nat) then (3 : Int) else (ns.length : Nat)) > 2 then (if (3 : Int) < (ns.length : Nat) then (3 : Int) else (ns.length : Nat)) else 2) = (n : Nat) := by
    refine ⟨(if (if (3 : Int) < (ns.length : Nat) then (3 : Int) else (ns.length : Nat)) > 2 then (if (3 : Int) < (ns.length : Nat) then (3 : Int) else (ns.length : Nat)) else 2).toNat, ?_, ?_⟩ <;> (repeat' split) <;> omega
  rw [e]
  refine ⟨(n : Nat), rfl, by omega, by omega, ?_⟩
  rw [natD_map]
  refine ⟨by rw [List.length_map, List.length_range]; have := llv; omega, ?_⟩
  refine lcR_m natD (fun _ => .bl true) (List.range n) m _ (fun i hi => ?_) ⟨_, all_true _, q m⟩
  have := List.mem_range.mp hi
  exact ⟨_, rfl, fun m Q q => ⟨ns, i, rfl, rfl, hlen, by omega, q⟩⟩
theorem ok_law (M : Mo K mg g ad fd base P w) : FnG P w K mg base 9 (ad 34) (fd 34) ["_law_script"] (spOf K g S_law) :=
  def_okG M.f_law sc_law S_law_len fun cdv A outer s H E hr calm => ⟨d_law,
    (gss_one (gs_ret (ge_callB (cr_all rfl) cd_all (by rfl) M.z_all (by decide +kernel) (gab_cons (gb_e (ge_n (gn_lc' rfl sc_law.nd (gi_bor (gi_range (by rfl) M.z_range (ge_callB (cr_max2 rfl) cd_max2 (by rfl) M.z_max (by decide +kernel) (gab_cons (gb_e ge_int) (gab_cons (gb_e (ge_callB (cr_min2 rfl) cd_min2 (by rfl) M.z_min (by decide +kernel) (gab_cons (gb_e (ge_lenScr 0 (by rfl) M.z_len)) (gab_cons (gb_e ge_int) gab_nil)))) gab_nil))))) (blkOk_by (N := N_law) (sc := defScope st_law) (own := [("_law_k", 1)]) (by decide +kernel)) (fun s H C cl fp => gg_name (j := 1) sc_law.nd rfl (.inl rfl)) (fun s H C cl fp => gts_nil) (fun s H C cl fp => ge_right M 0 1 hr calm (by rfl) (by rfl))))) gab_nil)))), law_law⟩
end K19
namespace K19
open PySem L2 G
open T hiding ckOk empty_is len11 mem_out out_len out_nd plS_inj
open SH hiding repl1 repl_pl str_ext
open K24 hiding S_law_right S_law_right_len d_law_right n_law_right pm10
open K18 hiding S_law_web S_law_web_len d_law_web law_law_web n_law_web
def spLaw (K : PySem.W.Frag) (cs : List (Addr × Addr)) : Sp := fun vs H Q _ => ∃ (a : Addr) (ns : List Int), vs = [.ref a] ∧ (∀ p ∈ cs, H p.2 = some (.tbl #[])) ∧ SqL K H a (ns.map V.int) ∧ ns.length ≤ 63 ∧ ∀ H', Q (.bl true) H'
theorem all_mk {P : Program} {w : World} {K : PySem.W.Frag} {h : Heap} {mg : Str → Option Value} {fa C f0 f1 f2 f3 f4 f5 f6 f7 f8 f9 f10 f11 f12 f13 f14 f15 f16 f17 f18 f19 f20 f21 f22 f23 f24 f25 f26 f27 f28 f29 f30 f31 f32 f33 f34 : Addr} (X : K.In h) (G : h.Ns mainGlobals mg) (hfa : mg "law" = some (.ref fa))
    {od0 an0 : Option Addr} {sl0 : Array (Option Value)} {oc0 kV0 dc0 pm0 cd0 ct0 : Value}
    {od1 an1 : Option Addr} {sl1 : Array (Option Value)} {oc1 kV1 dc1 pm1 cd1 ct1 : Value}
    {od2 an2 : Option Addr} {sl2 : Array (Option Value)} {oc2 kV2 dc2 pm2 cd2 ct2 : Value}
    {od3 an3 : Option Addr} {sl3 : Array (Option Value)} {oc3 kV3 dc3 pm3 cd3 ct3 : Value}
    {od4 an4 : Option Addr} {sl4 : Array (Option Value)} {oc4 kV4 dc4 pm4 cd4 ct4 : Value}
    {od5 an5 : Option Addr} {sl5 : Array (Option Value)} {oc5 kV5 dc5 pm5 cd5 ct5 : Value}
    {od6 an6 : Option Addr} {sl6 : Array (Option Value)} {oc6 kV6 dc6 pm6 cd6 ct6 : Value}
    {od7 an7 : Option Addr} {sl7 : Array (Option Value)} {oc7 kV7 dc7 pm7 cd7 ct7 : Value}
    {od8 an8 : Option Addr} {sl8 : Array (Option Value)} {oc8 kV8 dc8 pm8 cd8 ct8 : Value}
    {od9 an9 : Option Addr} {sl9 : Array (Option Value)} {oc9 kV9 dc9 pm9 cd9 ct9 : Value}
    {od10 an10 : Option Addr} {sl10 : Array (Option Value)} {oc10 kV10 dc10 pm10 cd10 ct10 : Value}
    {od11 an11 : Option Addr} {sl11 : Array (Option Value)} {oc11 kV11 dc11 pm11 cd11 ct11 : Value}
    {od12 an12 : Option Addr} {sl12 : Array (Option Value)} {oc12 kV12 dc12 pm12 cd12 ct12 : Value}
    {od13 an13 : Option Addr} {sl13 : Array (Option Value)} {oc13 kV13 dc13 pm13 cd13 ct13 : Value}
    {od14 an14 : Option Addr} {sl14 : Array (Option Value)} {oc14 kV14 dc14 pm14 cd14 ct14 : Value}
    {od15 an15 : Option Addr} {sl15 : Array (Option Value)} {oc15 kV15 dc15 pm15 cd15 ct15 : Value}
    {od16 an16 : Option Addr} {sl16 : Array (Option Value)} {oc16 kV16 dc16 pm16 cd16 ct16 : Value}
    {od17 an17 : Option Addr} {sl17 : Array (Option Value)} {oc17 kV17 dc17 pm17 cd17 ct17 : Value}
    {od18 an18 : Option Addr} {sl18 : Array (Option Value)} {oc18 kV18 dc18 pm18 cd18 ct18 : Value}
    {od19 an19 : Option Addr} {sl19 : Array (Option Value)} {oc19 kV19 dc19 pm19 cd19 ct19 : Value}
    {od20 an20 : Option Addr} {sl20 : Array (Option Value)} {oc20 kV20 dc20 pm20 cd20 ct20 : Value}
    {od21 an21 : Option Addr} {sl21 : Array (Option Value)} {oc21 kV21 dc21 pm21 cd21 ct21 : Value}
    {od22 an22 : Option Addr} {sl22 : Array (Option Value)} {oc22 kV22 dc22 pm22 cd22 ct22 : Value}
    {od23 an23 : Option Addr} {sl23 : Array (Option Value)} {oc23 kV23 dc23 pm23 cd23 ct23 : Value}
    {od24 an24 : Option Addr} {sl24 : Array (Option Value)} {oc24 kV24 dc24 pm24 cd24 ct24 : Value}
    {od25 an25 : Option Addr} {sl25 : Array (Option Value)} {oc25 kV25 dc25 pm25 cd25 ct25 : Value}
    {od26 an26 : Option Addr} {sl26 : Array (Option Value)} {oc26 kV26 dc26 pm26 cd26 ct26 : Value}
    {od27 an27 : Option Addr} {sl27 : Array (Option Value)} {oc27 kV27 dc27 pm27 cd27 ct27 : Value}
    {od28 an28 : Option Addr} {sl28 : Array (Option Value)} {oc28 kV28 dc28 pm28 cd28 ct28 : Value}
    {od29 an29 : Option Addr} {sl29 : Array (Option Value)} {oc29 kV29 dc29 pm29 cd29 ct29 : Value}
    {od30 an30 : Option Addr} {sl30 : Array (Option Value)} {oc30 kV30 dc30 pm30 cd30 ct30 : Value}
    {od31 an31 : Option Addr} {sl31 : Array (Option Value)} {oc31 kV31 dc31 pm31 cd31 ct31 : Value}
    {od32 an32 : Option Addr} {sl32 : Array (Option Value)} {oc32 kV32 dc32 pm32 cd32 ct32 : Value}
    {od33 an33 : Option Addr} {sl33 : Array (Option Value)} {oc33 kV33 dc33 pm33 cd33 ct33 : Value}
    {od34 an34 : Option Addr} {sl34 : Array (Option Value)} {oc34 kV34 dc34 pm34 cd34 ct34 : Value}
    (a0 : PySem.W.nsIn K mainGlobals "are_letters" = some (some (.ref f0)))
    (l0 : K.lookup f0 = some ⟨oc0, od0, .func (PySem.W.fnOf "are_letters" "are_letters" (defArgs st_are_letters) (defBody st_are_letters) (defScope st_are_letters) .none kV0 dc0 pm0 an0 cd0 ct0), sl0⟩) (c0 : PySem.W.codeIn K cd0 "are_letters" = true) (k0 : PySem.W.keepIn K (.ref f0) = true)
    (a1 : PySem.W.nsIn K mainGlobals "are_places" = some (some (.ref f1)))
    (l1 : K.lookup f1 = some ⟨oc1, od1, .func (PySem.W.fnOf "are_places" "are_places" (defArgs st_are_places) (defBody st_are_places) (defScope st_are_places) .none kV1 dc1 pm1 an1 cd1 ct1), sl1⟩) (c1 : PySem.W.codeIn K cd1 "are_places" = true) (k1 : PySem.W.keepIn K (.ref f1) = true)
    (a2 : PySem.W.nsIn K mainGlobals "is_tie" = some (some (.ref f2)))
    (l2 : K.lookup f2 = some ⟨oc2, od2, .func (PySem.W.fnOf "is_tie" "is_tie" (defArgs st_is_tie) (defBody st_is_tie) (defScope st_is_tie) .none kV2 dc2 pm2 an2 cd2 ct2), sl2⟩) (c2 : PySem.W.codeIn K cd2 "is_tie" = true) (k2 : PySem.W.keepIn K (.ref f2) = true)
    (a3 : PySem.W.nsIn K mainGlobals "wrong_tie" = some (some (.ref f3)))
    (l3 : K.lookup f3 = some ⟨oc3, od3, .func (PySem.W.fnOf "wrong_tie" "wrong_tie" (defArgs st_wrong_tie) (defBody st_wrong_tie) (defScope st_wrong_tie) .none kV3 dc3 pm3 an3 cd3 ct3), sl3⟩) (c3 : PySem.W.codeIn K cd3 "wrong_tie" = true) (k3 : PySem.W.keepIn K (.ref f3) = true)
    (a4 : PySem.W.findIn K (.ref C) "__init__" = some (some (.ref f4)))
    (l4 : K.lookup f4 = some ⟨oc4, od4, .func (PySem.W.fnOf "__init__" "Web.__init__" (defArgs st_Webinit) (defBody st_Webinit) (defScope st_Webinit) .none kV4 dc4 pm4 an4 cd4 ct4), sl4⟩) (c4 : PySem.W.codeIn K cd4 "Web.__init__" = true) (k4 : PySem.W.keepIn K (.ref f4) = true)
    (a5 : PySem.W.findIn K (.ref C) "__len__" = some (some (.ref f5)))
    (l5 : K.lookup f5 = some ⟨oc5, od5, .func (PySem.W.fnOf "__len__" "Web.__len__" (defArgs st_Weblen) (defBody st_Weblen) (defScope st_Weblen) .none kV5 dc5 pm5 an5 cd5 ct5), sl5⟩) (c5 : PySem.W.codeIn K cd5 "Web.__len__" = true) (k5 : PySem.W.keepIn K (.ref f5) = true)
    (a6 : PySem.W.nsIn K mainGlobals "check_web" = some (some (.ref f6)))
    (l6 : K.lookup f6 = some ⟨oc6, od6, .func (PySem.W.fnOf "check_web" "check_web" (defArgs st_check_web) (defBody st_check_web) (defScope st_check_web) .none kV6 dc6 pm6 an6 cd6 ct6), sl6⟩) (c6 : PySem.W.codeIn K cd6 "check_web" = true) (k6 : PySem.W.keepIn K (.ref f6) = true)
    (a7 : PySem.W.nsIn K mainGlobals "is_place" = some (some (.ref f7)))
    (l7 : K.lookup f7 = some ⟨oc7, od7, .func (PySem.W.fnOf "is_place" "is_place" (defArgs st_is_place) (defBody st_is_place) (defScope st_is_place) .none kV7 dc7 pm7 an7 cd7 ct7), sl7⟩) (c7 : PySem.W.codeIn K cd7 "is_place" = true) (k7 : PySem.W.keepIn K (.ref f7) = true)
    (a8 : PySem.W.nsIn K mainGlobals "check_place" = some (some (.ref f8)))
    (l8 : K.lookup f8 = some ⟨oc8, od8, .func (PySem.W.fnOf "check_place" "check_place" (defArgs st_check_place) (defBody st_check_place) (defScope st_check_place) .none kV8 dc8 pm8 an8 cd8 ct8), sl8⟩) (c8 : PySem.W.codeIn K cd8 "check_place" = true) (k8 : PySem.W.keepIn K (.ref f8) = true)
    (a9 : PySem.W.nsIn K mainGlobals "every_tie" = some (some (.ref f9)))
    (l9 : K.lookup f9 = some ⟨oc9, od9, .func (PySem.W.fnOf "every_tie" "every_tie" (defArgs st_every_tie) (defBody st_every_tie) (defScope st_every_tie) .none kV9 dc9 pm9 an9 cd9 ct9), sl9⟩) (c9 : PySem.W.codeIn K cd9 "every_tie" = true) (k9 : PySem.W.keepIn K (.ref f9) = true)
    (a10 : PySem.W.nsIn K mainGlobals "herd_lot" = some (some (.ref f10)))
    (l10 : K.lookup f10 = some ⟨oc10, od10, .func (PySem.W.fnOf "herd_lot" "herd_lot" (defArgs st_herd_lot) (defBody st_herd_lot) (defScope st_herd_lot) .none kV10 dc10 pm10 an10 cd10 ct10), sl10⟩) (c10 : PySem.W.codeIn K cd10 "herd_lot" = true) (k10 : PySem.W.keepIn K (.ref f10) = true)
    (a11 : PySem.W.nsIn K mainGlobals "ways_of" = some (some (.ref f11)))
    (l11 : K.lookup f11 = some ⟨oc11, od11, .func (PySem.W.fnOf "ways_of" "ways_of" (defArgs st_ways_of) (defBody st_ways_of) (defScope st_ways_of) .none kV11 dc11 pm11 an11 cd11 ct11), sl11⟩) (c11 : PySem.W.codeIn K cd11 "ways_of" = true) (k11 : PySem.W.keepIn K (.ref f11) = true)
    (a12 : PySem.W.nsIn K mainGlobals "first_order" = some (some (.ref f12)))
    (l12 : K.lookup f12 = some ⟨oc12, od12, .func (PySem.W.fnOf "first_order" "first_order" (defArgs st_first_order) (defBody st_first_order) (defScope st_first_order) .none kV12 dc12 pm12 an12 cd12 ct12), sl12⟩) (c12 : PySem.W.codeIn K cd12 "first_order" = true) (k12 : PySem.W.keepIn K (.ref f12) = true)
    (a13 : PySem.W.nsIn K mainGlobals "has_no_ring" = some (some (.ref f13)))
    (l13 : K.lookup f13 = some ⟨oc13, od13, .func (PySem.W.fnOf "has_no_ring" "has_no_ring" (defArgs st_has_no_ring) (defBody st_has_no_ring) (defScope st_has_no_ring) .none kV13 dc13 pm13 an13 cd13 ct13), sl13⟩) (c13 : PySem.W.codeIn K cd13 "has_no_ring" = true) (k13 : PySem.W.keepIn K (.ref f13) = true)
    (a14 : PySem.W.nsIn K mainGlobals "ways_to" = some (some (.ref f14)))
    (l14 : K.lookup f14 = some ⟨oc14, od14, .func (PySem.W.fnOf "ways_to" "ways_to" (defArgs st_ways_to) (defBody st_ways_to) (defScope st_ways_to) .none kV14 dc14 pm14 an14 cd14 ct14), sl14⟩) (c14 : PySem.W.codeIn K cd14 "ways_to" = true) (k14 : PySem.W.keepIn K (.ref f14) = true)
    (a15 : PySem.W.nsIn K mainGlobals "told_ring_or_cut" = some (some (.ref f15)))
    (l15 : K.lookup f15 = some ⟨oc15, od15, .func (PySem.W.fnOf "told_ring_or_cut" "told_ring_or_cut" (defArgs st_told_ring_or_cut) (defBody st_told_ring_or_cut) (defScope st_told_ring_or_cut) .none kV15 dc15 pm15 an15 cd15 ct15), sl15⟩) (c15 : PySem.W.codeIn K cd15 "told_ring_or_cut" = true) (k15 : PySem.W.keepIn K (.ref f15) = true)
    (a16 : PySem.W.nsIn K mainGlobals "is_all_rings" = some (some (.ref f16)))
    (l16 : K.lookup f16 = some ⟨oc16, od16, .func (PySem.W.fnOf "is_all_rings" "is_all_rings" (defArgs st_is_all_rings) (defBody st_is_all_rings) (defScope st_is_all_rings) .none kV16 dc16 pm16 an16 cd16 ct16), sl16⟩) (c16 : PySem.W.codeIn K cd16 "is_all_rings" = true) (k16 : PySem.W.keepIn K (.ref f16) = true)
    (a17 : PySem.W.nsIn K mainGlobals "front_places" = some (some (.ref f17)))
    (l17 : K.lookup f17 = some ⟨oc17, od17, .func (PySem.W.fnOf "front_places" "front_places" (defArgs st_front_places) (defBody st_front_places) (defScope st_front_places) .none kV17 dc17 pm17 an17 cd17 ct17), sl17⟩) (c17 : PySem.W.codeIn K cd17 "front_places" = true) (k17 : PySem.W.keepIn K (.ref f17) = true)
    (a18 : PySem.W.nsIn K mainGlobals "all_leanings" = some (some (.ref f18)))
    (l18 : K.lookup f18 = some ⟨oc18, od18, .func (PySem.W.fnOf "all_leanings" "all_leanings" (defArgs st_all_leanings) (defBody st_all_leanings) (defScope st_all_leanings) .none kV18 dc18 pm18 an18 cd18 ct18), sl18⟩) (c18 : PySem.W.codeIn K cd18 "all_leanings" = true) (k18 : PySem.W.keepIn K (.ref f18) = true)
    (a19 : PySem.W.nsIn K mainGlobals "ringless_list" = some (some (.ref f19)))
    (l19 : K.lookup f19 = some ⟨oc19, od19, .func (PySem.W.fnOf "ringless_list" "ringless_list" (defArgs st_ringless_list) (defBody st_ringless_list) (defScope st_ringless_list) .none kV19 dc19 pm19 an19 cd19 ct19), sl19⟩) (c19 : PySem.W.codeIn K cd19 "ringless_list" = true) (k19 : PySem.W.keepIn K (.ref f19) = true)
    (a20 : PySem.W.nsIn K mainGlobals "ringless" = some (some (.ref f20)))
    (l20 : K.lookup f20 = some ⟨oc20, od20, .func (PySem.W.fnOf "ringless" "ringless" (defArgs st_ringless) (defBody st_ringless) (defScope st_ringless) .none kV20 dc20 pm20 an20 cd20 ct20), sl20⟩) (c20 : PySem.W.codeIn K cd20 "ringless" = true) (k20 : PySem.W.keepIn K (.ref f20) = true)
    (a21 : PySem.W.nsIn K mainGlobals "ringed" = some (some (.ref f21)))
    (l21 : K.lookup f21 = some ⟨oc21, od21, .func (PySem.W.fnOf "ringed" "ringed" (defArgs st_ringed) (defBody st_ringed) (defScope st_ringed) .none kV21 dc21 pm21 an21 cd21 ct21), sl21⟩) (c21 : PySem.W.codeIn K cd21 "ringed" = true) (k21 : PySem.W.keepIn K (.ref f21) = true)
    (a22 : PySem.W.nsIn K mainGlobals "with_front" = some (some (.ref f22)))
    (l22 : K.lookup f22 = some ⟨oc22, od22, .func (PySem.W.fnOf "with_front" "with_front" (defArgs st_with_front) (defBody st_with_front) (defScope st_with_front) .none kV22 dc22 pm22 an22 cd22 ct22), sl22⟩) (c22 : PySem.W.codeIn K cd22 "with_front" = true) (k22 : PySem.W.keepIn K (.ref f22) = true)
    (a23 : PySem.W.nsIn K mainGlobals "_law_purse" = some (some (.ref f23)))
    (l23 : K.lookup f23 = some ⟨oc23, od23, .func (PySem.W.fnOf "_law_purse" "_law_purse" (defArgs st_law_purse) (defBody st_law_purse) (defScope st_law_purse) .none kV23 dc23 pm23 an23 cd23 ct23), sl23⟩) (c23 : PySem.W.codeIn K cd23 "_law_purse" = true) (k23 : PySem.W.keepIn K (.ref f23) = true)
    (a24 : PySem.W.nsIn K mainGlobals "_law_take" = some (some (.ref f24)))
    (l24 : K.lookup f24 = some ⟨oc24, od24, .func (PySem.W.fnOf "_law_take" "_law_take" (defArgs st_law_take) (defBody st_law_take) (defScope st_law_take) .none kV24 dc24 pm24 an24 cd24 ct24), sl24⟩) (c24 : PySem.W.codeIn K cd24 "_law_take" = true) (k24 : PySem.W.keepIn K (.ref f24) = true)
    (a25 : PySem.W.nsIn K mainGlobals "_law_one" = some (some (.ref f25)))
    (l25 : K.lookup f25 = some ⟨oc25, od25, .func (PySem.W.fnOf "_law_one" "_law_one" (defArgs st_law_one) (defBody st_law_one) (defScope st_law_one) .none kV25 dc25 pm25 an25 cd25 ct25), sl25⟩) (c25 : PySem.W.codeIn K cd25 "_law_one" = true) (k25 : PySem.W.keepIn K (.ref f25) = true)
    (a26 : PySem.W.nsIn K mainGlobals "_law_web" = some (some (.ref f26)))
    (l26 : K.lookup f26 = some ⟨oc26, od26, .func (PySem.W.fnOf "_law_web" "_law_web" (defArgs st_law_web) (defBody st_law_web) (defScope st_law_web) .none kV26 dc26 pm26 an26 cd26 ct26), sl26⟩) (c26 : PySem.W.codeIn K cd26 "_law_web" = true) (k26 : PySem.W.keepIn K (.ref f26) = true)
    (a27 : PySem.W.nsIn K mainGlobals "_law_ways" = some (some (.ref f27)))
    (l27 : K.lookup f27 = some ⟨oc27, od27, .func (PySem.W.fnOf "_law_ways" "_law_ways" (defArgs st_law_ways) (defBody st_law_ways) (defScope st_law_ways) .none kV27 dc27 pm27 an27 cd27 ct27), sl27⟩) (c27 : PySem.W.codeIn K cd27 "_law_ways" = true) (k27 : PySem.W.keepIn K (.ref f27) = true)
    (a28 : PySem.W.nsIn K mainGlobals "_law_reach" = some (some (.ref f28)))
    (l28 : K.lookup f28 = some ⟨oc28, od28, .func (PySem.W.fnOf "_law_reach" "_law_reach" (defArgs st_law_reach) (defBody st_law_reach) (defScope st_law_reach) .none kV28 dc28 pm28 an28 cd28 ct28), sl28⟩) (c28 : PySem.W.codeIn K cd28 "_law_reach" = true) (k28 : PySem.W.keepIn K (.ref f28) = true)
    (a29 : PySem.W.nsIn K mainGlobals "_law_in_ring" = some (some (.ref f29)))
    (l29 : K.lookup f29 = some ⟨oc29, od29, .func (PySem.W.fnOf "_law_in_ring" "_law_in_ring" (defArgs st_law_in_ring) (defBody st_law_in_ring) (defScope st_law_in_ring) .none kV29 dc29 pm29 an29 cd29 ct29), sl29⟩) (c29 : PySem.W.codeIn K cd29 "_law_in_ring" = true) (k29 : PySem.W.keepIn K (.ref f29) = true)
    (a30 : PySem.W.nsIn K mainGlobals "_law_leanings" = some (some (.ref f30)))
    (l30 : K.lookup f30 = some ⟨oc30, od30, .func (PySem.W.fnOf "_law_leanings" "_law_leanings" (defArgs st_law_leanings) (defBody st_law_leanings) (defScope st_law_leanings) .none kV30 dc30 pm30 an30 cd30 ct30), sl30⟩) (c30 : PySem.W.codeIn K cd30 "_law_leanings" = true) (k30 : PySem.W.keepIn K (.ref f30) = true)
    (a31 : PySem.W.nsIn K mainGlobals "_law_joined" = some (some (.ref f31)))
    (l31 : K.lookup f31 = some ⟨oc31, od31, .func (PySem.W.fnOf "_law_joined" "_law_joined" (defArgs st_law_joined) (defBody st_law_joined) (defScope st_law_joined) .none kV31 dc31 pm31 an31 cd31 ct31), sl31⟩) (c31 : PySem.W.codeIn K cd31 "_law_joined" = true) (k31 : PySem.W.keepIn K (.ref f31) = true)
    (a32 : PySem.W.nsIn K mainGlobals "_law_counted" = some (some (.ref f32)))
    (l32 : K.lookup f32 = some ⟨oc32, od32, .func (PySem.W.fnOf "_law_counted" "_law_counted" (defArgs st_law_counted) (defBody st_law_counted) (defScope st_law_counted) .none kV32 dc32 pm32 an32 cd32 ct32), sl32⟩) (c32 : PySem.W.codeIn K cd32 "_law_counted" = true) (k32 : PySem.W.keepIn K (.ref f32) = true)
    (a33 : PySem.W.nsIn K mainGlobals "_law_right" = some (some (.ref f33)))
    (l33 : K.lookup f33 = some ⟨oc33, od33, .func (PySem.W.fnOf "_law_right" "_law_right" (defArgs st_law_right) (defBody st_law_right) (defScope st_law_right) .none kV33 dc33 pm33 an33 cd33 ct33), sl33⟩) (c33 : PySem.W.codeIn K cd33 "_law_right" = true) (k33 : PySem.W.keepIn K (.ref f33) = true)
    (a34 : PySem.W.nsIn K mainGlobals "law" = some (some (.ref f34)))
    (l34 : K.lookup f34 = some ⟨oc34, od34, .func (PySem.W.fnOf "law" "law" (defArgs st_law) (defBody st_law) (defScope st_law) .none kV34 dc34 pm34 an34 cd34 ct34), sl34⟩) (c34 : PySem.W.codeIn K cd34 "law" = true) (k34 : PySem.W.keepIn K (.ref f34) = true)
    (aW : PySem.W.nsIn K mainGlobals "Web" = some (some (.ref C)))
    (z_len : PySem.W.nsIn K mainGlobals "len" = some none)
    (z_all : PySem.W.nsIn K mainGlobals "all" = some none)
    (z_any : PySem.W.nsIn K mainGlobals "any" = some none)
    (z_abs : PySem.W.nsIn K mainGlobals "abs" = some none)
    (z_int : PySem.W.nsIn K mainGlobals "int" = some none)
    (z_bool : PySem.W.nsIn K mainGlobals "bool" = some none)
    (z_divmod : PySem.W.nsIn K mainGlobals "divmod" = some none)
    (z_min : PySem.W.nsIn K mainGlobals "min" = some none)
    (z_max : PySem.W.nsIn K mainGlobals "max" = some none)
    (z_tuple : PySem.W.nsIn K mainGlobals "tuple" = some none)
    (z_list : PySem.W.nsIn K mainGlobals "list" = some none)
    (z_sorted : PySem.W.nsIn K mainGlobals "sorted" = some none)
    (z_str : PySem.W.nsIn K mainGlobals "str" = some none)
    (z_isinstance : PySem.W.nsIn K mainGlobals "isinstance" = some none)
    (z_enumerate : PySem.W.nsIn K mainGlobals "enumerate" = some none)
    (z_range : PySem.W.nsIn K mainGlobals "range" = some none)
    (z_sum : PySem.W.nsIn K mainGlobals "sum" = some none)
    (z_zip : PySem.W.nsIn K mainGlobals "zip" = some none)
    (z_repr : PySem.W.nsIn K mainGlobals "repr" = some none)
    (z_set : PySem.W.nsIn K mainGlobals "set" = some none)
    {tk_MOST_PLACES : Tok} {tk_MOST_TIES : Tok} {tk_LETTERS : Tok} {tk_SIGNS : Tok}
    (v_MOST_PLACES : PySem.W.nsIn K mainGlobals "MOST_PLACES" = some (some (.int 7 tk_MOST_PLACES)))
    (v_MOST_TIES : PySem.W.nsIn K mainGlobals "MOST_TIES" = some (some (.int 11 tk_MOST_TIES)))
    (v_LETTERS : PySem.W.nsIn K mainGlobals "LETTERS" = some (some (.str "abcdefgh" tk_LETTERS)))
    (v_SIGNS : PySem.W.nsIn K mainGlobals "SIGNS" = some (some (.str "+-" tk_SIGNS)))
    (w1 : PySem.W.plainGet K C Str.empty = true)
    (w2 : PySem.W.hasDictIn K C = true)
    (w3 : PySem.W.plainOver K C = true)
    (w4 : PySem.W.findIn K (.ref C) "__setattr__" = some (some (.builtin "object.__setattr__")))
    (w5 : PySem.W.findIn K (.ref C) "__class__" = some (some (.builtin "object.__class__")))
    (w6 : PySem.W.specialIn K (.builtin "object.__class__") "__get__" = some (some (.builtin "getset_descriptor.__get__")))
    (w7 : PySem.W.takesIn K (.builtin "object.__class__") = true)
    (w8 : PySem.W.mroIn K C (.type "object") = some true)
    (w9 : PySem.W.findIn K (.ref C) "places" = some none)
    (w10 : PySem.W.findIn K (.ref C) "ties" = some none)
    (w11 : PySem.W.isFn K (.ref f5) = true)
    (w12 : PySem.W.makesIn K C = true)
    (w13 : PySem.W.isFn K (.ref f4) = true)
    (w14 : PySem.W.keepIn K (.ref C) = true)
    : ∃ (fd : FuncData) (cs : List (Addr × Addr)), (∀ p ∈ cs, h.get? p.2 = some { cls := .none, data := .fields #[] }) ∧ (∀ p ∈ cs, K.lookup p.2 = none) ∧ (∀ p ∈ cs, PySem.W.CodeHd h p.1 p.2) ∧ (∀ (s : Shared) (v : Value), BindsTo s fd ⟨[v], []⟩ [("_law_script", v)]) ∧ ∀ base : Heap, K.In base → base.Ns mainGlobals mg → (∀ p ∈ cs, LamX.TabB base mg p.1 p.2) → FnG P w K mg base 9 fa fd ["_law_script"] (spLaw K cs) := by
  have e := hfa.symm.trans (PySem.W.mg_of X G a34)
  cases e
  have F0 := fun_mk (st := st_are_letters) l0 c0 k0
  have b0 := F0.binds (ps := ["value"]) fun _ _ _ _ _ _ us hl => match us, hl with | [_], _ => rfl
  have F1 := fun_mk (st := st_are_places) l1 c1 k1
  have b1 := F1.binds (ps := ["value"]) fun _ _ _ _ _ _ us hl => match us, hl with | [_], _ => rfl
  have F2 := fun_mk (st := st_is_tie) l2 c2 k2
  have b2 := F2.binds (ps := ["places", "value"]) fun _ _ _ _ _ _ us hl => match us, hl with | [_, _], _ => rfl
  have F3 := fun_mk (st := st_wrong_tie) l3 c3 k3
  have b3 := F3.binds (ps := ["places", "ties"]) fun _ _ _ _ _ _ us hl => match us, hl with | [_, _], _ => rfl
  have F4 := fun_mk (st := st_Webinit) l4 c4 k4
  have b4 := F4.binds (ps := ["self", "places", "ties"]) fun _ _ _ _ _ _ us hl => match us, hl with | [_, _, _], _ => rfl
  have F5 := fun_mk (st := st_Weblen) l5 c5 k5
  have b5 := F5.binds (ps := ["self"]) fun _ _ _ _ _ _ us hl => match us, hl with | [_], _ => rfl
  have F6 := fun_mk (st := st_check_web) l6 c6 k6
  have b6 := F6.binds (ps := ["web"]) fun _ _ _ _ _ _ us hl => match us, hl with | [_], _ => rfl
  have F7 := fun_mk (st := st_is_place) l7 c7 k7
  have b7 := F7.binds (ps := ["web", "value"]) fun _ _ _ _ _ _ us hl => match us, hl with | [_, _], _ => rfl
  have F8 := fun_mk (st := st_check_place) l8 c8 k8
  have b8 := F8.binds (ps := ["web", "place"]) fun _ _ _ _ _ _ us hl => match us, hl with | [_, _], _ => rfl
  have F9 := fun_mk (st := st_every_tie) l9 c9 k9
  have b9 := F9.binds (ps := ["web"]) fun _ _ _ _ _ _ us hl => match us, hl with | [_], _ => rfl
  have F10 := fun_mk (st := st_herd_lot) l10 c10 k10
  have b10 := F10.binds (ps := ["web", "herd"]) fun _ _ _ _ _ _ us hl => match us, hl with | [_, _], _ => rfl
  have F11 := fun_mk (st := st_ways_of) l11 c11 k11
  have b11 := F11.binds (ps := ["web", "leaning"]) fun _ _ _ _ _ _ us hl => match us, hl with | [_, _], _ => rfl
  have F12 := fun_mk (st := st_first_order) l12 c12 k12
  have b12 := F12.binds (ps := ["web", "leaning"]) fun _ _ _ _ _ _ us hl => match us, hl with | [_, _], _ => rfl
  have F13 := fun_mk (st := st_has_no_ring) l13 c13 k13
  have b13 := F13.binds (ps := ["web", "leaning"]) fun _ _ _ _ _ _ us hl => match us, hl with | [_, _], _ => rfl
  have F14 := fun_mk (st := st_ways_to) l14 c14 k14
  have b14 := F14.binds (ps := ["web", "leaning", "start"]) fun _ _ _ _ _ _ us hl => match us, hl with | [_, _, _], _ => rfl
  have F15 := fun_mk (st := st_told_ring_or_cut) l15 c15 k15
  have b15 := F15.binds (ps := ["web", "leaning", "index"]) fun _ _ _ _ _ _ us hl => match us, hl with | [_, _, _], _ => rfl
  have F16 := fun_mk (st := st_is_all_rings) l16 c16 k16
  have b16 := F16.binds (ps := ["web", "leaning"]) fun _ _ _ _ _ _ us hl => match us, hl with | [_, _], _ => rfl
  have F17 := fun_mk (st := st_front_places) l17 c17 k17
  have b17 := F17.binds (ps := ["web", "leaning"]) fun _ _ _ _ _ _ us hl => match us, hl with | [_, _], _ => rfl
  have F18 := fun_mk (st := st_all_leanings) l18 c18 k18
  have b18 := F18.binds (ps := ["web"]) fun _ _ _ _ _ _ us hl => match us, hl with | [_], _ => rfl
  have F19 := fun_mk (st := st_ringless_list) l19 c19 k19
  have b19 := F19.binds (ps := ["web"]) fun _ _ _ _ _ _ us hl => match us, hl with | [_], _ => rfl
  have F20 := fun_mk (st := st_ringless) l20 c20 k20
  have b20 := F20.binds (ps := ["web"]) fun _ _ _ _ _ _ us hl => match us, hl with | [_], _ => rfl
  have F21 := fun_mk (st := st_ringed) l21 c21 k21
  have b21 := F21.binds (ps := ["web"]) fun _ _ _ _ _ _ us hl => match us, hl with | [_], _ => rfl
  have F22 := fun_mk (st := st_with_front) l22 c22 k22
  have b22 := F22.binds (ps := ["web", "place"]) fun _ _ _ _ _ _ us hl => match us, hl with | [_, _], _ => rfl
  have F23 := fun_mk (st := st_law_purse) l23 c23 k23
  have b23 := F23.binds (ps := ["_law_script", "_law_k"]) fun _ _ _ _ _ _ us hl => match us, hl with | [_, _], _ => rfl
  have F24 := fun_mk (st := st_law_take) l24 c24 k24
  have b24 := F24.binds (ps := ["_law_purse_here", "_law_many"]) fun _ _ _ _ _ _ us hl => match us, hl with | [_, _], _ => rfl
  have F25 := fun_mk (st := st_law_one) l25 c25 k25
  have b25 := F25.binds (ps := ["_law_purse_here", "_law_things"]) fun _ _ _ _ _ _ us hl => match us, hl with | [_, _], _ => rfl
  have F26 := fun_mk (st := st_law_web) l26 c26 k26
  have b26 := F26.binds (ps := ["_law_purse_here", "_law_most_places", "_law_most_ties"]) fun _ _ _ _ _ _ us hl => match us, hl with | [_, _, _], _ => rfl
  have F27 := fun_mk (st := st_law_ways) l27 c27 k27
  have b27 := F27.binds (ps := ["_law_ties_here", "_law_leaning_here"]) fun _ _ _ _ _ _ us hl => match us, hl with | [_, _], _ => rfl
  have F28 := fun_mk (st := st_law_reach) l28 c28 k28
  have b28 := F28.binds (ps := ["_law_ways_here", "_law_start"]) fun _ _ _ _ _ _ us hl => match us, hl with | [_, _], _ => rfl
  have F29 := fun_mk (st := st_law_in_ring) l29 c29 k29
  have b29 := F29.binds (ps := ["_law_ways_here", "_law_k"]) fun _ _ _ _ _ _ us hl => match us, hl with | [_, _], _ => rfl
  have F30 := fun_mk (st := st_law_leanings) l30 c30 k30
  have b30 := F30.binds (ps := ["_law_many"]) fun _ _ _ _ _ _ us hl => match us, hl with | [_], _ => rfl
  have F31 := fun_mk (st := st_law_joined) l31 c31 k31
  have b31 := F31.binds (ps := ["_law_places_here", "_law_ties_here"]) fun _ _ _ _ _ _ us hl => match us, hl with | [_, _], _ => rfl
  have F32 := fun_mk (st := st_law_counted) l32 c32 k32
  have b32 := F32.binds (ps := ["_law_places_here", "_law_ties_here", "_law_x", "_law_y"]) fun _ _ _ _ _ _ us hl => match us, hl with | [_, _, _, _], _ => rfl
  have F33 := fun_mk (st := st_law_right) l33 c33 k33
  have b33 := F33.binds (ps := ["_law_purse_here"]) fun _ _ _ _ _ _ us hl => match us, hl with | [_], _ => rfl
  have F34 := fun_mk (st := st_law) l34 c34 k34
  have b34 := F34.binds (ps := ["_law_script"]) fun _ _ _ _ _ _ us hl => match us, hl with | [_], _ => rfl
  have tabs : ∀ p ∈ ([] : List (Addr × Addr)), h.get? p.2 = some { cls := .none, data := .fields #[] } ∧ K.lookup p.2 = none ∧ PySem.W.CodeHd h p.1 p.2 := fun _ z => nomatch z
  have MM : ∀ base : Heap, (∀ p ∈ ([] : List (Addr × Addr)), LamX.TabB base mg p.1 p.2) → Mo K mg ⟨C, K24.ckOk, [], fun n => 0, fun n => _root_.G.lam0, DicV P w, fun n => none⟩ (fun i => [f0, f1, f2, f3, f4, f5, f6, f7, f8, f9, f10, f11, f12, f13, f14, f15, f16, f17, f18, f19, f20, f21, f22, f23, f24, f25, f26, f27, f28, f29, f30, f31, f32, f33, fa].getD i 0) (fun i => [PySem.W.fnOf "are_letters" "are_letters" (defArgs st_are_letters) (defBody st_are_letters) (defScope st_are_letters) .none kV0 dc0 pm0 an0 cd0 ct0, PySem.W.fnOf "are_places" "are_places" (defArgs st_are_places) (defBody st_are_places) (defScope st_are_places) .none kV1 dc1 pm1 an1 cd1 ct1, PySem.W.fnOf "is_tie" "is_tie" (defArgs st_is_tie) (defBody st_is_tie) (defScope st_is_tie) .none kV2 dc2 pm2 an2 cd2 ct2, PySem.W.fnOf "wrong_tie" "wrong_tie" (defArgs st_wrong_tie) (defBody st_wrong_tie) (defScope st_wrong_tie) .none kV3 dc3 pm3 an3 cd3 ct3, PySem.W.fnOf "__init__" "Web.__init__" (defArgs st_Webinit) (defBody st_Webinit) (defScope st_Webinit) .none kV4 dc4 pm4 an4 cd4 ct4, PySem.W.fnOf "__len__" "Web.__len__" (defArgs st_Weblen) (defBody st_Weblen) (defScope st_Weblen) .none kV5 dc5 pm5 an5 cd5 ct5, PySem.W.fnOf "check_web" "check_web" (defArgs st_check_web) (defBody st_check_web) (defScope st_check_web) .none kV6 dc6 pm6 an6 cd6 ct6, PySem.W.fnOf "is_place" "is_place" (defArgs st_is_place) (defBody st_is_place) (defScope st_is_place) .none kV7 dc7 pm7 an7 cd7 ct7, PySem.W.fnOf "check_place" "check_place" (defArgs st_check_place) (defBody st_check_place) (defScope st_check_place) .none kV8 dc8 pm8 an8 cd8 ct8, PySem.W.fnOf "every_tie" "every_tie" (defArgs st_every_tie) (defBody st_every_tie) (defScope st_every_tie) .none kV9 dc9 pm9 an9 cd9 ct9, PySem.W.fnOf "herd_lot" "herd_lot" (defArgs st_herd_lot) (defBody st_herd_lot) (defScope st_herd_lot) .none kV10 dc10 pm10 an10 cd10 ct10, PySem.W.fnOf "ways_of" "ways_of" (defArgs st_ways_of) (defBody st_ways_of) (defScope st_ways_of) .none kV11 dc11 pm11 an11 cd11 ct11, PySem.W.fnOf "first_order" "first_order" (defArgs st_first_order) (defBody st_first_order) (defScope st_first_order) .none kV12 dc12 pm12 an12 cd12 ct12, PySem.W.fnOf "has_no_ring" "has_no_ring" (defArgs st_has_no_ring) (defBody st_has_no_ring) (defScope st_has_no_ring) .none kV13 dc13 pm13 an13 cd13 ct13, PySem.W.fnOf "ways_to" "ways_to" (defArgs st_ways_to) (defBody st_ways_to) (defScope st_ways_to) .none kV14 dc14 pm14 an14 cd14 ct14, PySem.W.fnOf "told_ring_or_cut" "told_ring_or_cut" (defArgs st_told_ring_or_cut) (defBody st_told_ring_or_cut) (defScope st_told_ring_or_cut) .none kV15 dc15 pm15 an15 cd15 ct15, PySem.W.fnOf "is_all_rings" "is_all_rings" (defArgs st_is_all_rings) (defBody st_is_all_rings) (defScope st_is_all_rings) .none kV16 dc16 pm16 an16 cd16 ct16, PySem.W.fnOf "front_places" "front_places" (defArgs st_front_places) (defBody st_front_places) (defScope st_front_places) .none kV17 dc17 pm17 an17 cd17 ct17, PySem.W.fnOf "all_leanings" "all_leanings" (defArgs st_all_leanings) (defBody st_all_leanings) (defScope st_all_leanings) .none kV18 dc18 pm18 an18 cd18 ct18, PySem.W.fnOf "ringless_list" "ringless_list" (defArgs st_ringless_list) (defBody st_ringless_list) (defScope st_ringless_list) .none kV19 dc19 pm19 an19 cd19 ct19, PySem.W.fnOf "ringless" "ringless" (defArgs st_ringless) (defBody st_ringless) (defScope st_ringless) .none kV20 dc20 pm20 an20 cd20 ct20, PySem.W.fnOf "ringed" "ringed" (defArgs st_ringed) (defBody st_ringed) (defScope st_ringed) .none kV21 dc21 pm21 an21 cd21 ct21, PySem.W.fnOf "with_front" "with_front" (defArgs st_with_front) (defBody st_with_front) (defScope st_with_front) .none kV22 dc22 pm22 an22 cd22 ct22, PySem.W.fnOf "_law_purse" "_law_purse" (defArgs st_law_purse) (defBody st_law_purse) (defScope st_law_purse) .none kV23 dc23 pm23 an23 cd23 ct23, PySem.W.fnOf "_law_take" "_law_take" (defArgs st_law_take) (defBody st_law_take) (defScope st_law_take) .none kV24 dc24 pm24 an24 cd24 ct24, PySem.W.fnOf "_law_one" "_law_one" (defArgs st_law_one) (defBody st_law_one) (defScope st_law_one) .none kV25 dc25 pm25 an25 cd25 ct25, PySem.W.fnOf "_law_web" "_law_web" (defArgs st_law_web) (defBody st_law_web) (defScope st_law_web) .none kV26 dc26 pm26 an26 cd26 ct26, PySem.W.fnOf "_law_ways" "_law_ways" (defArgs st_law_ways) (defBody st_law_ways) (defScope st_law_ways) .none kV27 dc27 pm27 an27 cd27 ct27, PySem.W.fnOf "_law_reach" "_law_reach" (defArgs st_law_reach) (defBody st_law_reach) (defScope st_law_reach) .none kV28 dc28 pm28 an28 cd28 ct28, PySem.W.fnOf "_law_in_ring" "_law_in_ring" (defArgs st_law_in_ring) (defBody st_law_in_ring) (defScope st_law_in_ring) .none kV29 dc29 pm29 an29 cd29 ct29, PySem.W.fnOf "_law_leanings" "_law_leanings" (defArgs st_law_leanings) (defBody st_law_leanings) (defScope st_law_leanings) .none kV30 dc30 pm30 an30 cd30 ct30, PySem.W.fnOf "_law_joined" "_law_joined" (defArgs st_law_joined) (defBody st_law_joined) (defScope st_law_joined) .none kV31 dc31 pm31 an31 cd31 ct31, PySem.W.fnOf "_law_counted" "_law_counted" (defArgs st_law_counted) (defBody st_law_counted) (defScope st_law_counted) .none kV32 dc32 pm32 an32 cd32 ct32, PySem.W.fnOf "_law_right" "_law_right" (defArgs st_law_right) (defBody st_law_right) (defScope st_law_right) .none kV33 dc33 pm33 an33 cd33 ct33, PySem.W.fnOf "law" "law" (defArgs st_law) (defBody st_law) (defScope st_law) .none kV34 dc34 pm34 an34 cd34 ct34].getD i (PySem.W.fnOf "law" "law" (defArgs st_law) (defBody st_law) (defScope st_law) .none kV34 dc34 pm34 an34 cd34 ct34)) base P w := fun base tb => {
    f_are_letters := F0
    b_are_letters := b0
    m_are_letters := PySem.W.mg_of X G a0
    f_are_places := F1
    b_are_places := b1
    m_are_places := PySem.W.mg_of X G a1
    f_is_tie := F2
    b_is_tie := b2
    m_is_tie := PySem.W.mg_of X G a2
    f_wrong_tie := F3
    b_wrong_tie := b3
    m_wrong_tie := PySem.W.mg_of X G a3
    f_Webinit := F4
    b_Webinit := b4
    f_Weblen := F5
    b_Weblen := b5
    f_check_web := F6
    b_check_web := b6
    m_check_web := PySem.W.mg_of X G a6
    f_is_place := F7
    b_is_place := b7
    m_is_place := PySem.W.mg_of X G a7
    f_check_place := F8
    b_check_place := b8
    m_check_place := PySem.W.mg_of X G a8
    f_every_tie := F9
    b_every_tie := b9
    m_every_tie := PySem.W.mg_of X G a9
    f_herd_lot := F10
    b_herd_lot := b10
    m_herd_lot := PySem.W.mg_of X G a10
    f_ways_of := F11
    b_ways_of := b11
    m_ways_of := PySem.W.mg_of X G a11
    f_first_order := F12
    b_first_order := b12
    m_first_order := PySem.W.mg_of X G a12
    f_has_no_ring := F13
    b_has_no_ring := b13
    m_has_no_ring := PySem.W.mg_of X G a13
    f_ways_to := F14
    b_ways_to := b14
    m_ways_to := PySem.W.mg_of X G a14
    f_told_ring_or_cut := F15
    b_told_ring_or_cut := b15
    m_told_ring_or_cut := PySem.W.mg_of X G a15
    f_is_all_rings := F16
    b_is_all_rings := b16
    m_is_all_rings := PySem.W.mg_of X G a16
    f_front_places := F17
    b_front_places := b17
    m_front_places := PySem.W.mg_of X G a17
    f_all_leanings := F18
    b_all_leanings := b18
    m_all_leanings := PySem.W.mg_of X G a18
    f_ringless_list := F19
    b_ringless_list := b19
    m_ringless_list := PySem.W.mg_of X G a19
    f_ringless := F20
    b_ringless := b20
    m_ringless := PySem.W.mg_of X G a20
    f_ringed := F21
    b_ringed := b21
    m_ringed := PySem.W.mg_of X G a21
    f_with_front := F22
    b_with_front := b22
    m_with_front := PySem.W.mg_of X G a22
    f_law_purse := F23
    b_law_purse := b23
    m_law_purse := PySem.W.mg_of X G a23
    f_law_take := F24
    b_law_take := b24
    m_law_take := PySem.W.mg_of X G a24
    f_law_one := F25
    b_law_one := b25
    m_law_one := PySem.W.mg_of X G a25
    f_law_web := F26
    b_law_web := b26
    m_law_web := PySem.W.mg_of X G a26
    f_law_ways := F27
    b_law_ways := b27
    m_law_ways := PySem.W.mg_of X G a27
    f_law_reach := F28
    b_law_reach := b28
    m_law_reach := PySem.W.mg_of X G a28
    f_law_in_ring := F29
    b_law_in_ring := b29
    m_law_in_ring := PySem.W.mg_of X G a29
    f_law_leanings := F30
    b_law_leanings := b30
    m_law_leanings := PySem.W.mg_of X G a30
    f_law_joined := F31
    b_law_joined := b31
    m_law_joined := PySem.W.mg_of X G a31
    f_law_counted := F32
    b_law_counted := b32
    m_law_counted := PySem.W.mg_of X G a32
    f_law_right := F33
    b_law_right := b33
    m_law_right := PySem.W.mg_of X G a33
    f_law := F34
    b_law := b34
    m_law := PySem.W.mg_of X G a34
    kw_ringed_0 := fun s ws _ hl => match ws, hl with | [_], _ => .of_eq rfl
    kw_ringless_0 := fun s ws _ hl => match ws, hl with | [_], _ => .of_eq rfl
    kw_with_front_10 := fun s ws _ hl => match ws, hl with | [_, _], _ => .of_eq rfl
    m_Web := PySem.W.mg_of X G aW
    z_len := PySem.W.mg_none_of X G z_len
    z_all := PySem.W.mg_none_of X G z_all
    z_any := PySem.W.mg_none_of X G z_any
    z_abs := PySem.W.mg_none_of X G z_abs
    z_int := PySem.W.mg_none_of X G z_int
    z_bool := PySem.W.mg_none_of X G z_bool
    z_divmod := PySem.W.mg_none_of X G z_divmod
    z_min := PySem.W.mg_none_of X G z_min
    z_max := PySem.W.mg_none_of X G z_max
    z_tuple := PySem.W.mg_none_of X G z_tuple
    z_list := PySem.W.mg_none_of X G z_list
    z_sorted := PySem.W.mg_none_of X G z_sorted
    z_str := PySem.W.mg_none_of X G z_str
    z_isinstance := PySem.W.mg_none_of X G z_isinstance
    z_enumerate := PySem.W.mg_none_of X G z_enumerate
    z_range := PySem.W.mg_none_of X G z_range
    z_sum := PySem.W.mg_none_of X G z_sum
    z_zip := PySem.W.mg_none_of X G z_zip
    z_repr := PySem.W.mg_none_of X G z_repr
    z_set := PySem.W.mg_none_of X G z_set
    g_MOST_PLACES := ⟨_, PySem.W.mg_of X G v_MOST_PLACES⟩
    g_MOST_TIES := ⟨_, PySem.W.mg_of X G v_MOST_TIES⟩
    g_LETTERS := ⟨_, PySem.W.mg_of X G v_LETTERS⟩
    g_SIGNS := ⟨_, PySem.W.mg_of X G v_SIGNS⟩
    wty := ⟨⟨w1, w2, w3, w4⟩, w5, w6, w7, w8⟩
    ck := rfl
    dv := rfl
    np := w9
    nt := w10
    fl := a5
    il := w11
    mkw := ⟨w12, a4, w13, w14⟩ }
  refine ⟨_, [], fun p hp => (tabs p hp).1, fun p hp => (tabs p hp).2.1, fun p hp => (tabs p hp).2.2, fun s v => .of_eq rfl, fun base _ _ tb => (ok_law (MM base tb)).imp ?_⟩
  rintro vs H Q E ⟨a, ns, rfl, hT, hS, hl, q⟩
  have ht : ∀ b ∈ ([] : List Addr), H b = some (.tbl #[]) := fun b hb => by
    cases hb
  refine ⟨none, _root_.G.cutT [] H, [.scr ns], 0, fun d _ => d = .bl true, _root_.G.cutT_ex, .cons ⟨a, rfl, _root_.G.cutT_sq ht hS⟩ .nil, ⟨(fun _ z => nomatch z), _root_.G.cutT_tab ht fun p hp => by
    cases hp⟩, ⟨ns, hl, rfl, fun _ => rfl⟩, fun v H' F' m' x _ _ rp e => ?_⟩
  subst e
  cases rp
  exact q H'
end K19
open PySem PySem.W PyProof.Rows
set_option maxHeartbeats 0 in
theorem PySem.Challenge.cw_webreckon_k19_whole_lists_of_leanings_holds : PySem.Challenge.rw_webreckon_k19_whole_lists_of_leanings.Holds := by
  w_on; o_law; k_head; (case hw => w_witness2)
  k_fill
  refine G.walk_ofGT (l := PySem.Challenge.rw_webreckon_k19_whole_lists_of_leanings) (n := 63) (k := 9) (x := "_law_script") (sp := fun w => K19.spLaw _) rfl (by decide) rfl ⟨rfl, by decide, by decide⟩ (fun w h Y => PySem.W.kIn_of Y) ?F (fun _ _ a ns cs hl hT hS => ⟨a, ns, rfl, hT, hS, hl, fun _ => rfl⟩)
  case F =>
    intro w mg fa h Y KX G hmg
    refine' K19.all_mk KX G hmg ?a0 ?l0 ?c0 ?k0 ?a1 ?l1 ?c1 ?k1 ?a2 ?l2 ?c2 ?k2 ?a3 ?l3 ?c3 ?k3 ?a4 ?l4 ?c4 ?k4 ?a5 ?l5 ?c5 ?k5 ?a6 ?l6 ?c6 ?k6 ?a7 ?l7 ?c7 ?k7 ?a8 ?l8 ?c8 ?k8 ?a9 ?l9 ?c9 ?k9 ?a10 ?l10 ?c10 ?k10 ?a11 ?l11 ?c11 ?k11 ?a12 ?l12 ?c12 ?k12 ?a13 ?l13 ?c13 ?k13 ?a14 ?l14 ?c14 ?k14 ?a15 ?l15 ?c15 ?k15 ?a16 ?l16 ?c16 ?k16 ?a17 ?l17 ?c17 ?k17 ?a18 ?l18 ?c18 ?k18 ?a19 ?l19 ?c19 ?k19 ?a20 ?l20 ?c20 ?k20 ?a21 ?l21 ?c21 ?k21 ?a22 ?l22 ?c22 ?k22 ?a23 ?l23 ?c23 ?k23 ?a24 ?l24 ?c24 ?k24 ?a25 ?l25 ?c25 ?k25 ?a26 ?l26 ?c26 ?k26 ?a27 ?l27 ?c27 ?k27 ?a28 ?l28 ?c28 ?k28 ?a29 ?l29 ?c29 ?k29 ?a30 ?l30 ?c30 ?k30 ?a31 ?l31 ?c31 ?k31 ?a32 ?l32 ?c32 ?k32 ?a33 ?l33 ?c33 ?k33 ?a34 ?l34 ?c34 ?k34 ?aW ?z_len ?z_all ?z_any ?z_abs ?z_int ?z_bool ?z_divmod ?z_min ?z_max ?z_tuple ?z_list ?z_sorted ?z_str ?z_isinstance ?z_enumerate ?z_range ?z_sum ?z_zip ?z_repr ?z_set ?v_MOST_PLACES ?v_MOST_TIES ?v_LETTERS ?v_SIGNS ?w1 ?w2 ?w3 ?w4 ?w5 ?w6 ?w7 ?w8 ?w9 ?w10 ?w11 ?w12 ?w13 ?w14
    (case aW => k_is); (case a0 => k_is); (case l0 => k_is); (case c0 => k_is); (case k0 => k_is); (case a1 => k_is); (case l1 => k_is); (case c1 => k_is); (case k1 => k_is); (case a2 => k_is); (case l2 => k_is); (case c2 => k_is); (case k2 => k_is); (case a3 => k_is); (case l3 => k_is); (case c3 => k_is); (case k3 => k_is); (case a4 => k_is); (case l4 => k_is); (case c4 => k_is); (case k4 => k_is); (case a5 => k_is); (case l5 => k_is); (case c5 => k_is); (case k5 => k_is); (case a6 => k_is); (case l6 => k_is); (case c6 => k_is); (case k6 => k_is); (case a7 => k_is); (case l7 => k_is); (case c7 => k_is); (case k7 => k_is); (case a8 => k_is); (case l8 => k_is); (case c8 => k_is); (case k8 => k_is); (case a9 => k_is); (case l9 => k_is); (case c9 => k_is); (case k9 => k_is); (case a10 => k_is); (case l10 => k_is); (case c10 => k_is); (case k10 => k_is); (case a11 => k_is); (case l11 => k_is); (case c11 => k_is); (case k11 => k_is); (case a12 => k_is); (case l12 => k_is); (case c12 => k_is); (case k12 => k_is); (case a13 => k_is); (case l13 => k_is); (case c13 => k_is); (case k13 => k_is); (case a14 => k_is); (case l14 => k_is); (case c14 => k_is); (case k14 => k_is); (case a15 => k_is); (case l15 => k_is); (case c15 => k_is); (case k15 => k_is); (case a16 => k_is); (case l16 => k_is); (case c16 => k_is); (case k16 => k_is); (case a17 => k_is); (case l17 => k_is); (case c17 => k_is); (case k17 => k_is); (case a18 => k_is); (case l18 => k_is); (case c18 => k_is); (case k18 => k_is); (case a19 => k_is); (case l19 => k_is); (case c19 => k_is); (case k19 => k_is); (case a20 => k_is); (case l20 => k_is); (case c20 => k_is); (case k20 => k_is); (case a21 => k_is); (case l21 => k_is); (case c21 => k_is); (case k21 => k_is); (case a22 => k_is); (case l22 => k_is); (case c22 => k_is); (case k22 => k_is); (case a23 => k_is); (case l23 => k_is); (case c23 => k_is); (case k23 => k_is); (case a24 => k_is); (case l24 => k_is); (case c24 => k_is); (case k24 => k_is); (case a25 => k_is); (case l25 => k_is); (case c25 => k_is); (case k25 => k_is); (case a26 => k_is); (case l26 => k_is); (case c26 => k_is); (case k26 => k_is); (case a27 => k_is); (case l27 => k_is); (case c27 => k_is); (case k27 => k_is); (case a28 => k_is); (case l28 => k_is); (case c28 => k_is); (case k28 => k_is); (case a29 => k_is); (case l29 => k_is); (case c29 => k_is); (case k29 => k_is); (case a30 => k_is); (case l30 => k_is); (case c30 => k_is); (case k30 => k_is); (case a31 => k_is); (case l31 => k_is); (case c31 => k_is); (case k31 => k_is); (case a32 => k_is); (case l32 => k_is); (case c32 => k_is); (case k32 => k_is); (case a33 => k_is); (case l33 => k_is); (case c33 => k_is); (case k33 => k_is); (case a34 => k_is); (case l34 => k_is); (case c34 => k_is); (case k34 => k_is); (case z_len => k_is); (case z_all => k_is); (case z_any => k_is); (case z_abs => k_is); (case z_int => k_is); (case z_bool => k_is); (case z_divmod => k_is); (case z_min => k_is); (case z_max => k_is); (case z_tuple => k_is); (case z_list => k_is); (case z_sorted => k_is); (case z_str => k_is); (case z_isinstance => k_is); (case z_enumerate => k_is); (case z_range => k_is); (case z_sum => k_is); (case z_zip => k_is); (case z_repr => k_is); (case z_set => k_is); (case v_MOST_PLACES => k_is); (case v_MOST_TIES => k_is); (case v_LETTERS => k_is); (case v_SIGNS => k_is); (case w1 => k_is); (case w2 => k_is); (case w3 => k_is); (case w4 => k_is); (case w5 => k_is); (case w6 => k_is); (case w7 => k_is); (case w8 => k_is); (case w9 => k_is); (case w10 => k_is); (case w11 => k_is); (case w12 => k_is); (case w13 => k_is); (case w14 => k_is)
