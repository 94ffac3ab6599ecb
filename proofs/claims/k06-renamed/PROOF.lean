import PyProof.Rows.All
import Wide.All
import OpenK.AllK
import Wide.FinOn
import HandS.ForMost
import HandS.Evl
import HandS.Lambda
import HandS.TupAny
import HandS.Deep
import HandS.Style
import KE.GoesNew
import KE.SortData
import KE.DataMinMax
import HandS.SetFor
import HandS.Strs
import HandS.IsInst
import HandS.DictComp
import PyProof.ListStr
import HandS.WordsDict
import KE.GoesMore
import HandS.Small
import HandS.Conv
import PyProof.TupleOfSeq
import HandS.TupMul
import HandS.Replace
import PyProof.StrLawsOcc
import PyProof.StrLawsIn
import HandS.TryOnly
import HandS.RaiseMore
import HandS.Wide
import PyProof.Rows.StrCountLaw
import HandS.WideBits
import HandS.Codes
import PyProof.ReprLen
import HandS.DictTup
import HandS.TupLen
import PyProof.Rows.TupDisplay
import HandS.ExcInit
import HandS.ExcCtx
import HandS.ExcField
import HandS.TryMany
import KE.KExcInit
import HandS.ExcOwn
import HandS.NestedK
import HandS.ExcIs
import KE.KExcIs
import HandS.EndTab
import HandS.ReplaceList
import PyProof.InstEq
import PyProof.P3Eq
import HandS.HotCalls
import HandS.DictEq
import KE.KDictZip
import KE.GoesZip
import PySem.Challenge.RW_webreckon_k06_whole_webs_renamed
set_option Elab.async false
set_option linter.all false
set_option maxRecDepth 100000
set_option maxHeartbeats 4000000
namespace G
open PySem L2
abbrev Ex := Evl.Ex
structure LamD where
  qual : Str
  params : Arguments
  body : Expr
  scope : Scope
def lam0 : LamD := ⟨"", { posonlyargs := [], args := [], vararg := none, kwonlyargs := [], kw_defaults := [], kwarg := none, defaults := [] }, .Constant .none 0 ⟨0, 0, 0, 0⟩, { kind := .function, names := [], isGenerator := false, isCoroutine := false }⟩
def LamO (a c' : Addr) (L : LamD) : HO := .ext fun h => ∃ (pm ctv : Value), h.get? a = some (PySem.W.kla_obj "<lambda>" L.qual L.params L.body L.scope [] pm c' ctv)
inductive D where
  | non | bl (b : Bool) | int (i : Int) | str (s : Str)
  | tup (ds : List D) | lst (ds : List D) | dic (kvs : List (Key × D)) | web (pl : Str) (ts : List Str) | fn (n : Str)
  | exc (n f : Str) (d : D) | dit (kds : List (List Key × D))
structure Gp where
  Cw : Addr
  ck : Nat → List V → Prop
  /-- tables of code objects, and the names of the lambdas made there -/
  T : List (Addr × Str)
  /-- the own exception classes by their names -/
  ex : Str → Addr := fun _ => 0
  /-- the lambdas without captured names -/
  lam : Str → LamD := fun _ => lam0
  /-- what the object of a dict with tuple keys holds: keys, where they stand, values -/
  dv : Obj → List (List Key × Addr × V) → Prop := fun _ _ => False
  /-- defs of the module that are data, by their names -/
  gf : Str → Option Addr := fun _ => none
def ditO (a : Addr) (o : Obj) : HO := .ext fun h => (a == sysModules) = false ∧ h.get? a = some o
def isT : HO → Bool
  | .tbl _ => true
  | _ => false
def Kp (o : HO) (x : Option HO) : Prop := if isT o = true then ∃ qs, x = some (.tbl qs) else x = some o
theorem Kp.of {o : HO} {x : Option HO} (h : x = some o) : Kp o x := by
  unfold Kp
  split
  · rename_i z
    cases o <;> first | exact ⟨_, h⟩ | cases z
  · exact h
theorem Kp.get {o : HO} {x : Option HO} (h : Kp o x) (n : isT o = false) : x = some o := by
  unfold Kp at h
  rw [n, if_neg (by decide)] at h
  exact h
theorem Kp.ne {o : HO} {x : Option HO} (h : Kp o x) : x ≠ none := fun z => by
  unfold Kp at h
  split at h
  · obtain ⟨qs, e⟩ := h; rw [z] at e; cases e
  · rw [z] at h; cases h
theorem Kp.trans {o : HO} {x y : Option HO} (h : Kp o x) (k : ∀ u, x = some u → Kp u y) : Kp o y := by
  cases n : isT o with
  | false =>
    exact k o (h.get n)
  | true =>
    unfold Kp at h ⊢
    rw [n, if_pos rfl] at h ⊢
    obtain ⟨qs, e⟩ := h
    have := k _ e
    unfold Kp at this
    rw [show isT (HO.tbl qs) = true from rfl, if_pos rfl] at this
    exact this
theorem no_code {o : HO} (n : ∀ φ, o ≠ .ext φ := by intro _ z; cases z) : ∀ c q, o ≠ LamX.CodeO c q := fun _ _ z => n _ z
mutual
inductive Rep (K : PySem.W.Frag) (g : Gp) (F : Hp) : D → V → Prop
  | non : Rep K g F .non .non
  | bl (b : Bool) : Rep K g F (.bl b) (.bl b)
  | int (i : Int) : Rep K g F (.int i) (.int i)
  | str (s : Str) : Rep K g F (.str s) (.str s)
  | tup {a : Addr} {xs : List V} {ds : List D} : SqT K F a xs → RepL K g F ds xs → Rep K g F (.tup ds) (.ref a)
  | lst {a : Addr} {xs : List V} {ds : List D} : F a = some (.lst xs) → RepL K g F ds xs → Rep K g F (.lst ds) (.ref a)
  | dic {a : Addr} {kvs : List (Key × V)} {kds : List (Key × D)} : F a = some (.dK kvs) → kvs.map (·.1) = kds.map (·.1) → RepL K g F (kds.map (·.2)) (kvs.map (·.2)) → Rep K g F (.dic kds) (.ref a)
  | web {a dx t : Addr} {pl : Str} {ts : List Str} : F a = some (.ins g.Cw dx [("places", .str pl), ("ties", .ref t)]) → SqT K F t (ts.map V.str) → Rep K g F (.web pl ts) (.ref a)
  | fn {a c' : Addr} {n : Str} : g.gf n = none → F a = some (LamO a c' (g.lam n)) → F c' = some (LamX.CodeO c' (g.lam n).qual) → Rep K g F (.fn n) (.ref a)
  | gfn {a : Addr} {n : Str} : g.gf n = some a → Rep K g F (.fn n) (.ref a)
  | exc {a dd : Addr} {oe : Obj} {fv : Array Value} {n f : Str} {d : D} {v : V} : F a = some (.frz oe (.ext fun _ => True)) → Zc (.ref (g.ex n)) (some dd) oe → oe.data = .fields fv → F dd = some (.xd [(f, v)]) → Rep K g F d v → Rep K g F (.exc n f d) (.ref a)
  | dit {a : Addr} {o : Obj} {xs : List (List Key × Addr × V)} {kds : List (List Key × D)} : F a = some (ditO a o) → g.dv o xs → xs.map (·.1) = kds.map (·.1) → (∀ x ∈ xs, SqT K F x.2.1 (x.1.map kV)) → RepL K g F (kds.map (·.2)) (xs.map (·.2.2)) → Rep K g F (.dit kds) (.ref a)
inductive RepL (K : PySem.W.Frag) (g : Gp) (F : Hp) : List D → List V → Prop
  | nil : RepL K g F [] []
  | cons {d : D} {v : V} {ds : List D} {vs : List V} : Rep K g F d v → RepL K g F ds vs → RepL K g F (d :: ds) (v :: vs)
end
section
variable {K : PySem.W.Frag} {g : Gp} {F F' H H' : Hp}
mutual
theorem Rep.mono (e : Ex F F') : ∀ {d : D} {v : V}, Rep K g F d v → Rep K g F' d v
  | _, _, .non => .non
  | _, _, .bl b => .bl b
  | _, _, .int i => .int i
  | _, _, .str s => .str s
  | _, _, .tup h r => .tup (Evl.ex_t e h) (RepL.mono e r)
  | _, _, .lst h r => .lst (e _ _ h) (RepL.mono e r)
  | _, _, .dic h k r => .dic (e _ _ h) k (RepL.mono e r)
  | _, _, .web h r => .web (e _ _ h) (Evl.ex_t e r)
  | _, _, .fn h0 h h2 => .fn h0 (e _ _ h) (e _ _ h2)
  | _, _, .gfn h => .gfn h
  | _, _, .exc h1 h2 h3 h4 r => .exc (e _ _ h1) h2 h3 (e _ _ h4) (Rep.mono e r)
  | _, _, .dit h1 h2 h3 h4 r => .dit (e _ _ h1) h2 h3 (fun x hx => Evl.ex_t e (h4 x hx)) (RepL.mono e r)
theorem RepL.mono (e : Ex F F') : ∀ {ds : List D} {vs : List V}, RepL K g F ds vs → RepL K g F' ds vs
  | _, _, .nil => .nil
  | _, _, .cons h t => .cons (Rep.mono e h) (RepL.mono e t)
end
theorem RepL.length : ∀ {ds : List D} {vs : List V}, RepL K g F ds vs → vs.length = ds.length
  | _, _, .nil => rfl
  | _, _, .cons _ t => by rw [List.length_cons, List.length_cons, RepL.length t]
theorem RepL.append : ∀ {ds es : List D} {vs ws : List V}, RepL K g F ds vs → RepL K g F es ws → RepL K g F (ds ++ es) (vs ++ ws)
  | _, _, _, _, .nil, s => s
  | _, _, _, _, .cons h t, s => .cons h (RepL.append t s)
theorem RepL.get : ∀ {ds : List D} {vs : List V} {i : Nat} {d : D}, RepL K g F ds vs → ds[i]? = some d → ∃ v, vs[i]? = some v ∧ Rep K g F d v
  | _, _, _, _, .nil, e => by simp at e
  | _, _, 0, _, .cons h _, e => by simp at e; subst e; exact ⟨_, rfl, h⟩
  | _, _, i + 1, _, .cons _ t, e => by
    obtain ⟨v, h1, h2⟩ := RepL.get (i := i) t (by simpa using e)
    exact ⟨v, by simpa using h1, h2⟩
theorem RepL.take : ∀ {ds : List D} {vs : List V} (n : Nat), RepL K g F ds vs → RepL K g F (ds.take n) (vs.take n)
  | _, _, 0, _ => .nil
  | _, _, _ + 1, .nil => .nil
  | _, _, n + 1, .cons r t => .cons r (RepL.take n t)
theorem RepL.drop : ∀ {ds : List D} {vs : List V} (n : Nat), RepL K g F ds vs → RepL K g F (ds.drop n) (vs.drop n)
  | _, _, 0, r => r
  | _, _, _ + 1, .nil => .nil
  | _, _, n + 1, .cons _ t => RepL.drop n t
theorem RepL.eraseIdx : ∀ {ds : List D} {vs : List V} (n : Nat), RepL K g F ds vs → RepL K g F (ds.eraseIdx n) (vs.eraseIdx n)
  | _, _, _, .nil => .nil
  | _, _, 0, .cons _ t => t
  | _, _, n + 1, .cons h t => .cons h (RepL.eraseIdx n t)
theorem RepL.set {d : D} {v : V} (r : Rep K g F d v) : ∀ {ds : List D} {vs : List V} (n : Nat), RepL K g F ds vs → RepL K g F (ds.set n d) (vs.set n v)
  | _, _, _, .nil => .nil
  | _, _, 0, .cons _ t => .cons r t
  | _, _, n + 1, .cons h t => .cons h (RepL.set r n t)
theorem repL_strs : ∀ {ts : List Str} {vs : List V}, RepL K g F (ts.map D.str) vs → vs = ts.map V.str
  | [], _, .nil => rfl
  | _ :: _, _, .cons h t => by cases h; rw [repL_strs t]; rfl
theorem repL_ints : ∀ {ts : List Int} {vs : List V}, RepL K g F (ts.map D.int) vs → vs = ts.map V.int
  | [], _, .nil => rfl
  | _ :: _, _, .cons h t => by cases h; rw [repL_ints t]; rfl
theorem repL_bls : ∀ {ts : List Bool} {vs : List V}, RepL K g F (ts.map D.bl) vs → vs = ts.map V.bl
  | [], _, .nil => rfl
  | _ :: _, _, .cons h t => by cases h; rw [repL_bls t]; rfl
theorem repL_of_strs : ∀ (ts : List Str), RepL K g F (ts.map D.str) (ts.map V.str)
  | [] => .nil
  | x :: r => .cons (.str x) (repL_of_strs r)
end
def RepT (K : PySem.W.Frag) (g : Gp) (c : Option Addr) (F H : Hp) : D → V → Prop
  | .lst ds, v => ∃ p xs, v = .ref p ∧ H p = some (.lst xs) ∧ RepL K g F ds xs ∧ c ≠ some p
  | .dic kds, v => ∃ p kvs, v = .ref p ∧ H p = some (.dK kvs) ∧ kvs.map (·.1) = kds.map (·.1) ∧ RepL K g F (kds.map (·.2)) (kvs.map (·.2)) ∧ c ≠ some p
  | .dit kds, v => ∃ p o xs, v = .ref p ∧ H p = some (ditO p o) ∧ g.dv o xs ∧ xs.map (·.1) = kds.map (·.1) ∧ (∀ x ∈ xs, SqT K F x.2.1 (x.1.map kV)) ∧ RepL K g F (kds.map (·.2)) (xs.map (·.2.2)) ∧ c ≠ some p
  | d, v => Rep K g F d v
inductive Sl where
  | no | val (d : D) | ow (d : D) | cask | scr (ns : List Int) | tb (qs : List Addr) (rows : List (List D))
abbrev Sl.own (ds : List D) : Sl := .ow (.lst ds)
def Sl.vl : Sl → Option D
  | .val d => some d
  | _ => none
def Sl.rd : Sl → Option D
  | .val d => some d
  | .ow d => some d
  | _ => none
def ObR (K : PySem.W.Frag) (g : Gp) (F : Hp) (p : Addr) : D → HO → Prop
  | .lst ds, u => ∃ xs, u = .lst xs ∧ RepL K g F ds xs
  | .dic kds, u => ∃ kvs, u = .dK kvs ∧ kvs.map (·.1) = kds.map (·.1) ∧ RepL K g F (kds.map (·.2)) (kvs.map (·.2))
  | .dit kds, u => ∃ o xs, u = ditO p o ∧ g.dv o xs ∧ xs.map (·.1) = kds.map (·.1) ∧ (∀ x ∈ xs, SqT K F x.2.1 (x.1.map kV)) ∧ RepL K g F (kds.map (·.2)) (xs.map (·.2.2))
  | _, _ => False
inductive RowsR (K : PySem.W.Frag) (g : Gp) (c : Option Addr) (F H : Hp) : List (List D) → List Addr → Prop
  | nil : RowsR K g c F H [] []
  | cons {row : List D} {q : Addr} {xs : List V} {rows : List (List D)} {qs : List Addr} : F q = none → c ≠ some q → H q = some (.lst xs) → RepL K g F row xs → RowsR K g c F H rows qs → RowsR K g c F H (row :: rows) (q :: qs)
def SlR (K : PySem.W.Frag) (g : Gp) (c : Option Addr) (F H : Hp) : Sl → Option (Option V) → Prop
  | .no, _ => True
  | .val d, o => ∃ v, o = some (some v) ∧ Rep K g F d v
  | .ow d, o => ∃ p u, o = some (some (.ref p)) ∧ F p = none ∧ H p = some u ∧ ObR K g F p d u ∧ c ≠ some p
  | .cask, o => ∃ a, c = some a ∧ o = some (some (.ref a))
  | .scr ns, o => ∃ a, o = some (some (.ref a)) ∧ SqL K F a (ns.map V.int)
  | .tb qs rows, o => ∃ p, o = some (some (.ref p)) ∧ F p = none ∧ c ≠ some p ∧ H p = some (.lst (qs.map V.ref)) ∧ p ∉ qs ∧ qs.Nodup ∧ RowsR K g c F H rows qs
def Sl.adr : Sl → Option (Option V) → List Addr
  | .ow _, some (some (.ref p)) => [p]
  | .tb qs _, some (some (.ref p)) => p :: qs
  | _, _ => []
theorem ObR.mono {K : PySem.W.Frag} {g : Gp} {F F' : Hp} (e : Ex F F') {p : Addr} {d : D} {u : HO} (h : ObR K g F p d u) : ObR K g F' p d u := by
  cases d with
  | lst ds => obtain ⟨xs, h1, h2⟩ := h; exact ⟨xs, h1, RepL.mono e h2⟩
  | dic kds => obtain ⟨kvs, h1, h2, h3⟩ := h; exact ⟨kvs, h1, h2, RepL.mono e h3⟩
  | dit kds => obtain ⟨o, xs, h1, h2, h3, h4, h5⟩ := h; exact ⟨o, xs, h1, h2, h3, fun x hx => Evl.ex_t e (h4 x hx), RepL.mono e h5⟩
  | _ => exact h
theorem ObR.nt {K : PySem.W.Frag} {g : Gp} {F : Hp} {p : Addr} {d : D} {u : HO} (h : ObR K g F p d u) : isT u = false := by
  cases d with
  | lst ds => obtain ⟨xs, rfl, _⟩ := h; rfl
  | dic kds => obtain ⟨kvs, rfl, _⟩ := h; rfl
  | dit kds => obtain ⟨o, xs, rfl, _⟩ := h; rfl
  | _ => exact h.elim
theorem SlR.own' {K : PySem.W.Frag} {g : Gp} {c : Option Addr} {F H : Hp} {ds : List D} {o : Option (Option V)} (h : SlR K g c F H (.own ds) o) : ∃ p xs, o = some (some (.ref p)) ∧ F p = none ∧ H p = some (.lst xs) ∧ RepL K g F ds xs ∧ c ≠ some p := by
  obtain ⟨p, u, h1, h2, h3, ⟨xs, rfl, h5⟩, h6⟩ := h
  exact ⟨p, xs, h1, h2, h3, h5, h6⟩
theorem RowsR.at {K : PySem.W.Frag} {g : Gp} {c : Option Addr} {F H : Hp} : ∀ {rows : List (List D)} {qs : List Addr} {a : Addr}, RowsR K g c F H rows qs → a ∈ qs → F a = none ∧ c ≠ some a ∧ ∃ u, H a = some u
  | _, _, a, .nil, h => by simp at h
  | _, _, a, .cons h1 h2 h3 _ t, h => by
    rcases List.mem_cons.mp h with rfl | h
    · exact ⟨h1, h2, _, h3⟩
    · exact t.at h
theorem RowsR.keep {K : PySem.W.Frag} {g : Gp} {c : Option Addr} {F H F' H' : Hp} (ex : Ex F F') : ∀ {rows : List (List D)} {qs : List Addr}, RowsR K g c F H rows qs → (∀ a ∈ qs, F' a = none ∧ H' a = H a) → RowsR K g c F' H' rows qs
  | _, _, .nil, _ => .nil
  | _, _, .cons h1 h2 h3 h4 t, k => .cons (k _ (by simp)).1 h2 (by rw [(k _ (by simp)).2]; exact h3) (RepL.mono ex h4) (t.keep ex fun a ha => k a (by simp [ha]))
theorem SlR.at {K : PySem.W.Frag} {g : Gp} {c : Option Addr} {F H : Hp} {s : Sl} {o : Option (Option V)} {a : Addr} (h : SlR K g c F H s o) (ha : a ∈ s.adr o) : F a = none ∧ c ≠ some a ∧ ∃ u, H a = some u := by
  cases s with
  | ow d =>
    obtain ⟨p, u, rfl, h1, h2, _, h4⟩ := h
    rw [show (Sl.ow d).adr (some (some (.ref p))) = [p] from rfl, List.mem_singleton] at ha
    subst ha
    exact ⟨h1, h4, u, h2⟩
  | tb qs rows =>
    obtain ⟨p, rfl, h1, h2, h3, _, _, h6⟩ := h
    rw [show (Sl.tb qs rows).adr (some (some (.ref p))) = p :: qs from rfl] at ha
    rcases List.mem_cons.mp ha with rfl | ha
    · exact ⟨h1, h2, _, h3⟩
    · exact h6.at ha
  | _ => simp [Sl.adr] at ha
theorem SlR.keep {K : PySem.W.Frag} {g : Gp} {c : Option Addr} {F H F' H' : Hp} (ex : Ex F F') {s : Sl} {o : Option (Option V)} (h : SlR K g c F H s o) (k : ∀ a ∈ s.adr o, F' a = none ∧ H' a = H a) : SlR K g c F' H' s o := by
  cases s with
  | no => trivial
  | val d => obtain ⟨v, e, r⟩ := h; exact ⟨v, e, r.mono ex⟩
  | ow d =>
    obtain ⟨p, u, rfl, h1, h2, h3, h4⟩ := h
    have := k p (by simp [Sl.adr])
    exact ⟨p, u, rfl, this.1, by rw [this.2]; exact h2, ObR.mono ex h3, h4⟩
  | cask => exact h
  | scr ns => obtain ⟨a, e, r⟩ := h; exact ⟨a, e, Evl.ex_l ex r⟩
  | tb qs rows =>
    obtain ⟨p, rfl, h1, h2, h3, h4, h5, h6⟩ := h
    have := k p (by simp [Sl.adr])
    exact ⟨p, rfl, this.1, h2, by rw [this.2]; exact h3, h4, h5, h6.keep ex fun a ha => k a (by simp [Sl.adr, ha])⟩
structure TabF (T : List (Addr × Str)) (F H : Hp) : Prop where
  tabs : ∀ p ∈ T, ∃ ps : Array Value, H p.1 = some (.tbl ps) ∧ TriplesOk ps.toList ∧ ∀ (pos : Pos) (cv : Value), codeAmong pos ps.toList = some cv → ∃ c, cv = .ref c ∧ F c = some (LamX.CodeO c p.2)
  nf : ∀ p ∈ T, F p.1 = none
theorem TabF.keep {T : List (Addr × Str)} {F H H' : Hp} (t : TabF T F H) (k : ∀ b o, H b = some o → (isT o = true ∨ ∃ c q, o = LamX.CodeO c q) → H' b = some o) : TabF T F H' := ⟨fun p hp => by
  obtain ⟨ps, h1, h2⟩ := t.tabs p hp
  exact ⟨ps, k _ _ h1 (.inl rfl), h2⟩, t.nf⟩
theorem TabF.mono {T : List (Addr × Str)} {F F' H : Hp} (t : TabF T F H) (e : Ex F F') (n : ∀ p ∈ T, F' p.1 = none) : TabF T F' H := ⟨fun p hp => by
  obtain ⟨ps, h1, h2, h3⟩ := t.tabs p hp
  exact ⟨ps, h1, h2, fun pos cv z => (h3 pos cv z).imp fun c z => ⟨z.1, e _ _ z.2⟩⟩, n⟩
theorem TabF.at {T : List (Addr × Str)} {F H : Hp} (t : TabF T F H) {p : Addr × Str} (hp : p ∈ T) : ∃ ps : Array Value, H p.1 = some (.tbl ps) := (t.tabs p hp).imp fun _ z => z.1
theorem TabF.upd {T : List (Addr × Str)} {F H : Hp} {D : Addr} {o u : HO} (t : TabF T F H) (h : H D = some o) (n : isT o = false) (n' : ∀ c q, o ≠ LamX.CodeO c q) : TabF T F (L2.upd H D u) := t.keep fun b v hb z => by
  have : b ≠ D := fun e => by
    subst e
    rw [h] at hb
    cases hb
    rcases z with z | ⟨c, q, z⟩
    · rw [n] at z; cases z
    · exact n' c q z
  rw [upd_ne this]; exact hb
theorem TabF.fix {T : List (Addr × Str)} {F H : Hp} {D : Addr} {o u : HO} (t : TabF T F H) (h : H D = some o) (hF : F D = none) (n : isT o = false := by rfl) : TabF T (L2.upd F D u) H := t.mono (Evl.Ex.new hF) fun p hp => by
  obtain ⟨ps, h1⟩ := t.at hp
  rw [upd_ne fun z => by rw [z, h] at h1; cases h1; cases n]
  exact t.nf p hp
structure Ck (g : Gp) (c : Option Addr) (m : Nat) (F H : Hp) : Prop where
  cask : ∀ a, c = some a → F a = none ∧ ∃ xs, H a = some (.lst xs) ∧ g.ck m xs
  tb : TabF g.T F H
instance {g : Gp} {c : Option Addr} {m : Nat} {F H : Hp} : CoeFun (Ck g c m F H) fun _ => ∀ a, c = some a → F a = none ∧ ∃ xs, H a = some (.lst xs) ∧ g.ck m xs := ⟨Ck.cask⟩
structure Rel (K : PySem.W.Frag) (g : Gp) (c : Option Addr) (F : Hp) (env : List Sl) (m : Nat) (σ : St) (H : Hp) : Prop where
  sub : Ex F H
  len : env.length = σ.length
  slot : ∀ (i : Nat) (s : Sl), env[i]? = some s → SlR K g c F H s σ[i]?
  sep : ∀ (i j : Nat) (si sj : Sl) (a : Addr), env[i]? = some si → env[j]? = some sj → a ∈ si.adr σ[i]? → a ∈ sj.adr σ[j]? → i = j
  ck : Ck g c m F H
structure New (F H F' H' : Hp) : Prop where
  ff : Ex F F'
  fh : Ex F' H'
  hh : Ex H H'
  new : ∀ a o, F' a = some o → F a = some o ∨ H a = none
structure Fresh (c : Option Addr) (F H F' H' : Hp) : Prop where
  ff : Ex F F'
  fh : Ex F' H'
  hk : ∀ a o, H a = some o → c ≠ some a → Kp o (H' a)
  new : ∀ a o, F' a = some o → F a = some o ∨ H a = none
  nc : ∀ a, c = some a → F' a = none
theorem Fresh.hh {c : Option Addr} {F H F' H' : Hp} (f : Fresh c F H F' H') (a : Addr) (o : HO) (h : H a = some o) (n : c ≠ some a) (t : isT o = false := by first | rfl | assumption) : H' a = some o := (f.hk a o h n).get t
theorem Fresh.sm {c : Option Addr} {F H F' H' : Hp} (f : Fresh c F H F' H') {a : Addr} {o : HO} (h : H a = some o) (n : c ≠ some a) (z : H' a = none) : False := (f.hk a o h n).ne z
section
variable {K : PySem.W.Frag} {g : Gp} {c : Option Addr} {F F' F1 F2 H H' H1 H2 : Hp} {env : List Sl} {m m' : Nat} {σ : St}
theorem New.refl (e : Ex F H) : New F H F H := ⟨fun _ _ h => h, e, fun _ _ h => h, fun _ _ h => .inl h⟩
theorem ex_none {F H : Hp} {p : Addr} (e : Ex F H) (h : H p = none) : F p = none := by
  cases q : F p with
  | none => rfl
  | some o => rw [e p o q] at h; cases h
theorem New.fix {p : Addr} {o : HO} (e : Ex F H) (hp : H p = none) : New F H (upd F p o) (upd H p o) where
  ff := Evl.Ex.new (ex_none e hp)
  fh := fun a u h => by
    by_cases q : a = p
    · subst q; rw [upd_same] at h ⊢; exact h
    · rw [upd_ne q] at h ⊢; exact e a u h
  hh := Evl.Ex.new hp
  new := fun a u h => by
    by_cases q : a = p
    · subst q; exact .inr hp
    · rw [upd_ne q] at h; exact .inl h
theorem New.lay {p : Addr} {o : HO} (e : Ex F H) (hp : H p = none) : New F H F (upd H p o) where
  ff := fun _ _ h => h
  fh := fun a u h => Evl.Ex.new hp a u (e a u h)
  hh := Evl.Ex.new hp
  new := fun a u h => .inl h
theorem New.trans (a : New F H F1 H1) (b : New F1 H1 F2 H2) : New F H F2 H2 where
  ff := a.ff.trans b.ff
  fh := b.fh
  hh := a.hh.trans b.hh
  new := fun x o h => by
    rcases b.new x o h with q | q
    · exact a.new x o q
    · exact .inr (ex_none a.hh q)
theorem Fresh.refl (e : Ex F H) (k : Ck g c m F H) : Fresh c F H F H := ⟨fun _ _ h => h, e, fun _ _ h _ => .of h, fun _ _ h => .inl h, fun a h => (k a h).1⟩
theorem Fresh.trans (a : Fresh c F H F1 H1) (b : Fresh c F1 H1 F2 H2) : Fresh c F H F2 H2 where
  ff := a.ff.trans b.ff
  fh := b.fh
  hk := fun x o h n => (a.hk x o h n).trans fun u hu => b.hk x u hu n
  nc := b.nc
  new := fun x o h => by
    rcases b.new x o h with q | q
    · exact a.new x o q
    · cases z : H x with
      | none => exact .inr rfl
      | some u =>
        by_cases n : c = some x
        · rw [b.nc x n] at h; cases h
        · exact (a.sm z n q).elim
theorem Ck.new (k : Ck g c m F H) (n : New F H F' H') : Ck g c m F' H' := ⟨fun a e => (by
  obtain ⟨h1, xs, h2, h3⟩ := k a e
  refine ⟨?_, xs, n.hh _ _ h2, h3⟩
  cases q : F' a with
  | none => rfl
  | some o =>
    rcases n.new a o q with z | z
    · rw [h1] at z; cases z
    · rw [h2] at z; cases z), (k.tb.keep fun b o h _ => n.hh b o h).mono n.ff fun p hp => by
  cases q : F' p.1 with
  | none => rfl
  | some o =>
    obtain ⟨ps, h1⟩ := k.tb.at hp
    rcases n.new _ o q with z | z
    · rw [k.tb.nf p hp] at z; cases z
    · rw [h1] at z; cases z⟩
theorem New.fresh (n : New F H F' H') (k : Ck g c m F H) : Fresh c F H F' H' :=
  ⟨n.ff, n.fh, fun a o h _ => .of (n.hh a o h), n.new, fun a e => (k.new n a e).1⟩
theorem RepT.of {d : D} {v : V} (e : Ex F H) (nc : ∀ a, c = some a → F a = none) (h : Rep K g F d v) : RepT K g c F H d v := by
  cases h with
  | lst h r => exact ⟨_, _, rfl, e _ _ h, r, fun z => by rw [nc _ z] at h; cases h⟩
  | non => exact .non
  | bl b => exact .bl b
  | int i => exact .int i
  | str s => exact .str s
  | tup h r => exact .tup h r
  | dic h k r => exact ⟨_, _, rfl, e _ _ h, k, r, fun z => by rw [nc _ z] at h; cases h⟩
  | web h r => exact .web h r
  | fn h0 h h2 => exact .fn h0 h h2
  | gfn h => exact .gfn h
  | exc h1 h2 h3 h4 r => exact .exc h1 h2 h3 h4 r
  | dit h1 h2 h3 h4 r => exact ⟨_, _, _, rfl, e _ _ h1, h2, h3, h4, r, fun z => by rw [nc _ z] at h1; cases h1⟩
theorem RepT.mono {d : D} {v : V} (n : Fresh c F H F' H') (h : RepT K g c F H d v) : RepT K g c F' H' d v := by
  cases d with
  | lst ds =>
    obtain ⟨p, xs, e, h1, h2, h3⟩ := h
    exact ⟨p, xs, e, n.hh _ _ h1 h3, RepL.mono n.ff h2, h3⟩
  | dic kds =>
    obtain ⟨p, xs, e, h1, hk, h2, h3⟩ := h
    exact ⟨p, xs, e, n.hh _ _ h1 h3, hk, RepL.mono n.ff h2, h3⟩
  | dit kds =>
    obtain ⟨p, o, xs, e, h1, h2, h3, h4, h5, h6⟩ := h
    exact ⟨p, o, xs, e, n.hh _ _ h1 h6, h2, h3, fun x hx => Evl.ex_t n.ff (h4 x hx), RepL.mono n.ff h5, h6⟩
  | _ => exact Rep.mono n.ff h
theorem dit_code {a : Addr} {o : Obj} : ∀ c q, ditO a o ≠ LamX.CodeO c q := fun c q z => by
  have e : (fun h : Heap => (a == sysModules) = false ∧ h.get? a = some o) = fun h : Heap => ∃ (oc : Obj) (vs : Array Value) (t : Tok), h.get? c = some oc ∧ oc.data = .fields vs ∧ vs[1]? = some (.str q t) := HO.ext.inj z
  have one : ∀ t : Tok, ({ cls := .none, data := .fields #[.none, .str q t] } : Obj) = o := fun t => by
    let ob : Obj := { cls := .none, data := .fields #[.none, .str q t] }
    let h : Heap := ⟨Array.replicate (c + 1) ob, {}⟩
    have all : ∀ a o, h.get? a = some o → o = ob := fun a o ho => by
      have h1 : (Array.replicate (c + 1) ob)[a]? = some o := (Heap.get?_some_iff.mp ho).1
      rw [Array.getElem?_replicate] at h1
      split at h1
      · exact (Option.some.inj h1).symm
      · cases h1
    have hc : h.get? c = some ob := Heap.get?_some_iff.mpr ⟨by
      show (Array.replicate (c + 1) ob)[c]? = some ob
      rw [Array.getElem?_replicate, if_pos (Nat.lt_succ_self c)], rfl⟩
    have r : (fun h : Heap => (a == sysModules) = false ∧ h.get? a = some o) h := by
      rw [e]
      exact ⟨ob, _, _, hc, rfl, rfl⟩
    exact (all _ _ r.2).symm
  have := (one 0).trans (one 1).symm
  injection this with _ _ h3
  injection h3 with h3
  have h4 := congrArg (fun x : Array Value => x[1]?) h3
  have h5 : some (Value.str q 0) = some (Value.str q 1) := h4
  injection h5 with h5
  injection h5 with _ h5
  cases h5
theorem SlR.at' {s : Sl} {o : Option (Option V)} {a : Addr} (h : SlR K g c F H s o) (ha : a ∈ s.adr o) : F a = none ∧ c ≠ some a ∧ ∃ u, H a = some u ∧ isT u = false ∧ ∀ c q, u ≠ LamX.CodeO c q := by
  cases s with
  | ow d =>
    obtain ⟨p, u, rfl, h1, h2, h3, h4⟩ := h
    rw [show (Sl.ow d).adr (some (some (.ref p))) = [p] from rfl, List.mem_singleton] at ha
    subst ha
    refine ⟨h1, h4, u, h2, ?_⟩
    cases d with
    | lst ds => obtain ⟨xs, rfl, _⟩ := h3; exact ⟨rfl, no_code⟩
    | dic kds => obtain ⟨kvs, rfl, _⟩ := h3; exact ⟨rfl, no_code⟩
    | dit kds => obtain ⟨o, xs, rfl, _⟩ := h3; exact ⟨rfl, dit_code⟩
    | _ => exact h3.elim
  | tb qs rows =>
    obtain ⟨p, rfl, h1, h2, h3, _, _, h6⟩ := h
    rw [show (Sl.tb qs rows).adr (some (some (.ref p))) = p :: qs from rfl] at ha
    rcases List.mem_cons.mp ha with rfl | ha
    · exact ⟨h1, h2, _, h3, rfl, no_code⟩
    · have : ∀ {rows : List (List D)} {qs : List Addr} {a : Addr}, RowsR K g c F H rows qs → a ∈ qs → F a = none ∧ c ≠ some a ∧ ∃ u, H a = some u ∧ isT u = false ∧ ∀ c q, u ≠ LamX.CodeO c q := by
        intro rows qs a r
        induction r with
        | nil => intro h; simp at h
        | cons h1 h2 h3 _ _ ih =>
          intro h
          rcases List.mem_cons.mp h with rfl | h
          · exact ⟨h1, h2, _, h3, rfl, no_code⟩
          · exact ih h
      exact this h6 ha
  | _ => simp [Sl.adr] at ha
theorem SlR.mono {s : Sl} {o : Option (Option V)} (n : Fresh c F H F' H') (h : SlR K g c F H s o) : SlR K g c F' H' s o := h.keep n.ff fun a ha => by
  obtain ⟨h1, h2, u, h3, ht, _⟩ := h.at' ha
  refine ⟨?_, by rw [h3, n.hh a u h3 h2 ht]⟩
  cases q : F' a with
  | none => rfl
  | some u2 =>
    rcases n.new a u2 q with z | z
    · rw [h1] at z; cases z
    · rw [h3] at z; cases z
theorem Rel.fresh (r : Rel K g c F env m σ H) (n : Fresh c F H F' H') (k : Ck g c m' F' H') : Rel K g c F' env m' σ H' :=
  ⟨n.fh, r.len, fun i s h => (r.slot i s h).mono n, r.sep, k⟩
theorem Rel.new (r : Rel K g c F env m σ H) (n : New F H F' H') : Rel K g c F' env m σ H' := r.fresh (n.fresh r.ck) (r.ck.new n)
theorem Rel.nc (r : Rel K g c F env m σ H) : ∀ a, c = some a → F a = none := fun a h => (r.ck a h).1
end
abbrev Env' := List Sl
abbrev DE := Env' → Nat → (D → Nat → Prop) → Prop
abbrev DT := Env' → Nat → (Bool → Nat → Prop) → Prop
abbrev DA := Env' → Nat → (List Sl → Nat → Prop) → Prop
abbrev DL := Env' → Nat → (List D → Nat → Prop) → Prop
def ArgsR (K : PySem.W.Frag) (g : Gp) (c : Option Addr) (F : Hp) : List Sl → List V → Prop := Paired fun s v => match s with
  | .val d => Rep K g F d v
  | .cask => ∃ a, c = some a ∧ v = .ref a
  | .scr ns => ∃ a, v = .ref a ∧ SqL K F a (ns.map V.int)
  | _ => False
section
variable (K : PySem.W.Frag) (g : Gp)
def tD (d : DE) : TE := fun σ H Q' => ∃ c F env m Q, Rel K g c F env m σ H ∧ d env m Q ∧
  ∀ v H' F' m' x, Rel K g c F' env m' σ H' → Fresh c F H F' H' → Rep K g F' x v → Q x m' → Q' v H'
def tB (d : DE) : TE := fun σ H Q' => ∃ c F env m Q, Rel K g c F env m σ H ∧ d env m Q ∧
  ∀ v H' F' m' x, Rel K g c F' env m' σ H' → Fresh c F H F' H' → RepT K g c F' H' x v → Q x m' → Q' v H'
def tN (d : DL) : TE := fun σ H Q' => ∃ c F env m Q, Rel K g c F env m σ H ∧ d env m Q ∧
  ∀ p H' F' m' ds xs, Rel K g c F' env m' σ H' → Fresh c F H F' H' → H p = none → F' p = none → c ≠ some p → H' p = some (.lst xs) → RepL K g F' ds xs → Q ds m' → Q' (.ref p) H'
def tT (d : DT) : TT := fun σ H Q' => ∃ c F env m Q, Rel K g c F env m σ H ∧ d env m Q ∧
  ∀ b H' F' m', Rel K g c F' env m' σ H' → Fresh c F H F' H' → Q b m' → Q' b H'
def tAr (d : DA) : TA := fun σ H Q' => ∃ c F env m Q, Rel K g c F env m σ H ∧ d env m Q ∧
  ∀ vs H' F' m' as, Rel K g c F' env m' σ H' → Fresh c F H F' H' → ArgsR K g c F' as vs → Q as m' → Q' vs H'
def RepTs (c : Option Addr) (F H : Hp) : List D → List V → Prop := Paired (RepT K g c F H)
def tAb (d : DL) : TA := fun σ H Q' => ∃ c F env m Q, Rel K g c F env m σ H ∧ d env m Q ∧
  ∀ vs H' F' m' ds, Rel K g c F' env m' σ H' → Fresh c F H F' H' → RepTs K g c F' H' ds vs → Q ds m' → Q' vs H'
end
def GE (g : Gp) (X : Cx) (e : Expr) (d : DE) : Prop := PE X e (tD X.K g d)
def GB (g : Gp) (X : Cx) (e : Expr) (d : DE) : Prop := PE X e (tB X.K g d)
def GN (g : Gp) (X : Cx) (e : Expr) (d : DL) : Prop := PE X e (tN X.K g d)
def GT (g : Gp) (X : Cx) (e : Expr) (d : DT) : Prop := PT X e (tT X.K g d)
def GA (g : Gp) (X : Cx) (es : List Expr) (d : DA) : Prop := PA X es (tAr X.K g d)
def GAb (g : Gp) (X : Cx) (es : List Expr) (d : DL) : Prop := PA X es (tAb X.K g d)
theorem PE.weak {X : Cx} {e : Expr} {t t' : TE} (h : PE X e t) (w : ∀ σ H Q, t' σ H Q → t σ H Q) : PE X e t' := ⟨fun pins s σ H Q I q => h.run pins s σ H Q I (w σ H Q q)⟩
theorem PT.weak {X : Cx} {e : Expr} {t t' : TT} (h : PT X e t) (w : ∀ σ H Q, t' σ H Q → t σ H Q) : PT X e t' := ⟨fun pins s σ H Q I q => h.run pins s σ H Q I (w σ H Q q)⟩
theorem PW.weak {X : Cx} {e : Expr} {t t' : TT} (h : PW X e t) (w : ∀ σ H Q, t' σ H Q → t σ H Q) : PW X e t' := ⟨fun wh pins s σ H Q I q => h.run wh pins s σ H Q I (w σ H Q q)⟩
theorem PA.weak {X : Cx} {es : List Expr} {t t' : TA} (h : PA X es t) (w : ∀ σ H Q, t' σ H Q → t σ H Q) : PA X es t' := ⟨fun pos pins s σ H Q I q => h.run pos pins s σ H Q I (w σ H Q q)⟩
theorem PS.weak {X : Cx} {e : Stmt} {t t' : TS} (h : PS X e t) (w : ∀ D σ H, t' D σ H → t D σ H) : PS X e t' := ⟨fun pins s σ H D I q => h.run pins s σ H D I (w D σ H q)⟩
theorem PSs.weak {X : Cx} {e : List Stmt} {t t' : TS} (h : PSs X e t) (w : ∀ D σ H, t' D σ H → t D σ H) : PSs X e t' := ⟨fun pins s σ H D I q => h.run pins s σ H D I (w D σ H q)⟩
section
variable {g : Gp} {X : Cx} {a b e : Expr} {es : List Expr} {da db d : DE} {pos : Pos}
theorem gb_e (h : GE g X e d) : GB g X e d := PE.weak h fun σ H Q ⟨c, F, env, m, Q1, r, hd, k⟩ => ⟨c, F, env, m, Q1, r, hd, fun v H' F' m' x r' f rep q => k v H' F' m' x r' f (RepT.of r'.sub r'.nc rep) q⟩
def dNew (d : DL) : DE := fun env m Q => d env m fun ds m' => Q (.lst ds) m'
theorem fix_fresh {K : PySem.W.Frag} {c : Option Addr} {F H F' H' : Hp} {p : Addr} {xs : List V} (f : Fresh c F H F' H') (h0 : H p = none) (hp : F' p = none) (hc : c ≠ some p) (h1 : H' p = some (.lst xs)) : Fresh c F H (upd F' p (.lst xs)) H' where
  ff := f.ff.trans (Evl.Ex.new hp)
  fh := fun a o z => by
    by_cases y : a = p
    · subst y; rw [upd_same] at z; rw [← z]; exact h1
    · rw [upd_ne y] at z; exact f.fh a o z
  hk := f.hk
  new := fun a o z => by
    by_cases y : a = p
    · subst y; exact .inr h0
    · rw [upd_ne y] at z; exact f.new a o z
  nc := fun a e => by
    have y : a ≠ p := fun q => hc (q ▸ e)
    rw [upd_ne y]; exact f.nc a e
theorem ge_n {d : DL} (h : GN g X e d) : GE g X e (dNew d) := PE.weak h fun σ H Q ⟨c, F, env, m, Q1, r, hd, k⟩ => ⟨c, F, env, m, _, r, hd, fun p H' F' m' ds xs r' f h0 hp hc h1 h2 q => by
  have n := fix_fresh (K := X.K) f h0 hp hc h1
  refine k _ H' _ m' _ (r.fresh n ⟨fun a e => ?_, r'.ck.tb.fix h1 hp⟩) n (.lst upd_same (RepL.mono (Evl.Ex.new hp) h2)) q
  exact ⟨n.nc a e, (r'.ck a e).2⟩⟩
end
end G
namespace G
open PySem L2
section
variable {K : PySem.W.Frag} {g : Gp} {c : Option Addr} {F H : Hp} {v : V}
theorem RepT.non' (h : RepT K g c F H .non v) : v = .non := by have h' : Rep K g F .non v := h; cases h'; rfl
theorem RepT.bl' {b : Bool} (h : RepT K g c F H (.bl b) v) : v = .bl b := by have h' : Rep K g F (.bl b) v := h; cases h'; rfl
theorem RepT.int' {i : Int} (h : RepT K g c F H (.int i) v) : v = .int i := by have h' : Rep K g F (.int i) v := h; cases h'; rfl
theorem RepT.str' {s : Str} (h : RepT K g c F H (.str s) v) : v = .str s := by have h' : Rep K g F (.str s) v := h; cases h'; rfl
theorem RepT.tup' {ds : List D} (h : RepT K g c F H (.tup ds) v) : ∃ a xs, v = .ref a ∧ SqT K F a xs ∧ RepL K g F ds xs := by
  have h' : Rep K g F (.tup ds) v := h
  cases h' with
  | tup q r => exact ⟨_, _, rfl, q, r⟩
theorem RepT.dic' {kds : List (Key × D)} (h : RepT K g c F H (.dic kds) v) : ∃ a kvs, v = .ref a ∧ H a = some (.dK kvs) ∧ kvs.map (·.1) = kds.map (·.1) ∧ RepL K g F (kds.map (·.2)) (kvs.map (·.2)) ∧ c ≠ some a := h
theorem RepT.web' {pl : Str} {ts : List Str} (h : RepT K g c F H (.web pl ts) v) : ∃ a dx t, v = .ref a ∧ F a = some (.ins g.Cw dx [("places", .str pl), ("ties", .ref t)]) ∧ SqT K F t (ts.map V.str) := by
  have h' : Rep K g F (.web pl ts) v := h
  cases h' with
  | web q r => exact ⟨_, _, _, rfl, q, r⟩
abbrev LL : Nat := 100000
theorem ll {n : Nat} (h : n ≤ LL) : n ≤ sizeLine := Evl.sz_of h
theorem ll' {n : Nat} (h : n < LL) : n < sizeLine := Evl.sz_lt h
end
def dVar (i : Nat) : DE := fun env m Q => ∃ d, (env[i]?).bind Sl.vl = some d ∧ Q d m
def dVarB (i : Nat) : DE := fun env m Q => ∃ d, (env[i]?).bind Sl.rd = some d ∧ Q d m
def dC (d : D) : DE := fun _ m Q => Q d m
section
variable {g : Gp} {X : Cx} {a b e : Expr} {es : List Expr} {da db d : DE} {pos : Pos}
theorem vl_some {env : Env'} {i : Nat} {d : D} (h : (env[i]?).bind Sl.vl = some d) : env[i]? = some (.val d) := by
  cases q : env[i]? with
  | none => rw [q] at h; cases h
  | some s =>
    rw [q] at h
    cases s with
    | val x => cases h; rfl
    | _ => cases h
theorem gv (i : Nat) {x : Str} (hN : X.N[i]? = some x := by rfl) (hv : Vis X.env.scope x := by first | exact Or.inl rfl | exact Or.inr (Or.inl rfl) | exact Or.inr (Or.inr rfl)) (hd : (x == ("__debug__" : Str)) = false := by decide)
    (hcd : (x == ("__classdict__" : Str)) = false := by decide) : GE g X (.Name x pos) (dVar i) := PE.weak (pe_var hN hv hd hcd) fun σ H Q ⟨c, F, env, m, Q1, r, ⟨d, hd, q⟩, k⟩ => by
  obtain ⟨v, e, rp⟩ := r.slot i _ (vl_some hd)
  exact ⟨v, e, k v H F m d r (Fresh.refl r.sub r.ck) rp q⟩
theorem gvb (i : Nat) {x : Str} (hN : X.N[i]? = some x := by rfl) (hv : Vis X.env.scope x := by first | exact Or.inl rfl | exact Or.inr (Or.inl rfl) | exact Or.inr (Or.inr rfl)) (hd : (x == ("__debug__" : Str)) = false := by decide)
    (hcd : (x == ("__classdict__" : Str)) = false := by decide) : GB g X (.Name x pos) (dVarB i) := PE.weak (pe_var hN hv hd hcd) fun σ H Q ⟨c, F, env, m, Q1, r, ⟨d, hd, q⟩, k⟩ => by
  cases z : env[i]? with
  | none => rw [z] at hd; cases hd
  | some s =>
    rw [z] at hd
    have w := r.slot i s z
    cases s with
    | val x =>
      cases hd
      obtain ⟨v, e, rp⟩ := w
      exact ⟨v, e, k v H F m _ r (Fresh.refl r.sub r.ck) (RepT.of r.sub r.nc rp) q⟩
    | ow d =>
      cases hd
      obtain ⟨p, u, e, h1, h2, h3, h4⟩ := w
      cases d with
      | lst ds =>
        obtain ⟨xs, rfl, h3⟩ := h3
        exact ⟨.ref p, e, k _ H F m (.lst ds) r (Fresh.refl r.sub r.ck) ⟨p, xs, rfl, h2, h3, h4⟩ q⟩
      | dic kds =>
        obtain ⟨kvs, rfl, hk, h3⟩ := h3
        exact ⟨.ref p, e, k _ H F m (.dic kds) r (Fresh.refl r.sub r.ck) ⟨p, kvs, rfl, h2, hk, h3, h4⟩ q⟩
      | dit kds =>
        obtain ⟨o, xs, rfl, h3⟩ := h3
        exact ⟨.ref p, e, k _ H F m (.dit kds) r (Fresh.refl r.sub r.ck) ⟨p, o, xs, rfl, h2, h3.1, h3.2.1, h3.2.2.1, h3.2.2.2, h4⟩ q⟩
      | _ => exact h3.elim
    | _ => cases hd
theorem ge_const {v : V} {t : TE} (h : PE X e (tC v)) (rp : ∀ F, Rep X.K g F d' v) : GE g X e (dC d') := PE.weak h fun σ H Q ⟨c, F, env, m, Q1, r, q, k⟩ => k v H F m _ r (Fresh.refl r.sub r.ck) (rp F) q
theorem ge_int {i j} : GE g X (.Constant (.int i) j pos) (dC (.int i)) := ge_const (t := fun _ _ _ => True) pe_int fun _ => .int i
theorem ge_str {x j} : GE g X (.Constant (.str x) j pos) (dC (.str x)) := ge_const (t := fun _ _ _ => True) pe_str fun _ => .str x
theorem ge_bl {x j} : GE g X (.Constant (.bool x) j pos) (dC (.bl x)) := ge_const (t := fun _ _ _ => True) pe_bl fun _ => .bl x
theorem ge_non {j} : GE g X (.Constant .none j pos) (dC .non) := ge_const (t := fun _ _ _ => True) pe_non fun _ => .non
theorem ge_globI {x : Str} {i : Int} {t : Tok} (hg : Gl X x) (hm : X.mg x = some (.int i t)) (hd : (x == ("__debug__" : Str)) = false := by decide) : GE g X (.Name x pos) (dC (.int i)) := ge_const (t := fun _ _ _ => True) (pe_glob (v := .int i) hg hm ⟨_, rfl⟩ hd) fun _ => .int i
theorem ge_globS {x : Str} {i : Str} {t : Tok} (hg : Gl X x) (hm : X.mg x = some (.str i t)) (hd : (x == ("__debug__" : Str)) = false := by decide) : GE g X (.Name x pos) (dC (.str i)) := ge_const (t := fun _ _ _ => True) (pe_glob (v := .str i) hg hm ⟨_, rfl⟩ hd) fun _ => .str i
def OpD (K : PySem.W.Frag) (g : Gp) (r : R2) (f : D → D → Option D) : Prop := ∀ (c : Option Addr) (F H : Hp) (x y z : D) (v w : V) (Q' : VK), Ex F H → (∀ a, c = some a → F a = none) →
  RepT K g c F H x v → RepT K g c F H y w → f x y = some z → (∀ v' H' F', New F H F' H' → Rep K g F' z v' → Q' v' H') → r v w H Q'
def dOp (f : D → D → Option D) (da db : DE) : DE := fun env m Q => da env m fun x m1 => db env m1 fun y m2 => ∃ z, f x y = some z ∧ Q z m2
theorem op_weak {r : R2} {f : D → D → Option D} (od : OpD X.K g r f) : ∀ σ H Q, tD X.K g (dOp f da db) σ H Q → tOp r (tB X.K g da) (tB X.K g db) σ H Q := fun σ H Q ⟨c, F, env, m, Q1, rl, hd, k⟩ =>
  ⟨c, F, env, m, _, rl, hd, fun v H1 F1 m1 x r1 f1 rp1 q1 => ⟨c, F1, env, m1, _, r1, q1, fun w H2 F2 m2 y r2 f2 rp2 ⟨z, hz, q2⟩ =>
    od c F2 H2 x y z v w Q r2.sub r2.nc (rp1.mono f2) rp2 hz fun v' H' F' n rp => k v' H' F' m2 z (r2.new n) ((f1.trans f2).trans (n.fresh r2.ck)) rp q2⟩⟩
theorem ge_op {op : Operator} {r : R2} {f : D → D → Option D} (ho : OpR X (binaryOp op) r) (od : OpD X.K g r f) (ha : GB g X a da) (hb : GB g X b db) : GE g X (.BinOp a op b pos) (dOp f da db) := PE.weak (pe_op ho ha hb) (op_weak od)
theorem ge_cmp {op : CmpOp} {r : R2} {f : D → D → Option D} (ho : OpR X (compareOp op) r) (od : OpD X.K g r f) (ha : GB g X a da) (hb : GB g X b db) (hm : behindInMarks op b = false) : GE g X (.Compare a [op] [b] pos) (dOp f da db) := PE.weak (pe_cmpR ho ha hb hm) (op_weak od)
def dTest (d : DE) : DT := fun env m Q => d env m fun x m1 => ∃ b, x = .bl b ∧ Q b m1
theorem test_weak {t : TE} (w : ∀ σ H Q, tD X.K g d σ H Q → t σ H Q) : ∀ σ H Q, tT X.K g (dTest d) σ H Q → tTest t σ H Q := fun σ H Q ⟨c, F, env, m, Q1, rl, hd, k⟩ => by
  refine w σ H _ ⟨c, F, env, m, _, rl, hd, fun v H' F' m' x r' f' rp q => ?_⟩
  obtain ⟨b, rfl, q⟩ := q
  cases rp
  exact ⟨b, rfl, k b H' F' m' r' f' q⟩
theorem gt_cmp {op : CmpOp} {r : R2} {f : D → D → Option D} (ho : OpR X (compareOp op) r) (od : OpD X.K g r f) (ha : GB g X a da) (hb : GB g X b db) (hm : behindInMarks op b = false) : GT g X (.Compare a [op] [b] pos) (dTest (dOp f da db)) :=
  PT.weak (pt_cmpR ho ha hb hm) (test_weak (op_weak od))
theorem gt_val (h : GE g X e d) (he : ∀ whole, isTrue e X.env whole = (do let v ← whole; standAt e.pos; holding [v] (truthy v)) := by intro _; rfl) : GT g X e (dTest d) :=
  PT.weak (pt_val h he) (test_weak (t := tD X.K g d) fun _ _ _ h => h)
def dChain (f f' : D → D → Option D) (da db dc : DE) : DE := fun env m Q => da env m fun x m1 => db env m1 fun y m2 => ∃ b, f x y = some (.bl b) ∧ if b = true then dc env m2 fun z m3 => ∃ u, f' y z = some u ∧ Q u m3 else Q (.bl false) m2
variable {cc : Expr} {dc : DE}
theorem chain_weak {r r' : R2} {f f' : D → D → Option D} (od : OpD X.K g r f) (od' : OpD X.K g r' f') (scal : ∀ x y b, f x y = some b → True) : ∀ σ H Q, tD X.K g (dChain f f' da db dc) σ H Q → tChain r r' (tB X.K g da) (tB X.K g db) (tB X.K g dc) σ H Q := fun σ H Q ⟨c, F, env, m, Q1, rl, hd, k⟩ =>
  ⟨c, F, env, m, _, rl, hd, fun v H1 F1 m1 x r1 f1 rp1 q1 => ⟨c, F1, env, m1, _, r1, q1, fun w H2 F2 m2 y r2 f2 rp2 ⟨b, hz, q2⟩ =>
    od c F2 H2 x y _ v w _ r2.sub r2.nc (rp1.mono f2) rp2 hz fun v' H' F' n rp => by
      cases rp
      refine ⟨b, rfl, ?_⟩
      have r3 := r2.new n
      have f3 := (f1.trans f2).trans (n.fresh r2.ck)
      cases b with
      | false => exact k _ H' F' m2 _ r3 f3 (.bl false) q2
      | true =>
        exact ⟨c, F', env, m2, _, r3, q2, fun u H4 F4 m4 z r4 f4 rp4 ⟨o, ho, q4⟩ =>
          od' c F4 H4 y z o w u Q r4.sub r4.nc ((rp2.mono (n.fresh r2.ck)).mono f4) rp4 ho fun v5 H5 F5 n5 rp5 => k v5 H5 F5 m4 o (r4.new n5) ((f3.trans f4).trans (n5.fresh r4.ck)) rp5 q4⟩⟩⟩
theorem ge_chain {op op' : CmpOp} {r r' : R2} {f f' : D → D → Option D} (ho : OpR X (compareOp op) r) (ho' : OpR X (compareOp op') r') (od : OpD X.K g r f) (od' : OpD X.K g r' f') (ha : GB g X a da) (hb : GB g X b db) (hc : GB g X cc dc)
    (hl : lastMarks [op, op'] [b, cc] = false := by with_unfolding_all rfl) : GE g X (.Compare a [op, op'] [b, cc] pos) (dChain f f' da db dc) :=
  PE.weak (pe_chain ho ho' ha hb hc hl) (chain_weak od od' fun _ _ _ _ => trivial)
variable {t u : DT} {rest : List Expr}
def GW (g : Gp) (X : Cx) (e : Expr) (d : DT) : Prop := PW X e (tT X.K g d)
def dAnd (t u : DT) : DT := fun env m Q => t env m fun b m1 => if b = true then u env m1 Q else Q false m1
def dOr (t u : DT) : DT := fun env m Q => t env m fun b m1 => if b = true then Q true m1 else u env m1 Q
def dNot (t : DT) : DT := fun env m Q => t env m fun b m1 => Q (!b) m1
theorem gw_pt (h : GW g X e t) : GT g X e t := PW.pt h
theorem gw_and1 (h : GT g X a t) : GW g X (.BoolOp .And [a] pos) t := pw_and1 h
theorem gw_or1 (h : GT g X a t) : GW g X (.BoolOp .Or [a] pos) t := pw_or1 h
theorem gw_and (ha : GT g X a t) (hb : GW g X (.BoolOp .And (b :: rest) pos) u) : GW g X (.BoolOp .And (a :: b :: rest) pos) (dAnd t u) := PW.weak (pw_and ha hb) fun σ H Q ⟨c, F, env, m, Q1, rl, hd, k⟩ =>
  ⟨c, F, env, m, _, rl, hd, fun x H1 F1 m1 r1 f1 q1 => by
    cases x with
    | true => exact ⟨c, F1, env, m1, _, r1, q1, fun y H2 F2 m2 r2 f2 q2 => k y H2 F2 m2 r2 (f1.trans f2) q2⟩
    | false => exact k false H1 F1 m1 r1 f1 q1⟩
theorem gw_or (ha : GT g X a t) (hb : GW g X (.BoolOp .Or (b :: rest) pos) u) : GW g X (.BoolOp .Or (a :: b :: rest) pos) (dOr t u) := PW.weak (pw_or ha hb) fun σ H Q ⟨c, F, env, m, Q1, rl, hd, k⟩ =>
  ⟨c, F, env, m, _, rl, hd, fun x H1 F1 m1 r1 f1 q1 => by
    cases x with
    | false => exact ⟨c, F1, env, m1, _, r1, q1, fun y H2 F2 m2 r2 f2 q2 => k y H2 F2 m2 r2 (f1.trans f2) q2⟩
    | true => exact k true H1 F1 m1 r1 f1 q1⟩
theorem gt_not (ha : GT g X a t) : GT g X (.UnaryOp .Not a pos) (dNot t) := PT.weak (pt_not ha) fun σ H Q ⟨c, F, env, m, Q1, rl, hd, k⟩ => ⟨c, F, env, m, _, rl, hd, fun x H1 F1 m1 r1 f1 q1 => k _ H1 F1 m1 r1 f1 q1⟩
def dIfE (t : DT) (da db : DE) : DE := fun env m Q => t env m fun b m1 => if b = true then da env m1 Q else db env m1 Q
theorem ge_if {t : DT} (hc : GT g X cc t) (ha : GE g X a da) (hb : GE g X b db) : GE g X (.IfExp cc a b pos) (dIfE t da db) := PE.weak (pe_ifExp hc ha hb) fun σ H Q ⟨c, F, env, m, Q1, rl, hd, k⟩ =>
  ⟨c, F, env, m, _, rl, hd, fun x H1 F1 m1 r1 f1 q1 => by
    cases x with
    | true => exact ⟨c, F1, env, m1, _, r1, q1, fun y H2 F2 m2 z r2 f2 rp q2 => k y H2 F2 m2 z r2 (f1.trans f2) rp q2⟩
    | false => exact ⟨c, F1, env, m1, _, r1, q1, fun y H2 F2 m2 z r2 f2 rp q2 => k y H2 F2 m2 z r2 (f1.trans f2) rp q2⟩⟩
def dAndV (da db : DE) : DE := fun env m Q => da env m fun x m1 => ∃ b, x = .bl b ∧ if b = true then db env m1 Q else Q (.bl false) m1
theorem ge_one {op} (h : GE g X a da) : GE g X (.BoolOp op [a] pos) da := pe_one h
theorem ge_and (ha : GE g X a da) (hb : GE g X (.BoolOp .And (b :: rest) pos) db) : GE g X (.BoolOp .And (a :: b :: rest) pos) (dAndV da db) := PE.weak (pe_and ha hb) fun σ H Q ⟨c, F, env, m, Q1, rl, hd, k⟩ =>
  ⟨c, F, env, m, _, rl, hd, fun v H1 F1 m1 x r1 f1 rp ⟨y, hy, q1⟩ => by
    subst hy
    cases rp
    refine ⟨y, rfl, ?_⟩
    cases y with
    | true => exact ⟨c, F1, env, m1, _, r1, q1, fun y H2 F2 m2 z r2 f2 rp q2 => k y H2 F2 m2 z r2 (f1.trans f2) rp q2⟩
    | false => exact k _ H1 F1 m1 _ r1 f1 (.bl false) q1⟩
def dNilA : DA := fun _ m Q => Q [] m
def dConsA (d : DE) (r : DA) : DA := fun env m Q => d env m fun x m1 => r env m1 fun as m2 => Q (.val x :: as) m2
def dConsC (i : Nat) (r : DA) : DA := fun env m Q => ∃ s, env[i]? = some s ∧ (s = .cask ∨ ∃ ns, s = .scr ns) ∧ r env m fun as m2 => Q (s :: as) m2
variable {dr : DA}
theorem ArgsR.mono {K : PySem.W.Frag} {c : Option Addr} {F F' : Hp} (e : Ex F F') : ∀ {as : List Sl} {vs : List V}, ArgsR K g c F as vs → ArgsR K g c F' as vs
  | _, _, .nil => .nil
  | s :: _, _, .cons h t => .cons (by
      cases s with
      | val d => exact Rep.mono e h
      | cask => exact h
      | scr ns => obtain ⟨a, e1, e2⟩ := h; exact ⟨a, e1, Evl.ex_l e e2⟩
      | no => exact h
      | ow ds => exact h
      | tb qs rows => exact h) (ArgsR.mono e t)
theorem ga_nil : GA g X [] dNilA := PA.weak pa_nil fun σ H Q ⟨c, F, env, m, Q1, rl, hd, k⟩ => k [] H F m [] rl (Fresh.refl rl.sub rl.ck) .nil hd
theorem ga_cons (ha : GE g X e d) (hr : GA g X es dr) (hs : starEach (e :: es) X.env = (false, eval e X.env) :: starEach es X.env := by rfl) : GA g X (e :: es) (dConsA d dr) := PA.weak (pa_cons ha hr hs) fun σ H Q ⟨c, F, env, m, Q1, rl, hd, k⟩ =>
  ⟨c, F, env, m, _, rl, hd, fun v H1 F1 m1 x r1 f1 rp q1 => ⟨c, F1, env, m1, _, r1, q1, fun vs H2 F2 m2 as r2 f2 rps q2 => k _ H2 F2 m2 _ r2 (f1.trans f2) (.cons (rp.mono f2.ff) rps) q2⟩⟩
theorem ga_cask (i : Nat) {x : Str} (hr : GA g X es dr) (hN : X.N[i]? = some x := by rfl) (hv : Vis X.env.scope x := by first | exact Or.inl rfl | exact Or.inr (Or.inl rfl) | exact Or.inr (Or.inr rfl)) (hd : (x == ("__debug__" : Str)) = false := by decide)
    (hcd : (x == ("__classdict__" : Str)) = false := by decide) (hs : starEach (.Name x pos :: es) X.env = (false, eval (.Name x pos) X.env) :: starEach es X.env := by rfl) : GA g X (.Name x pos :: es) (dConsC i dr) :=
  PA.weak (pa_cons (pe_var hN hv hd hcd) hr hs) fun σ H Q ⟨c, F, env, m, Q1, rl, ⟨s, e1, e2, q⟩, k⟩ => by
    have w := rl.slot i s e1
    rcases e2 with rfl | ⟨ns, rfl⟩
    · obtain ⟨a, ca, ea⟩ := w
      exact ⟨.ref a, ea, c, F, env, m, _, rl, q, fun vs H2 F2 m2 as r2 f2 rps q2 => k _ H2 F2 m2 (.cask :: as) r2 f2 (.cons ⟨a, ca, rfl⟩ rps) q2⟩
    · obtain ⟨a, ea, ca⟩ := w
      exact ⟨.ref a, ea, c, F, env, m, _, rl, q, fun vs H2 F2 m2 as r2 f2 rps q2 => k _ H2 F2 m2 (.scr ns :: as) r2 f2 (.cons ⟨a, rfl, Evl.ex_l f2.ff ca⟩ rps) q2⟩
def dNilL : DL := fun _ m Q => Q [] m
def dConsL (d : DE) (r : DL) : DL := fun env m Q => d env m fun x m1 => r env m1 fun ds m2 => Q (x :: ds) m2
variable {dl : DL}
theorem RepTs.mono {K : PySem.W.Frag} {c : Option Addr} {F F' H H' : Hp} (n : Fresh c F H F' H') : ∀ {ds : List D} {vs : List V}, RepTs K g c F H ds vs → RepTs K g c F' H' ds vs
  | _, _, .nil => .nil
  | _, _, .cons h t => .cons (h.mono n) (RepTs.mono n t)
theorem gab_nil : GAb g X [] dNilL := PA.weak pa_nil fun σ H Q ⟨c, F, env, m, Q1, rl, hd, k⟩ => k [] H F m [] rl (Fresh.refl rl.sub rl.ck) .nil hd
theorem gab_cons (ha : GB g X e d) (hr : GAb g X es dl) (hs : starEach (e :: es) X.env = (false, eval e X.env) :: starEach es X.env := by rfl) : GAb g X (e :: es) (dConsL d dl) := PA.weak (pa_cons ha hr hs) fun σ H Q ⟨c, F, env, m, Q1, rl, hd, k⟩ =>
  ⟨c, F, env, m, _, rl, hd, fun v H1 F1 m1 x r1 f1 rp q1 => ⟨c, F1, env, m1, _, r1, q1, fun vs H2 F2 m2 as r2 f2 rps q2 => k _ H2 F2 m2 _ r2 (f1.trans f2) (.cons (rp.mono f2) rps) q2⟩⟩
def tAl (K : PySem.W.Frag) (g : Gp) (d : DL) : TA := fun σ H Q' => ∃ c F env m Q, Rel K g c F env m σ H ∧ d env m Q ∧
  ∀ vs H' F' m' ds, Rel K g c F' env m' σ H' → Fresh c F H F' H' → RepL K g F' ds vs → Q ds m' → Q' vs H'
def GAl (g : Gp) (X : Cx) (es : List Expr) (d : DL) : Prop := PA X es (tAl X.K g d)
theorem gal_nil : GAl g X [] dNilL := PA.weak pa_nil fun σ H Q ⟨c, F, env, m, Q1, rl, hd, k⟩ => k [] H F m [] rl (Fresh.refl rl.sub rl.ck) .nil hd
theorem gal_cons (ha : GE g X e d) (hr : GAl g X es dl) (hs : starEach (e :: es) X.env = (false, eval e X.env) :: starEach es X.env := by rfl) : GAl g X (e :: es) (dConsL d dl) := PA.weak (pa_cons ha hr hs) fun σ H Q ⟨c, F, env, m, Q1, rl, hd, k⟩ =>
  ⟨c, F, env, m, _, rl, hd, fun v H1 F1 m1 x r1 f1 rp q1 => ⟨c, F1, env, m1, _, r1, q1, fun vs H2 F2 m2 as r2 f2 rps q2 => k _ H2 F2 m2 _ r2 (f1.trans f2) (.cons (rp.mono f2.ff) rps) q2⟩⟩
def dTup (d : DL) : DE := fun env m Q => d env m fun ds m1 => ds.length ≤ LL ∧ Q (.tup ds) m1
def dLst (d : DL) : DL := fun env m Q => d env m fun ds m1 => ds.length ≤ LL ∧ Q ds m1
theorem ge_tup {x1} (h : GAl g X es dl) : GE g X (.Tuple es x1 pos) (dTup dl) := PE.weak (pe_tup h) fun σ H Q ⟨c, F, env, m, Q1, rl, hd, k⟩ =>
  ⟨c, F, env, m, _, rl, hd, fun vs H1 F1 m1 ds r1 f1 rp ⟨hz, q1⟩ => ⟨ll (by rw [rp.length]; exact hz), fun p hp => by
    have n := New.fix (F := F1) (o := .tup vs) r1.sub hp
    exact k _ _ _ m1 _ (r1.new n) (f1.trans (n.fresh r1.ck)) (.tup (SqT.of upd_same) (rp.mono n.ff)) q1⟩⟩
theorem gn_lst (h : GAl g X es dl) : GN g X (.List es pos) (dLst dl) := PE.weak (pe_lst h) fun σ H Q ⟨c, F, env, m, Q1, rl, hd, k⟩ =>
  ⟨c, F, env, m, _, rl, hd, fun vs H1 F1 m1 ds r1 f1 rp ⟨hz, q1⟩ => ⟨ll (by rw [rp.length]; exact hz), fun p hp => by
    have n := New.lay (F := F1) (o := .lst vs) r1.sub hp
    refine k p _ _ m1 ds vs (r1.new n) (f1.trans (n.fresh r1.ck)) ?_ (ex_none r1.sub hp) (fun z => ?_) upd_same rp q1
    · cases q : H p with
      | none => rfl
      | some o =>
        by_cases z : c = some p
        · obtain ⟨_, _, e, _⟩ := r1.ck p z; rw [e] at hp; cases hp
        · exact (f1.sm q z hp).elim
    · obtain ⟨_, _, e, _⟩ := r1.ck p z; rw [e] at hp; cases hp⟩⟩
end
end G
namespace G
open PySem L2
def addD : D → D → Option D
  | .int i, .int j => some (.int (i + j))
  | .str a, .str b => if a.length + b.length ≤ LL then some (.str (a ++ b)) else none
  | .tup a, .tup b => if a.length + b.length ≤ LL then some (.tup (a ++ b)) else none
  | .lst a, .lst b => if a.length + b.length ≤ LL then some (.lst (a ++ b)) else none
  | _, _ => none
def subD : D → D → Option D
  | .int i, .int j => some (.int (i - j))
  | _, _ => none
def mulD : D → D → Option D
  | .int i, .int j => if (-(2 ^ 64) < i ∧ i < 2 ^ 64) ∨ (-(2 ^ 64) < j ∧ j < 2 ^ 64) then some (.int (i * j)) else none
  | .lst ds, .int k => if 0 ≤ k ∧ k ≤ 1000 ∧ ds.length * k.toNat ≤ LL then some (.lst (List.replicate k.toNat ds).flatten) else none
  | _, _ => none
def fdivD : D → D → Option D
  | .int i, .int j => if 0 < j ∧ j < 1073741824 then some (.int (i / j)) else none
  | _, _ => none
def modD : D → D → Option D
  | .int i, .int j => if 0 < j then some (.int (i % j)) else none
  | _, _ => none
def sLt (a b : Str) : Bool := decide (a.cps.toList < b.cps.toList)
def ltD : D → D → Option D
  | .int i, .int j => some (.bl (decide (i < j)))
  | .str a, .str b => some (.bl (sLt a b))
  | _, _ => none
def leD : D → D → Option D
  | .int i, .int j => some (.bl (decide (i ≤ j)))
  | .str a, .str b => some (.bl (!sLt b a))
  | _, _ => none
section
variable {K : PySem.W.Frag} {g : Gp}
theorem od_I0 {f : Int → Int → V} {fd : Int → Int → D} {r : D → D → Option D} (h : ∀ x y z, r x y = some z → ∃ i j, x = .int i ∧ y = .int j ∧ z = fd i j) (hf : ∀ F i j, Rep K g F (fd i j) (f i j)) : OpD K g (rI0 f) r := fun c F H x y z v w Q' e nc rx ry hz k => by
  obtain ⟨i, j, rfl, rfl, rfl⟩ := h x y z hz
  exact ⟨i, j, rx.int', ry.int', k _ H F (New.refl e) (hf F i j)⟩
theorem od_I {C : Int → Int → Prop} {f : Int → Int → V} {fd : Int → Int → D} {r : D → D → Option D} (h : ∀ x y z, r x y = some z → ∃ i j, x = .int i ∧ y = .int j ∧ C i j ∧ z = fd i j) (hf : ∀ F i j, Rep K g F (fd i j) (f i j)) : OpD K g (rI C f) r := fun c F H x y z v w Q' e nc rx ry hz k => by
  obtain ⟨i, j, rfl, rfl, hc, rfl⟩ := h x y z hz
  exact ⟨i, j, rx.int', ry.int', hc, k _ H F (New.refl e) (hf F i j)⟩
theorem od_or {r r' : R2} {f f1 f2 : D → D → Option D} (h : OpD K g r f1) (h' : OpD K g r' f2) (hf : ∀ x y z, f x y = some z → f1 x y = some z ∨ f2 x y = some z) : OpD K g (fun x y H Q => r x y H Q ∨ r' x y H Q) f := fun c F H x y z v w Q' e nc rx ry hz k => by
  rcases hf x y z hz with q | q
  · exact .inl (h c F H x y z v w Q' e nc rx ry q k)
  · exact .inr (h' c F H x y z v w Q' e nc rx ry q k)
def addI : D → D → Option D | .int i, .int j => some (.int (i + j)) | _, _ => none
def addS : D → D → Option D | .str a, .str b => if a.length + b.length ≤ LL then some (.str (a ++ b)) else none | _, _ => none
def addT : D → D → Option D | .tup a, .tup b => if a.length + b.length ≤ LL then some (.tup (a ++ b)) else none | _, _ => none
def addL : D → D → Option D | .lst a, .lst b => if a.length + b.length ≤ LL then some (.lst (a ++ b)) else none | _, _ => none
def rAddS : R2 := fun x y H Q => ∃ i j, x = .str i ∧ y = .str j ∧ i.length + j.length ≤ sizeLine ∧ Q (.str (i ++ j)) H
theorem od_addS : OpD K g rAddS addS := fun c F H x y z v w Q' e nc rx ry hz k => by
  unfold addS at hz
  split at hz
  · split at hz
    · rename_i h
      cases hz
      exact ⟨_, _, rx.str', ry.str', ll h, k _ H F (New.refl e) (.str _)⟩
    · cases hz
  · cases hz
theorem od_addT : OpD K g (rCatA K) addT := fun c F H x y z v w Q' e nc rx ry hz k => by
  unfold addT at hz
  split at hz
  · rename_i a b
    split at hz
    · rename_i h
      cases hz
      obtain ⟨p, xs, e1, h1, r1⟩ := rx.tup'
      obtain ⟨q, ys, e2, h2, r2⟩ := ry.tup'
      refine ⟨p, q, xs, ys, e1, e2, Evl.ex_t e h1, Evl.ex_t e h2, ll (by rw [r1.length, r2.length]; exact h), fun ex => ?_, fun ex ey => ?_, fun ex ey t ht => ?_⟩
      · subst ex; cases r1; exact k _ H F (New.refl e) (.tup h2 r2)
      · subst ey; cases r2; rw [List.append_nil] at k; exact k _ H F (New.refl e) (.tup h1 r1)
      · have n := New.fix (o := .tup (xs ++ ys)) e ht
        exact k _ _ _ n (.tup (SqT.of upd_same) ((r1.append r2).mono n.ff))
    · cases hz
  · cases hz
theorem od_addL : OpD K g rCat addL := fun c F H x y z v w Q' e nc rx ry hz k => by
  unfold addL at hz
  split at hz
  · rename_i a b
    split at hz
    · rename_i h
      cases hz
      obtain ⟨p, xs, e1, h1, r1, _⟩ := rx
      obtain ⟨q, ys, e2, h2, r2, _⟩ := ry
      refine ⟨p, q, xs, ys, e1, e2, h1, h2, ll (by rw [r1.length, r2.length]; exact h), fun t ht => ?_⟩
      have n := New.fix (o := .lst (xs ++ ys)) e ht
      exact k _ _ _ n (.lst upd_same ((r1.append r2).mono n.ff))
    · cases hz
  · cases hz
def rAddG (K : PySem.W.Frag) : R2 := fun x y H Q => rI0 (fun i j => .int (i + j)) x y H Q ∨ (rAddS x y H Q ∨ (rCatA K x y H Q ∨ rCat x y H Q))
theorem or_add {X : Cx} : OpR X (binaryOp .Add) (rAddG X.K) := op_add.or (OpR.or (r := rAddS) op_add_str (op_catA.or op_cat))
theorem od_add : OpD K g (rAddG K) addD := od_or (f1 := addI) (f2 := fun x y => match addS x y with | some z => some z | none => match addT x y with | some z => some z | none => addL x y)
    (od_I0 (fun x y z h => by unfold addI at h; split at h; · cases h; exact ⟨_, _, rfl, rfl, rfl⟩
                              · cases h) fun F i j => .int _)
    (od_or (f1 := addS) (f2 := fun x y => match addT x y with | some z => some z | none => addL x y) od_addS (od_or (f1 := addT) (f2 := addL) od_addT od_addL (fun x y z h => by
      split at h
      · rename_i q; left; rw [q]; exact h
      · exact .inr h)) (fun x y z h => by
      split at h
      · rename_i q; left; rw [q]; exact h
      · exact .inr h)) (fun x y z h => by
      cases x <;> cases y <;> simp only [addD, addI, addS, addT, addL] at h ⊢ <;> first | exact .inl h | (right; rw [h]) | (right; exact h) | (cases h))
theorem od_sub : OpD K g (rI0 fun i j => .int (i - j)) subD := od_I0 (fun x y z h => by
  unfold subD at h; split at h
  · cases h; exact ⟨_, _, rfl, rfl, rfl⟩
  · cases h) fun F i j => .int _
def mulI : D → D → Option D | .int i, .int j => if (-(2 ^ 64) < i ∧ i < 2 ^ 64) ∨ (-(2 ^ 64) < j ∧ j < 2 ^ 64) then some (.int (i * j)) else none | _, _ => none
def mulL : D → D → Option D | .lst ds, .int k => if 0 ≤ k ∧ k ≤ 1000 ∧ ds.length * k.toNat ≤ LL then some (.lst (List.replicate k.toNat ds).flatten) else none | _, _ => none
theorem RepL.rep {F : Hp} {ds : List D} {xs : List V} (h : RepL K g F ds xs) : ∀ k : Nat, RepL K g F (List.replicate k ds).flatten (List.replicate k xs).flatten
  | 0 => .nil
  | k + 1 => by rw [List.replicate_succ, List.replicate_succ, List.flatten_cons, List.flatten_cons]; exact h.append (RepL.rep h k)
theorem od_mulL : OpD K g rRep mulL := fun c F H x y z v w Q' e nc rx ry hz k => by
  unfold mulL at hz
  split at hz
  · rename_i ds j
    split at hz
    · rename_i h
      cases hz
      obtain ⟨p, xs, e1, h1, r1, _⟩ := rx
      refine ⟨p, j, xs, e1, ry.int', h1, by omega, by omega, ll (by rw [r1.length]; exact h.2.2), fun t ht => ?_⟩
      have n := New.fix (o := .lst (List.replicate j.toNat xs).flatten) e ht
      exact k _ _ _ n (.lst upd_same ((r1.rep _).mono n.ff))
    · cases hz
  · cases hz
theorem or_mul {X : Cx} : OpR X (binaryOp .Mult) (fun x y H Q => rI CMul (fun i j => .int (i * j)) x y H Q ∨ rRep x y H Q) := op_mul.or op_rep
theorem od_mul : OpD K g (fun x y H Q => rI CMul (fun i j => .int (i * j)) x y H Q ∨ rRep x y H Q) mulD := od_or (f1 := mulI) (f2 := mulL) (od_I (fun x y z h => by
  unfold mulI at h; split at h
  · split at h
    · cases h; exact ⟨_, _, rfl, rfl, ‹_›, rfl⟩
    · cases h
  · cases h) fun F i j => .int _) od_mulL (fun x y z h => by
      cases x <;> cases y <;> simp only [mulD, mulI, mulL] at h ⊢ <;> first | exact .inl h | exact .inr h | (cases h))
theorem od_fdiv : OpD K g (rI CDiv fun i j => .int (i / j)) fdivD := od_I (fun x y z h => by
  unfold fdivD at h; split at h
  · split at h
    · cases h; exact ⟨_, _, rfl, rfl, ‹_›, rfl⟩
    · cases h
  · cases h) fun F i j => .int _
theorem od_mod : OpD K g (rI (fun _ j => 0 < j) fun i j => .int (i % j)) modD := od_I (fun x y z h => by
  unfold modD at h; split at h
  · split at h
    · cases h; exact ⟨_, _, rfl, rfl, ‹_›, rfl⟩
    · cases h
  · cases h) fun F i j => .int _
def rSS (f : Str → Str → V) : R2 := fun x y H Q => ∃ i j, x = .str i ∧ y = .str j ∧ Q (f i j) H
abbrev rCmp (fi : Int → Int → V) (fs : Str → Str → V) : R2 := fun x y H Q => rI0 fi x y H Q ∨ rSS fs x y H Q
theorem od_cmp {fi : Int → Int → Bool} {fs : Str → Str → Bool} {f : D → D → Option D} (h : ∀ x y z, f x y = some z → (∃ i j, x = .int i ∧ y = .int j ∧ z = .bl (fi i j)) ∨ (∃ i j, x = .str i ∧ y = .str j ∧ z = .bl (fs i j))) :
    OpD K g (rCmp (fun i j => .bl (fi i j)) (fun i j => .bl (fs i j))) f := fun c F H x y z v w Q' e nc rx ry hz k => by
  rcases h x y z hz with ⟨i, j, rfl, rfl, rfl⟩ | ⟨i, j, rfl, rfl, rfl⟩
  · exact .inl ⟨i, j, rx.int', ry.int', k _ H F (New.refl e) (.bl _)⟩
  · exact .inr ⟨i, j, rx.str', ry.str', k _ H F (New.refl e) (.bl _)⟩
variable {X : Cx}
theorem or_lt : OpR X (compareOp .Lt) (rCmp (fun i j => .bl (decide (i < j))) (fun i j => .bl (sLt i j))) := op_lt.or op_lt_str
theorem or_le : OpR X (compareOp .LtE) (rCmp (fun i j => .bl (decide (i ≤ j))) (fun i j => .bl (!sLt j i))) := op_le.or op_le_str
theorem od_lt : OpD K g (rCmp (fun i j => .bl (decide (i < j))) (fun i j => .bl (sLt i j))) ltD := od_cmp (fi := fun i j => decide (i < j)) (fs := fun i j => sLt i j) (fun x y z h => by
  cases x <;> cases y <;> simp only [ltD] at h <;> first | (cases h; exact .inl ⟨_, _, rfl, rfl, rfl⟩) | (cases h; exact .inr ⟨_, _, rfl, rfl, rfl⟩) | cases h)
theorem od_le : OpD K g (rCmp (fun i j => .bl (decide (i ≤ j))) (fun i j => .bl (!sLt j i))) leD := od_cmp (fi := fun i j => decide (i ≤ j)) (fs := fun i j => !sLt j i) (fun x y z h => by
  cases x <;> cases y <;> simp only [leD] at h <;> first | (cases h; exact .inl ⟨_, _, rfl, rfl, rfl⟩) | (cases h; exact .inr ⟨_, _, rfl, rfl, rfl⟩) | cases h)
mutual
def D.py : D → PyData
  | .non => .none | .bl b => .bool b | .int i => .int i | .str s => .str s
  | .tup ds => .tuple (pyL ds) | .lst ds => .list (pyL ds) | .dic _ => .none | .web _ _ => .none | .fn _ => .none | .exc _ _ _ => .none | .dit _ => .none
def pyL : List D → List PyData
  | [] => []
  | d :: r => d.py :: pyL r
end
mutual
def D.okd : D → Nat → Bool
  | .non, _ => true | .bl _, _ => true | .int _, _ => true | .str s, _ => PyData.strOk s
  | .tup ds, n => decide (0 < n) && okdL ds (n - 1) | .lst ds, n => decide (0 < n) && okdL ds (n - 1) | .dic _, _ => false | .web _ _, _ => false | .fn _, _ => false | .exc _ _ _, _ => false | .dit _, _ => false
def okdL : List D → Nat → Bool
  | [], _ => true
  | d :: r, n => d.okd n && okdL r n
end
mutual
theorem okd_lay : ∀ (d : D) (n : Nat), d.okd n = true → d.py.canLay0 = true ∧ d.py.depth ≤ n
  | .non, _, _ => ⟨by simp [D.py, PyData.canLay0], by simp [D.py, PyData.depth]⟩
  | .bl _, _, _ => ⟨by simp [D.py, PyData.canLay0], by simp [D.py, PyData.depth]⟩
  | .int _, _, _ => ⟨by simp [D.py, PyData.canLay0], by simp [D.py, PyData.depth]⟩
  | .str s, _, h => ⟨by simpa [D.py, PyData.canLay0, D.okd] using h, by simp [D.py, PyData.depth]⟩
  | .tup ds, n, h => by
    simp only [D.okd, Bool.and_eq_true, decide_eq_true_eq] at h
    obtain ⟨h1, h2⟩ := okdL_lay ds _ h.2
    exact ⟨by simpa [D.py, PyData.canLay0] using h1, by simp only [D.py, PyData.depth]; omega⟩
  | .lst ds, n, h => by
    simp only [D.okd, Bool.and_eq_true, decide_eq_true_eq] at h
    obtain ⟨h1, h2⟩ := okdL_lay ds _ h.2
    exact ⟨by simpa [D.py, PyData.canLay0] using h1, by simp only [D.py, PyData.depth]; omega⟩
  | .dic _, _, h => by simp [D.okd] at h
  | .web _ _, _, h => by simp [D.okd] at h
  | .fn _, _, h => by simp [D.okd] at h
  | .exc _ _ _, _, h => by simp [D.okd] at h
  | .dit _, _, h => by simp [D.okd] at h
theorem okdL_lay : ∀ (ds : List D) (n : Nat), okdL ds n = true → PyData.canLayAll0 (pyL ds) = true ∧ PyData.depthAll (pyL ds) ≤ n
  | [], _, _ => ⟨by simp [pyL, PyData.canLayAll0], by simp [pyL, PyData.depthAll]⟩
  | d :: r, n, h => by
    simp only [okdL, Bool.and_eq_true] at h
    obtain ⟨h1, h2⟩ := okd_lay d n h.1
    obtain ⟨h3, h4⟩ := okdL_lay r n h.2
    exact ⟨by simp only [pyL, PyData.canLayAll0, h1, h3, Bool.and_self], by simp only [pyL, PyData.depthAll]; omega⟩
end
mutual
theorem rep_dp {F H : Hp} (e : Ex F H) : ∀ (d : D) (n : Nat) (v : V), d.okd n = true → Rep K g F d v → Dp K H v d.py
  | .non, _, _, _, h => by cases h; simp only [D.py]; exact .non
  | .bl b, _, _, _, h => by cases h; simp only [D.py]; exact .bl b
  | .int i, _, _, _, h => by cases h; simp only [D.py]; exact .int i
  | .str s, _, _, _, h => by cases h; simp only [D.py]; exact .str s
  | .tup ds, n, _, o, h => by
    simp only [D.okd, Bool.and_eq_true] at o
    cases h with
    | tup h r => simp only [D.py]; exact .tup (Evl.ex_t e h) (repL_dp e ds _ _ o.2 r)
  | .lst ds, n, _, o, h => by
    simp only [D.okd, Bool.and_eq_true] at o
    cases h with
    | lst h r => simp only [D.py]; exact .lst (SqL.of (e _ _ h)) (repL_dp e ds _ _ o.2 r)
  | .dic _, _, _, o, _ => by simp [D.okd] at o
  | .web _ _, _, _, o, _ => by simp [D.okd] at o
  | .fn _, _, _, o, _ => by simp [D.okd] at o
  | .exc _ _ _, _, _, o, _ => by simp [D.okd] at o
  | .dit _, _, _, o, _ => by simp [D.okd] at o
theorem repL_dp {F H : Hp} (e : Ex F H) : ∀ (ds : List D) (n : Nat) (vs : List V), okdL ds n = true → RepL K g F ds vs → DpAll K H vs (pyL ds)
  | [], _, _, _, h => by cases h; simp only [pyL]; exact .nil
  | d :: r, n, _, o, h => by
    simp only [okdL, Bool.and_eq_true] at o
    cases h with
    | cons h1 h2 => simp only [pyL]; exact .cons (rep_dp e d n _ o.1 h1) (repL_dp e r n _ o.2 h2)
end
theorem repT_dp {c : Option Addr} {F H : Hp} (e : Ex F H) {d : D} {n : Nat} {v : V} (o : d.okd n = true) (h : RepT K g c F H d v) : Dp K H v d.py := by
  cases d with
  | lst ds =>
    obtain ⟨p, xs, rfl, h1, h2, _⟩ := h
    simp only [D.okd, Bool.and_eq_true] at o
    simp only [D.py]
    exact .lst (SqL.of h1) (repL_dp e ds _ _ o.2 h2)
  | dic _ => simp [D.okd] at o
  | dit _ => simp [D.okd] at o
  | _ => exact rep_dp e _ n _ o h
theorem okd_shaped {d : D} (o : d.okd 60 = true) : SeqAt.shaped d.py = true := by
  obtain ⟨h1, h2⟩ := okd_lay d 60 o
  unfold SeqAt.shaped
  rw [h1, decide_eq_true (Nat.le_trans h2 (by decide))]
  rfl
def scalD : D → D → Option Bool
  | .str a, .str b => some (decide (a = b))
  | .int a, .int b => some (decide (a = b))
  | .bl a, .bl b => some (decide (a = b))
  | .non, .non => some true
  | .non, .str _ => some false | .str _, .non => some false | .non, .int _ => some false | .int _, .non => some false | .non, .bl _ => some false | .bl _, .non => some false
  | .int _, .str _ => some false | .str _, .int _ => some false | .bl _, .str _ => some false | .str _, .bl _ => some false
  | _, _ => none
def deepEq (x y : D) : Option Bool := if x.okd 60 && y.okd 60 then some (PyData.eqv x.py y.py) else none
def eqB (x y : D) : Option Bool := match scalD x y with | some b => some b | none => deepEq x y
def eqD (x y : D) : Option D := (eqB x y).map .bl
def neD (x y : D) : Option D := (eqB x y).map fun b => .bl (!b)
theorem scalD_ok {c : Option Addr} {F H : Hp} {x y : D} {v w : V} {b : Bool} (h : scalD x y = some b) (rx : RepT K g c F H x v) (ry : RepT K g c F H y w) : scal v w = true ∧ decide (v = w) = b := by
  cases x <;> cases y <;> simp only [scalD] at h <;> first
    | (cases h
       first
         | rw [rx.str', ry.str'] | rw [rx.int', ry.int'] | rw [rx.bl', ry.bl'] | rw [rx.non', ry.non'] | rw [rx.non', ry.str'] | rw [rx.str', ry.non'] | rw [rx.non', ry.int'] | rw [rx.int', ry.non'] | rw [rx.non', ry.bl'] | rw [rx.bl', ry.non']
         | rw [rx.int', ry.str'] | rw [rx.str', ry.int'] | rw [rx.bl', ry.str'] | rw [rx.str', ry.bl']
       exact ⟨rfl, by simp⟩)
    | cases h
def rEqG (K : PySem.W.Frag) : R2 := fun x y H Q => rEq x y H Q ∨ rEqD K x y H Q
def rNeG (K : PySem.W.Frag) : R2 := fun x y H Q => rNe x y H Q ∨ rNeD K x y H Q
theorem or_eq (hu : X.A.units + 64 < cLine) : OpR X (compareOp .Eq) (rEqG X.K) := op_eq.or (op_eqD hu)
theorem or_ne (hu : X.A.units + 64 < cLine) : OpR X (compareOp .NotEq) (rNeG X.K) := op_ne.or (op_neD hu)
theorem od_eq : OpD K g (rEqG K) eqD := fun c F H x y z v w Q' e nc rx ry hz k => by
  unfold eqD eqB at hz
  split at hz
  · rename_i b q
    cases hz
    obtain ⟨s1, s2⟩ := scalD_ok q rx ry
    exact .inl ⟨s1, by rw [s2]; exact k _ H F (New.refl e) (.bl b)⟩
  · unfold deepEq at hz
    split at hz
    · rename_i o
      cases hz
      rw [Bool.and_eq_true] at o
      exact .inr ⟨_, _, repT_dp e o.1 rx, repT_dp e o.2 ry, okd_shaped o.1, okd_shaped o.2, k _ H F (New.refl e) (.bl _)⟩
    · cases hz
theorem od_ne : OpD K g (rNeG K) neD := fun c F H x y z v w Q' e nc rx ry hz k => by
  unfold neD eqB at hz
  split at hz
  · rename_i b q
    cases hz
    obtain ⟨s1, s2⟩ := scalD_ok q rx ry
    exact .inl ⟨s1, by rw [s2]; exact k _ H F (New.refl e) (.bl _)⟩
  · unfold deepEq at hz
    split at hz
    · rename_i o
      cases hz
      rw [Bool.and_eq_true] at o
      exact .inr ⟨_, _, repT_dp e o.1 rx, repT_dp e o.2 ry, okd_shaped o.1, okd_shaped o.2, k _ H F (New.refl e) (.bl _)⟩
    · cases hz
def D.isN : D → Bool | .non => true | _ => false
def notND (x y : D) : Option D := match y with | .non => some (.bl (!x.isN)) | _ => none
theorem rep_non_iff {c : Option Addr} {F H : Hp} {x : D} {v : V} (r : RepT K g c F H x v) : decide (v = .non) = x.isN := by
  cases x with
  | non => rw [r.non']; rfl
  | bl b => rw [r.bl']; rfl
  | int b => rw [r.int']; rfl
  | str b => rw [r.str']; rfl
  | tup ds => obtain ⟨a, xs, rfl, _⟩ := r.tup'; rfl
  | lst ds => obtain ⟨a, xs, rfl, _⟩ := r; rfl
  | dic ds => obtain ⟨a, xs, rfl, _⟩ := r.dic'; rfl
  | web p t => obtain ⟨a, _, _, rfl, _⟩ := r.web'; rfl
  | fn L => have r' : Rep K g F (.fn L) v := r; cases r' <;> rfl
  | exc n f d => have r' : Rep K g F (.exc n f d) v := r; cases r'; rfl
  | dit k => obtain ⟨a, _, _, rfl, _⟩ := r; rfl
theorem od_notN : OpD K g (fun x y H Q => y = .non ∧ Q (.bl (!decide (x = .non))) H) notND := fun c F H x y z v w Q' e nc rx ry hz k => by
  unfold notND at hz
  split at hz
  · cases hz
    refine ⟨ry.non', ?_⟩
    rw [rep_non_iff rx]
    exact k _ H F (New.refl e) (.bl _)
  · cases hz
def D.flat : D → Bool | .non => true | .bl _ => true | .int _ => true | .str _ => true | _ => false
def fEq : D → D → Bool
  | .non, .non => true | .bl a, .bl b => a == b | .bl a, .int b => (if a then 1 else 0) == b | .int a, .bl b => a == (if b then 1 else 0) | .int a, .int b => a == b | .str a, .str b => a == b | _, _ => false
def inL (x : D) (ds : List D) : Bool := ds.any fun y => fEq y x
def inB (x y : D) : Option Bool := match x, y with
  | .str a, .str b => (match a.cps.toList with | [q] => some (decide (q ∈ b.cps.toList)) | _ => none)
  | x, .lst ds => if x.flat && ds.all D.flat then some (inL x ds) else none
  | x, .tup ds => if x.flat && ds.all D.flat then some (inL x ds) else none
  | _, _ => none
def inD (x y : D) : Option D := (inB x y).map .bl
def notInD (x y : D) : Option D := (inB x y).map fun b => .bl (!b)
theorem rep_flat {F : Hp} {x : D} {v : V} (h : Rep K g F x v) (f : x.flat = true) : flatV v = true := by
  cases h <;> first | rfl | (simp [D.flat] at f)
theorem rep_fEq {F : Hp} {x y : D} {v w : V} (h : Rep K g F x v) (h' : Rep K g F y w) (f : x.flat = true) (f' : y.flat = true) : eqV v w = fEq x y := by
  cases h <;> first | (simp [D.flat] at f; done) | (cases h' <;> first | (simp [D.flat] at f'; done) | rfl)
theorem repL_flat {F : Hp} : ∀ {ds : List D} {vs : List V}, RepL K g F ds vs → ds.all D.flat = true → vs.all flatV = true
  | _, _, .nil, _ => rfl
  | _, _, .cons h t, f => by
    simp only [List.all_cons, Bool.and_eq_true] at f ⊢
    exact ⟨rep_flat h f.1, repL_flat t f.2⟩
theorem repL_in {F : Hp} {x : D} {v : V} (h : Rep K g F x v) (f : x.flat = true) : ∀ {ds : List D} {vs : List V}, RepL K g F ds vs → ds.all D.flat = true → inV v vs = inL x ds
  | _, _, .nil, _ => rfl
  | _, _, .cons h1 t, f' => by
    simp only [List.all_cons, Bool.and_eq_true] at f'
    have := repL_in h f t f'.2
    unfold inV inL at this ⊢
    rw [List.any_cons, List.any_cons, this, rep_fEq h1 h f'.1 f]
def rSign (neg : Bool) : R2 := fun x y H Q => ∃ (c : Nat) (z : Str), x = .str ⟨#[c]⟩ ∧ y = .str z ∧ Q (.bl (if neg then !decide (c ∈ z.cps.toList) else decide (c ∈ z.cps.toList))) H
def rInG (K : PySem.W.Frag) (neg : Bool) : R2 := fun x y H Q => rSign neg x y H Q ∨ rIn K neg x y H Q
theorem or_in : OpR X (compareOp .In) (rInG X.K false) := OpR.or (r := rSign false) op_in_sign op_in_seq
theorem or_notin : OpR X (compareOp .NotIn) (rInG X.K true) := OpR.or (r := rSign true) op_notIn_sign op_notIn_seq
theorem repT_flat {c : Option Addr} {F H : Hp} {x : D} {v : V} (f : x.flat = true) (h : RepT K g c F H x v) : Rep K g F x v := by
  cases x <;> first | exact h | (simp [D.flat] at f)
theorem od_inG {neg : Bool} : OpD K g (rInG K neg) (fun x y => (inB x y).map fun b => .bl (if neg then !b else b)) := fun c F H x y z v w Q' e nc rx ry hz k => by
  obtain ⟨b, hb, rfl⟩ := Option.map_eq_some_iff.mp hz
  clear hz
  have k' := k _ H F (New.refl e) (.bl _)
  unfold inB at hb
  split at hb
  · rename_i a b'
    split at hb
    · rename_i q eq
      cases hb
      refine .inl ⟨q, b', ?_, ry.str', k'⟩
      rw [rx.str']
      obtain ⟨⟨l⟩⟩ := a
      simp only at eq
      rw [eq]
    · cases hb
  · split at hb
    · rename_i f
      cases hb
      rw [Bool.and_eq_true] at f
      obtain ⟨p, xs, rfl, h1, h2, _⟩ := ry
      have r1 := repT_flat f.1 rx
      refine .inr ⟨p, xs, rfl, .inl (SqL.of h1), rep_flat r1 f.1, repL_flat h2 f.2, ?_⟩
      rw [repL_in r1 f.1 h2 f.2]
      exact k'
    · cases hb
  · split at hb
    · rename_i f
      cases hb
      rw [Bool.and_eq_true] at f
      obtain ⟨p, xs, rfl, h1, h2⟩ := ry.tup'
      have r1 := repT_flat f.1 rx
      refine .inr ⟨p, xs, rfl, .inr (Evl.ex_t e h1), rep_flat r1 f.1, repL_flat h2 f.2, ?_⟩
      rw [repL_in r1 f.1 h2 f.2]
      exact k'
    · cases hb
  · cases hb
theorem od_in : OpD K g (rInG K false) inD := od_inG
theorem od_notin : OpD K g (rInG K true) notInD := od_inG
def ixD : D → D → Option D
  | .lst ds, .int i => atI ds i
  | .tup ds, .int i => atI ds i
  | .str s, .int i => if s.length ≤ LL then (atI s.cps.toList i).map fun c => .str ⟨#[c]⟩ else none
  | _, _ => none
theorem repL_at {F : Hp} {ds : List D} {vs : List V} {i : Int} {d : D} (h : RepL K g F ds vs) (e : atI ds i = some d) : ∃ v, atI vs i = some v ∧ Rep K g F d v := by
  unfold atI at e ⊢
  rw [h.length]
  cases q : ixN ds.length i with
  | none => rw [q] at e; cases e
  | some j =>
    rw [q] at e
    exact h.get e
theorem od_ix : OpD K g (rIx K) ixD := fun c F H x y z v w Q' e nc rx ry hz k => by
  unfold ixD at hz
  split at hz
  · obtain ⟨p, xs, rfl, h1, h2, _⟩ := rx
    obtain ⟨u, h3, h4⟩ := repL_at h2 hz
    exact .inl ⟨p, xs, _, u, rfl, ry.int', SqL.of h1, h3, k _ H F (New.refl e) h4⟩
  · obtain ⟨p, xs, rfl, h1, h2⟩ := rx.tup'
    obtain ⟨u, h3, h4⟩ := repL_at h2 hz
    exact .inr (.inl ⟨p, xs, _, u, rfl, ry.int', Evl.ex_t e h1, h3, k _ H F (New.refl e) h4⟩)
  · split at hz
    · rename_i s i hl
      cases q : atI s.cps.toList i with
      | none => rw [q] at hz; cases hz
      | some ch =>
        rw [q] at hz
        cases hz
        exact .inr (.inr ⟨s, i, ch, rx.str', ry.int', ll hl, q, k _ H F (New.refl e) (.str _)⟩)
    · cases hz
  · cases hz
theorem ge_ix {a b : Expr} {da db : DE} {pos : Pos} (ha : GB g X a da) (hb : GB g X b db) (hs : PlainIx b := by exact fun _ _ => rfl) : GE g X (.Subscript a b pos) (dOp ixD da db) := PE.weak (pe_ix ix_seq ha hb hs) (op_weak od_ix)
end
end G
namespace G
open PySem L2
structure DEnds where
  nx : Env' → Nat → Prop
  rt : D → Nat → Prop
  bk : Env' → Nat → Prop := fun _ _ => False
  ct : Env' → Nat → Prop := fun _ _ => False
abbrev DS := Env' → Nat → DEnds → Prop
def Own (env : Env') (σ : St) (a : Addr) : Prop := ∃ (i : Nat) (s : Sl), env[i]? = some s ∧ a ∈ s.adr σ[i]?
theorem own_ow {env : Env'} {σ : St} {i : Nat} {d : D} {a : Addr} (h : env[i]? = some (.ow d)) (hs : σ[i]? = some (some (.ref a))) : Own env σ a := ⟨i, _, h, by rw [hs]; simp [Sl.adr]⟩
structure Evo (c : Option Addr) (O : Addr → Prop) (F H : Hp) (O' : Addr → Prop) (F' H' : Hp) : Prop where
  ff : Ex F F'
  fh : Ex F' H'
  hk : ∀ a o, H a = some o → c ≠ some a → ¬ O a → Kp o (H' a)
  new : ∀ a o, F' a = some o → F a = some o ∨ H a = none ∨ O a
  nc : ∀ a, c = some a → F' a = none
  own : ∀ a, O' a → c ≠ some a ∧ (O a ∨ H a = none)
theorem Evo.hh {c : Option Addr} {O O' : Addr → Prop} {F H F' H' : Hp} (f : Evo c O F H O' F' H') (a : Addr) (o : HO) (h : H a = some o) (n : c ≠ some a) (no : ¬ O a) (t : isT o = false := by first | rfl | assumption) : H' a = some o := (f.hk a o h n no).get t
theorem Evo.sm {c : Option Addr} {O O' : Addr → Prop} {F H F' H' : Hp} (f : Evo c O F H O' F' H') {a : Addr} {o : HO} (h : H a = some o) (n : c ≠ some a) (no : ¬ O a) (z : H' a = none) : False := (f.hk a o h n no).ne z
section
variable {K : PySem.W.Frag} {g : Gp} {c : Option Addr} {F F' F1 F2 H H' H1 H2 : Hp} {env env' : Env'} {m m' : Nat} {σ σ' : St} {O O1 O2 : Addr → Prop}
theorem Evo.trans (a : Evo c O F H O1 F1 H1) (b : Evo c O1 F1 H1 O2 F2 H2) : Evo c O F H O2 F2 H2 where
  ff := a.ff.trans b.ff
  fh := b.fh
  hk := fun x o h n no => (a.hk x o h n no).trans fun u hu => b.hk x u hu n fun q => (a.own x q).2.elim no fun z => by rw [h] at z; cases z
  nc := b.nc
  new := fun x o h => by
    rcases b.new x o h with q | q | q
    · exact a.new x o q
    · cases z : H x with
      | none => exact .inr (.inl rfl)
      | some u =>
        by_cases n : c = some x
        · rw [b.nc x n] at h; cases h
        · by_cases y : O x
          · exact .inr (.inr y)
          · exact (a.sm z n y q).elim
    · rcases (a.own x q).2 with z | z
      · exact .inr (.inr z)
      · exact .inr (.inl z)
  own := fun x q => by
    obtain ⟨n, z⟩ := b.own x q
    refine ⟨n, ?_⟩
    rcases z with z | z
    · exact (a.own x z).2
    · cases y : H x with
      | none => exact .inr rfl
      | some u =>
        by_cases w : O x
        · exact .inl w
        · exact (a.sm y n w z).elim
theorem Evo.none (a : Evo c O F H O1 F1 H1) : Evo c O F H (fun _ => False) F1 H1 := ⟨a.ff, a.fh, a.hk, a.new, a.nc, fun _ h => h.elim⟩
theorem Evo.sub (a : Evo c O F H O1 F1 H1) (h : ∀ x, O2 x → O1 x) : Evo c O F H O2 F1 H1 := ⟨a.ff, a.fh, a.hk, a.new, a.nc, fun x q => a.own x (h x q)⟩
theorem Rel.ownc (r : Rel K g c F env m σ H) : ∀ a, Own env σ a → c ≠ some a := fun a ⟨i, s, e1, e2⟩ => ((r.slot i s e1).at e2).2.1
theorem Rel.ownH (r : Rel K g c F env m σ H) {a : Addr} (h : Own env σ a) : F a = .none ∧ ∃ xs, H a = some xs := by
  obtain ⟨i, s, e1, e2⟩ := h
  have := (r.slot i s e1).at e2
  exact ⟨this.1, this.2.2⟩
theorem Rel.evo (r : Rel K g c F env m σ H) (f : Fresh c F H F' H') : Evo c (Own env σ) F H (Own env σ) F' H' :=
  ⟨f.ff, f.fh, fun a o h n _ => f.hk a o h n, fun a o h => (f.new a o h).imp id .inl, f.nc, fun a h => ⟨r.ownc a h, .inl h⟩⟩
structure Outs (K : PySem.W.Frag) (g : Gp) (c : Option Addr) (O : Addr → Prop) (F H : Hp) (E : DEnds) (D : Ends) : Prop where
  nx : ∀ σ' H' F' env' m', Rel K g c F' env' m' σ' H' → Evo c O F H (Own env' σ') F' H' → E.nx env' m' → D.nx σ' H'
  bk : ∀ σ' H' F' env' m', Rel K g c F' env' m' σ' H' → Evo c O F H (Own env' σ') F' H' → E.bk env' m' → D.bk σ' H'
  ct : ∀ σ' H' F' env' m', Rel K g c F' env' m' σ' H' → Evo c O F H (Own env' σ') F' H' → E.ct env' m' → D.ct σ' H'
  rt : ∀ v H' F' m' x, Ck g c m' F' H' → Evo c O F H (fun _ => False) F' H' → Rep K g F' x v → E.rt x m' → D.rt v H'
theorem Outs.shift {E : DEnds} {D : Ends} (o : Outs K g c O F H E D) (e : Evo c O F H O1 F1 H1) : Outs K g c O1 F1 H1 E D :=
  ⟨fun σ' H' F' env' m' r v => o.nx σ' H' F' env' m' r (e.trans v), fun σ' H' F' env' m' r v => o.bk σ' H' F' env' m' r (e.trans v), fun σ' H' F' env' m' r v => o.ct σ' H' F' env' m' r (e.trans v), fun v H' F' m' x k u => o.rt v H' F' m' x k (e.trans u)⟩
theorem Outs.next {E : DEnds} {D : Ends} {n : Env' → Nat → Prop} {N : St → Hp → Prop} (o : Outs K g c O F H E D) (h : ∀ σ' H' F' env' m', Rel K g c F' env' m' σ' H' → Evo c O F H (Own env' σ') F' H' → n env' m' → N σ' H') : Outs K g c O F H { E with nx := n } { D with nx := N } := ⟨h, o.bk, o.ct, o.rt⟩
end
def tSD (K : PySem.W.Frag) (g : Gp) (s : DS) : TS := fun D σ H => ∃ c F env m E, Rel K g c F env m σ H ∧ s env m E ∧ Outs K g c (Own env σ) F H E D
def GS (g : Gp) (X : Cx) (st : Stmt) (s : DS) : Prop := PS X st (tSD X.K g s)
def GSs (g : Gp) (X : Cx) (sts : List Stmt) (s : DS) : Prop := PSs X sts (tSD X.K g s)
theorem sl_no {d : D} : ∀ o, (Sl.val d).adr o = [] := fun _ => rfl
theorem sl_no0 : ∀ o, Sl.no.adr o = [] := fun _ => rfl
section
variable {K : PySem.W.Frag} {g : Gp} {c : Option Addr} {F F' H H' : Hp} {env : Env'} {m : Nat} {σ : St} {v : V}
theorem own_set1 {i : Nat} {s : Sl} {o : Option V} {a : Addr} (l : env.length = σ.length) (h : Own (env.set i s) (σ.set i o) a) : a ∈ s.adr (some o) ∨ Own env σ a := by
  obtain ⟨j, s', e1, e2⟩ := h
  by_cases q : i = j
  · subst q
    by_cases z : i < env.length
    · rw [List.getElem?_set_self z] at e1; cases e1
      rw [List.getElem?_set_self (by omega)] at e2
      exact .inl e2
    · rw [List.set_eq_of_length_le (by omega)] at e1; exact absurd (List.getElem?_eq_some_iff.mp e1).1 (by omega)
  · rw [List.getElem?_set_ne q] at e1 e2
    exact .inr ⟨j, s', e1, e2⟩
theorem own_set {i : Nat} {s : Sl} {o : Option V} {a : Addr} (l : env.length = σ.length) (hs : ∀ o, s.adr o = []) (h : Own (env.set i s) (σ.set i o) a) : Own env σ a := by
  rcases own_set1 l h with z | z
  · rw [hs] at z; simp at z
  · exact z
theorem Rel.setS {i : Nat} {s : Sl} {o : Option V} (r : Rel K g c F env m σ H) (no : ∀ a ∈ s.adr (some o), ¬ Own env σ a) (h : SlR K g c F H s (some o)) : Rel K g c F (env.set i s) m (σ.set i o) H where
  sub := r.sub
  len := by rw [List.length_set, List.length_set, r.len]
  ck := r.ck
  slot := fun j s' e => by
    by_cases q : i = j
    · subst q
      by_cases z : i < env.length
      · rw [List.getElem?_set_self z] at e; cases e
        rw [List.getElem?_set_self (by rw [← r.len]; exact z)]; exact h
      · rw [List.set_eq_of_length_le (by omega)] at e; exact absurd (List.getElem?_eq_some_iff.mp e).1 (by omega)
    · rw [List.getElem?_set_ne q] at e ⊢
      exact r.slot j s' e
  sep := fun j k sj sk a e1 e2 e3 e4 => by
    have me : ∀ {s' : Sl}, (env.set i s)[i]? = some s' → a ∈ s'.adr (σ.set i o)[i]? → a ∈ s.adr (some o) := fun {s'} e e' => by
      by_cases z : i < env.length
      · rw [List.getElem?_set_self z] at e; cases e
        rw [List.getElem?_set_self (by rw [← r.len]; exact z)] at e'; exact e'
      · rw [List.set_eq_of_length_le (by omega)] at e; exact absurd (List.getElem?_eq_some_iff.mp e).1 (by omega)
    by_cases x : i = j
    · by_cases y : i = k
      · omega
      · rw [List.getElem?_set_ne y] at e2 e4
        subst x
        exact absurd ⟨k, sk, e2, e4⟩ (no a (me e1 e3))
    · rw [List.getElem?_set_ne x] at e1 e3
      by_cases y : i = k
      · subst y
        exact absurd ⟨j, sj, e1, e3⟩ (no a (me e2 e4))
      · rw [List.getElem?_set_ne y] at e2 e4
        exact r.sep j k sj sk a e1 e2 e3 e4
theorem Rel.set {i : Nat} {s : Sl} {o : Option V} (r : Rel K g c F env m σ H) (hs : ∀ o, s.adr o = []) (h : SlR K g c F H s (some o)) : Rel K g c F (env.set i s) m (σ.set i o) H :=
  r.setS (fun a ha => by rw [hs] at ha; simp at ha) h
theorem Rel.setV {i : Nat} {d : D} (r : Rel K g c F env m σ H) (h : Rep K g F d v) : Rel K g c F (env.set i (.val d)) m (σ.set i (some v)) H := r.set sl_no ⟨v, rfl, h⟩
theorem Rel.setNo {i : Nat} {o : Option V} (r : Rel K g c F env m σ H) : Rel K g c F (env.set i .no) m (σ.set i o) H := r.set sl_no0 trivial
theorem Rel.setOw {i : Nat} {ds : D} {p : Addr} {xs : HO} (r : Rel K g c F env m σ H) (nf : F p = none) (hp : H p = some xs) (rl : ObR K g F p ds xs) (nc : c ≠ some p) (no : ¬ Own env σ p) : Rel K g c F (env.set i (.ow ds)) m (σ.set i (some (.ref p))) H :=
  r.setS (fun a ha => by rw [show (Sl.ow ds).adr (some (some (.ref p))) = [p] from rfl, List.mem_singleton] at ha; subst ha; exact no) ⟨p, xs, rfl, nf, hp, rl, nc⟩
theorem Rel.setO {i : Nat} {ds : List D} {p : Addr} {xs : List V} (r : Rel K g c F env m σ H) (nf : F p = none) (hp : H p = some (.lst xs)) (rl : RepL K g F ds xs) (nc : c ≠ some p) (no : ¬ Own env σ p) : Rel K g c F (env.set i (.own ds)) m (σ.set i (some (.ref p))) H :=
  r.setOw nf hp ⟨xs, rfl, rl⟩ nc no
theorem own_setO {i : Nat} {ds : D} {p a : Addr} (l : env.length = σ.length) (h : Own (env.set i (.ow ds)) (σ.set i (some (.ref p))) a) : a = p ∨ Own env σ a := (own_set1 l h).imp (fun z => by simpa [Sl.adr] using z) id
end
section
variable {g : Gp} {X : Cx} {st : Stmt} {sts : List Stmt} {e : Expr} {d : DE} {dl : DL} {s s1 s2 : DS} {t : DT} {pos : Pos}
def dSeq (s1 s2 : DS) : DS := fun env m E => s1 env m { E with nx := fun env' m' => s2 env' m' E }
def dNext : DS := fun env m E => E.nx env m
theorem gss_nil : GSs g X [] dNext := PSs.weak pss_nil fun D σ H ⟨c, F, env, m, E, r, h, o⟩ => o.nx σ H F env m r (r.evo (Fresh.refl r.sub r.ck)) h
theorem gss_cons (h1 : GS g X st s1) (h2 : GSs g X sts s2) : GSs g X (st :: sts) (dSeq s1 s2) := PSs.weak (pss_cons h1 h2) fun D σ H ⟨c, F, env, m, E, r, h, o⟩ =>
  ⟨c, F, env, m, _, r, h, o.next fun σ' H' F' env' m' r' v q => ⟨c, F', env', m', E, r', q, o.shift v⟩⟩
theorem gss_one (h1 : GS g X st s1) : GSs g X [st] s1 := pss_one h1
def dNever : DS := fun _ _ _ => False
theorem gs_never : GS g X st dNever := PS.weak ps_never fun D σ H ⟨_, _, _, _, _, _, h, _⟩ => h
def dDrop (d : DE) : DS := fun env m E => d env m fun _ m1 => E.nx env m1
theorem gs_expr (he : GE g X e d) (hs : swapsWith e none pos.line X.env = pure false := by rfl) : GS g X (.Expr e pos) (dDrop d) := PS.weak (ps_expr he hs) fun D σ H ⟨c, F, env, m, E, r, h, o⟩ =>
  ⟨c, F, env, m, _, r, h, fun v H' F' m' x r' f rp q => o.nx σ H' F' env m' r' (r.evo f) q⟩
def dRet (d : DE) : DS := fun env m E => d env m E.rt
theorem gs_ret (he : GE g X e d) : GS g X (.Return (some e) pos) (dRet d) := PS.weak (ps_ret he) fun D σ H ⟨c, F, env, m, E, r, h, o⟩ =>
  ⟨c, F, env, m, _, r, h, fun v H' F' m' x r' f rp q => o.rt v H' F' m' x r'.ck (r.evo f).none rp q⟩
def dRetO (i : Nat) : DS := fun env m E => ∃ ds, env[i]? = some (.own ds) ∧ E.rt (.lst ds) m
theorem gs_retO (i : Nat) {x : Str} {p1 : Pos} (hN : X.N[i]? = some x := by rfl) (hv : Vis X.env.scope x := by first | exact Or.inl rfl | exact Or.inr (Or.inl rfl) | exact Or.inr (Or.inr rfl)) (hd : (x == ("__debug__" : Str)) = false := by decide)
    (hcd : (x == ("__classdict__" : Str)) = false := by decide) : GS g X (.Return (some (.Name x p1)) pos) (dRetO i) := PS.weak (ps_ret (pe_var hN hv hd hcd)) fun D σ H ⟨c, F, env, m, E, r, ⟨ds, e1, q⟩, o⟩ => by
  obtain ⟨p, xs, e2, h1, h2, h3, h4⟩ := (r.slot i _ e1).own'
  have hc : ∀ a, c = some a → a ≠ p := fun a h z => h4 (z ▸ h)
  refine ⟨.ref p, e2, o.rt _ H (upd F p (.lst xs)) m (.lst ds) ⟨fun a h => ⟨by rw [upd_ne (hc a h)]; exact (r.ck a h).1, (r.ck a h).2⟩, r.ck.tb.fix h2 h1⟩ ?_ (.lst upd_same (h3.mono (Evl.Ex.new h1))) q⟩
  refine ⟨Evl.Ex.new h1, fun a u z => ?_, fun a u h _ _ => .of h, fun a u z => ?_, fun a h => by rw [upd_ne (hc a h)]; exact r.nc a h, fun _ z => z.elim⟩
  · by_cases y : a = p
    · subst y; rw [upd_same] at z; rw [← z]; exact h2
    · rw [upd_ne y] at z; exact r.sub a u z
  · by_cases y : a = p
    · subst y; exact .inr (.inr (own_ow e1 e2))
    · rw [upd_ne y] at z; exact .inl z
def dIf (t : DT) (s1 s2 : DS) : DS := fun env m E => t env m fun b m1 => if b = true then s1 env m1 E else s2 env m1 E
theorem gs_if {cc : Expr} {a b : List Stmt} (hc : GT g X cc t) (ha : GSs g X a s1) (hb : GSs g X b s2) : GS g X (.If cc a b pos) (dIf t s1 s2) := PS.weak (ps_if hc ha hb) fun D σ H ⟨c, F, env, m, E, r, h, o⟩ =>
  ⟨c, F, env, m, _, r, h, fun x H1 F1 m1 r1 f1 q1 => by
    cases x with
    | true => exact ⟨c, F1, env, m1, E, r1, q1, o.shift (r.evo f1)⟩
    | false => exact ⟨c, F1, env, m1, E, r1, q1, o.shift (r.evo f1)⟩⟩
def dAsg (i : Nat) (d : DE) : DS := fun env m E => d env m fun x m1 => E.nx (env.set i (.val x)) m1
def dAsgN (i : Nat) (d : DL) : DS := fun env m E => d env m fun ds m1 => E.nx (env.set i (.own ds)) m1
theorem evo_setV {K : PySem.W.Frag} {c : Option Addr} {F H F' H' : Hp} {env : Env'} {m : Nat} {σ : St} {i : Nat} {x : D} {v : V} (r : Rel K g c F env m σ H) (f : Fresh c F H F' H') : Evo c (Own env σ) F H (Own (env.set i (.val x)) (σ.set i (some v))) F' H' :=
  (r.evo f).sub fun a h => own_set r.len sl_no h
theorem asg_weak {t : TE} {i : Nat} (w : ∀ σ H Q, tD X.K g d σ H Q → t σ H Q) : ∀ D σ H, tSD X.K g (dAsg i d) D σ H → tAsg t (gName i) D σ H := fun D σ H ⟨c, F, env, m, E, r, h, o⟩ =>
  w σ H _ ⟨c, F, env, m, _, r, h, fun v H' F' m' x r' f rp q => o.nx _ H' F' _ m' (r'.setV rp) (evo_setV r f) q⟩
theorem asgN_weak {t : TE} {i : Nat} (w : ∀ σ H Q, tN X.K g dl σ H Q → t σ H Q) : ∀ D σ H, tSD X.K g (dAsgN i dl) D σ H → tAsg t (gName i) D σ H := fun D σ H ⟨c, F, env, m, E, r, h, o⟩ =>
  w σ H _ ⟨c, F, env, m, _, r, h, fun p H' F' m' ds xs r' f h0 hp hc h1 h2 q => by
    have no : ¬ Own env σ p := fun z => by obtain ⟨_, _, y⟩ := r.ownH z; rw [h0] at y; cases y
    refine o.nx _ H' F' _ m' (r'.setO hp h1 h2 hc no) ?_ q
    have v := r.evo f
    refine ⟨v.ff, v.fh, v.hk, v.new, v.nc, fun a z => ?_⟩
    rcases own_setO r.len z with rfl | y
    · exact ⟨hc, .inr h0⟩
    · exact v.own a y⟩
theorem gs_set {i : Nat} {x : Str} {pos' : Pos} (hN : X.N.Nodup) (hi : X.N[i]? = some x) (hx : Loc X.env.scope x) (he : GE g X e d) (hs : swapsWith e (some (.Name x pos')) pos.line X.env = pure false := by rfl)
    (hf : X.fn x = true ∨ X.env.scope.names.lookup x = some .local := by first | exact .inl rfl | exact .inr rfl | assumption) : GS g X (.Assign [.Name x pos'] e pos) (dAsg i d) := PS.weak (ps_set hN hi hx he hs hf) (asg_weak fun _ _ _ h => h)
theorem gs_setN {i : Nat} {x : Str} {pos' : Pos} (hN : X.N.Nodup) (hi : X.N[i]? = some x) (hx : Loc X.env.scope x) (he : GN g X e dl) (hs : swapsWith e (some (.Name x pos')) pos.line X.env = pure false := by rfl)
    (hf : X.fn x = true ∨ X.env.scope.names.lookup x = some .local := by first | exact .inl rfl | exact .inr rfl | assumption) : GS g X (.Assign [.Name x pos'] e pos) (dAsgN i dl) := PS.weak (ps_set hN hi hx he hs hf) (asgN_weak fun _ _ _ h => h)
structure GG (g : Gp) (X : Cx) (tg : Expr) (T : TG) (f : D → Env' → Option Env') (js : List Nat) : Prop where
  pg : PG X tg T
  ok : ∀ (c : Option Addr) (F : Hp) (env : Env') (m : Nat) (σ : St) (H : Hp) (d : D) (v : V) (env2 : Env') (Q : St → Hp → Prop), Rel X.K g c F env m σ H → Rep X.K g F d v → f d env = some env2 →
    (∀ σ2, Rel X.K g c F env2 m σ2 H → (∀ a, Own env2 σ2 a → Own env σ a) → σ2.length = σ.length → (∀ i, i ∉ js → σ2[i]? = σ[i]?) → Q σ2 H) → T v σ H Q
def tgN (j : Nat) : D → Env' → Option Env' := fun d env => some (env.set j (.val d))
theorem gg_name {j : Nat} {x : Str} (hN : X.N.Nodup) (hi : X.N[j]? = some x) (hx : Loc X.env.scope x) (hf : X.fn x = true ∨ X.env.scope.names.lookup x = some .local := by first | exact .inl rfl | exact .inr rfl | assumption) : GG g X (.Name x pos) (gName j) (tgN j) [j] :=
  ⟨pg_name hN hi hx hf, fun c F env m σ H d v env2 Q r rp e k => by
    cases e
    exact k _ (r.setV rp) (fun a h => own_set r.len sl_no h) (List.length_set ..) fun i hi => List.getElem?_set_ne (fun z => hi (by simp [z]))⟩
structure GGs (g : Gp) (X : Cx) (tgs : List Expr) (T : TGs) (f : List D → Env' → Option Env') (js : List Nat) : Prop where
  pg : PGs X tgs T
  ok : ∀ (c : Option Addr) (F : Hp) (env : Env') (m : Nat) (σ : St) (H : Hp) (ds : List D) (vs : List V) (env2 : Env') (Q : St → Hp → Prop), Rel X.K g c F env m σ H → RepL X.K g F ds vs → f ds env = some env2 →
    (∀ σ2, Rel X.K g c F env2 m σ2 H → (∀ a, Own env2 σ2 a → Own env σ a) → σ2.length = σ.length → (∀ i, i ∉ js → σ2[i]? = σ[i]?) → Q σ2 H) → T vs σ H Q
def tgNil : List D → Env' → Option Env' := fun ds env => match ds with | [] => some env | _ => none
def tgCons (f : D → Env' → Option Env') (fs : List D → Env' → Option Env') : List D → Env' → Option Env' := fun ds env => match ds with | d :: r => (f d env).bind (fs r) | [] => none
theorem ggs_nil : GGs g X [] gNil tgNil [] := ⟨pgs_nil, fun c F env m σ H ds vs env2 Q r rp e k => by
  cases ds with
  | nil => cases rp; cases e; exact ⟨rfl, k σ r (fun _ h => h) rfl fun _ _ => rfl⟩
  | cons _ _ => cases e⟩
theorem ggs_cons {tg : Expr} {tgs : List Expr} {T : TG} {Gs : TGs} {f : D → Env' → Option Env'} {fs : List D → Env' → Option Env'} {js ks : List Nat} (h1 : GG g X tg T f js) (h2 : GGs g X tgs Gs fs ks)
    (hs : (assignEach (tg :: tgs) X.env).map (·.2) = assign tg X.env :: (assignEach tgs X.env).map (·.2) := by rfl) : GGs g X (tg :: tgs) (gCons T Gs) (tgCons f fs) (js ++ ks) := ⟨pgs_cons h1.pg h2.pg hs, fun c F env m σ H ds vs env2 Q r rp e k => by
  cases ds with
  | nil => cases e
  | cons d ds =>
    cases rp with
    | cons rp1 rp2 =>
      obtain ⟨env1, e1, e2⟩ := Option.bind_eq_some_iff.mp (show (f d env).bind (fs ds) = some env2 from e)
      refine ⟨_, _, rfl, h1.ok c F env m σ H d _ env1 _ r rp1 e1 fun σ2 r2 o2 l2 a2 => h2.ok c F env1 m σ2 H ds _ env2 Q r2 rp2 e2 fun σ3 r3 o3 l3 a3 => k σ3 r3 (fun a h => o2 a (o3 a h)) (l3.trans l2) fun i hi => ?_⟩
      rw [List.mem_append] at hi
      exact (a3 i fun z => hi (.inr z)).trans (a2 i fun z => hi (.inl z))⟩
def tgT (fs : List D → Env' → Option Env') (n : Nat) : D → Env' → Option Env' := fun d env => match d with | .tup ds => if ds.length = n then fs ds env else none | _ => none
theorem gg_tup {tgs : List Expr} {Gs : TGs} {fs : List D → Env' → Option Env'} {js : List Nat} {k n : Nat} (hc : X.calm = true) (h : GGs g X tgs Gs fs js) (hn : (assignEach tgs X.env).length = n := by rfl) (hst : (assignEach tgs X.env).findIdx? (·.1) = none := by rfl) :
    GG g X (.Tuple tgs k pos) (gTup X.K n Gs) (tgT fs n) js := ⟨pg_tup hc h.pg hn hst, fun c F env m σ H d v env2 Q r rp e kk => by
  cases d with
  | tup ds =>
    simp only [tgT] at e
    split at e
    · rename_i hl
      cases rp with
      | tup q rl => exact ⟨_, _, rfl, Evl.ex_t r.sub q, by rw [rl.length]; exact hl, h.ok c F env m σ H ds _ env2 Q r rl e kk⟩
    · cases e
  | _ => cases e⟩
def dAsgT (f : D → Env' → Option Env') (d : DE) : DS := fun env m E => d env m fun x m1 => ∃ env2, f x env = some env2 ∧ E.nx env2 m1
def dPar (i j : Nat) (d : DL) : DS := fun env m E => d env m fun ds m1 => ∃ x y, ds = [x, y] ∧ E.nx ((env.set i (.val x)).set j (.val y)) m1
theorem gs_par {i j : Nat} {x y : Str} {a b : Expr} {px py pt : Pos} {kt k2 pt2} (hc : X.calm = true) (hN : X.N.Nodup) (hi : X.N[i]? = some x) (hj : X.N[j]? = some y) (hij : i ≠ j)
    (hx : X.env.scope.names.lookup x = some .local) (hy : X.env.scope.names.lookup y = some .local) (ha : GAl g X [a, b] dl)
    (hw : swappedStores [.Tuple [.Name x px, .Name y py] kt pt] (.Tuple [a, b] k2 pt2) X.env = pure (some [x, y]))
    (hs : swapsWithSole [.Tuple [.Name x px, .Name y py] kt pt] (.Tuple [a, b] k2 pt2) pos.line X.env = pure false := by rfl) :
    GS g X (.Assign [.Tuple [.Name x px, .Name y py] kt pt] (.Tuple [a, b] k2 pt2) pos) (dPar i j dl) := PS.weak (ps_par hc hN hi hj hij hx hy ha hw hs) fun D σ H ⟨c, F, env, m, E, r, h, o⟩ =>
  ⟨c, F, env, m, _, r, h, fun vs H' F' m' ds r' f rp ⟨d1, d2, e1, q⟩ => by
    subst e1
    cases rp with
    | cons p1 t1 =>
      cases t1 with
      | cons p2 t2 =>
        cases t2
        refine ⟨_, _, rfl, o.nx _ H' F' _ m' ((r'.setV p1).setV p2) ((r.evo f).sub fun a h => ?_) q⟩
        exact own_set r.len sl_no (own_set (by rw [List.length_set, List.length_set, r.len]) sl_no h)⟩
end
end G
namespace G
open PySem L2
inductive Src where
  | lst (a : Addr) | tup (a : Addr) | txt (x : Str)
def chars (x : Str) : List V := x.cps.toList.map fun c => V.str ⟨#[c]⟩
def Src.val : Src → V
  | .lst a => .ref a
  | .tup a => .ref a
  | .txt x => .str x
def Src.ok (K : PySem.W.Frag) (H : Hp) : Src → List V → Prop
  | .lst a, xs => SqL K H a xs
  | .tup a, xs => SqT K H a xs
  | .txt x, xs => xs = chars x
def Src.st (it : Addr) : Src → Nat → Heap → Prop
  | .lst a, i, h => h.IsListIter it a i
  | .tup a, i, h => h.IsTupleIter it a i
  | .txt x, i, h => ∃ t, h.IsStrIter it (strIterType x) x t i
theorem chars_get {x : Str} {i c : Nat} (h : x.cps[i]? = some c) : (chars x)[i]? = some (.str ⟨#[c]⟩) := by
  unfold chars
  rw [List.getElem?_map, Array.getElem?_toList, h]
  rfl
theorem chars_len (x : Str) : (chars x).length = x.cps.size := by unfold chars; rw [List.length_map, Array.length_toList]
section
variable {X : Cx} {pins : List (Addr × Obj)} {σ : St} {H : Hp} {s : Shared}
theorem Src.inj (I : Inv X pins σ H s) {S : Src} {xs ys : List V} (h : S.ok X.K H xs) (h' : S.ok X.K H ys) : xs = ys := by
  cases S with
  | lst a => exact I.list_inj h h'
  | tup a => exact I.tuple_inj h h'
  | txt x => exact Eq.trans h (Eq.symm h')
theorem sq_apart {P : Prop} (I : Inv X pins σ H s) {a b : Addr} (h : (∃ u, Rd H a u) ∨ ∃ o, X.K.lookup a = some o) (f : FpOk X pins H b) : a ≠ b := by
  intro e
  subst e
  obtain ⟨f0, _, _, f3, _⟩ := f
  rcases h with ⟨u, h⟩ | ⟨o, h⟩
  · rcases h with h | ⟨_, h⟩
    · rw [f0] at h; cases h
    · rw [f0] at h; cases h
  · have hb := I.ok.mod.kin a o h
    rcases f3 with q | q
    · exact I.ok.noex a o hb q
    · have := Heap.lt_size ((I.ok.bs a o hb).1)
      exact absurd this (Nat.not_lt.mpr q)
theorem sqL_there {K : PySem.W.Frag} {a : Addr} {xs : List V} (h : SqL K H a xs) : (∃ u, Rd H a u) ∨ ∃ o, K.lookup a = some o := by
  rcases h with h | ⟨o, _, _, h, _⟩
  · exact .inl ⟨_, h⟩
  · exact .inr ⟨o, h⟩
theorem sqT_there {K : PySem.W.Frag} {a : Addr} {xs : List V} (h : SqT K H a xs) : (∃ u, Rd H a u) ∨ ∃ o, K.lookup a = some o := by
  rcases h with h | ⟨o, _, _, h, _⟩
  · exact .inl ⟨_, h⟩
  · exact .inr ⟨o, h⟩
theorem Src.draws (I : Inv X pins σ H s) {A : Around} (hh : A.handled = none) {S : Src} {xs : List V} (ok : S.ok X.K H xs) {it : Addr} {i : Nat} (st : S.st it i s.heap) (f : FpOk X pins H it) :
    ∃ (fp : List Addr) (P : Nat → Value → Prop) (T : Nat → Heap → Prop), Draws X.prog X.w A it fp xs.length P T ∧ T i s.heap ∧ (∀ j h, T j h → S.st it j h) ∧ (∀ j u, P j u → ∃ v, xs[j]? = some v ∧ RelV v u) ∧ it ∈ fp ∧ ∀ b ∈ fp, b = it ∨ ∀ c, FpOk X pins H c → b ≠ c := by
  cases S with
  | lst a =>
    obtain ⟨its, rv, pl, _⟩ := I.list ok
    have na : a ≠ it := sq_apart (P := True) I (sqL_there ok) f
    have DD := Draws.list (prog := X.prog) (w := X.w) hh it a na its.toArray
    rw [List.size_toArray, ← rv.length] at DD
    refine ⟨[it, a], _, _, DD, ⟨st, pl.isList⟩, fun j h q => q.1, fun j u q => ?_, by simp, fun b hb => ?_⟩
    · have q' : its[j]? = some u := by simpa using q
      have hj : j < xs.length := by rw [rv.length]; exact (List.getElem?_eq_some_iff.mp q').1
      have e : xs[j]? = some xs[j] := List.getElem?_eq_getElem hj
      obtain ⟨u', h1, h2⟩ := rv.get e
      rw [q'] at h1
      cases h1
      exact ⟨_, e, h2⟩
    · rcases List.mem_cons.mp hb with e | e
      · exact .inl e
      · have e : b = a := by simpa using e
        subst e
        exact .inr fun c fc => sq_apart (P := True) I (sqL_there ok) fc
  | tup a =>
    obtain ⟨its, rv, pl, _⟩ := I.tuple ok
    have na : a ≠ it := sq_apart (P := True) I (sqT_there ok) f
    have DD := Draws.tuple (prog := X.prog) (w := X.w) hh it a na its.toArray
    rw [List.size_toArray, ← rv.length] at DD
    refine ⟨[it, a], _, _, DD, ⟨st, pl⟩, fun j h q => q.1, fun j u q => ?_, by simp, fun b hb => ?_⟩
    · have q' : its[j]? = some u := by simpa using q
      have hj : j < xs.length := by rw [rv.length]; exact (List.getElem?_eq_some_iff.mp q').1
      have e : xs[j]? = some xs[j] := List.getElem?_eq_getElem hj
      obtain ⟨u', h1, h2⟩ := rv.get e
      rw [q'] at h1
      cases h1
      exact ⟨_, e, h2⟩
    · rcases List.mem_cons.mp hb with e | e
      · exact .inl e
      · have e : b = a := by simpa using e
        subst e
        exact .inr fun c fc => sq_apart (P := True) I (sqT_there ok) fc
  | txt x =>
    have ok' : xs = chars x := ok
    subst ok'
    obtain ⟨t, st⟩ := st
    refine ⟨[it], _, _, chars_len x ▸ Draws.text hh it x t, st, fun j h q => ⟨t, q⟩, fun j u q => ?_, by simp, fun b hb => .inl (by simpa using hb)⟩
    obtain ⟨ch, u', h1, rfl⟩ := q
    exact ⟨_, chars_get h1, ⟨u', rfl⟩⟩
theorem Src.stay {S : Src} {it : Addr} {i : Nat} {h h' : Heap} (st : S.st it i h) (k : ∀ o, h.get? it = some o → h'.get? it = some o) : S.st it i h' := by
  cases S with
  | lst a => exact Heap.IsListIter.at st k
  | tup a => exact Heap.IsTupleIter.at st k
  | txt x => obtain ⟨t, o, ho, r⟩ := st; exact ⟨t, o, k o ho, r⟩
theorem Src.obj {S : Src} {it : Addr} {i : Nat} {h : Heap} (st : S.st it i h) : ∃ o, h.get? it = some o ∧ ∀ v, o.data ≠ .cell v := by
  cases S with
  | lst a => obtain ⟨o, e, _, d⟩ := st; exact ⟨o, e, fun v q => by rw [d] at q; cases q⟩
  | tup a => obtain ⟨o, e, _, d⟩ := st; exact ⟨o, e, fun v q => by rw [d] at q; cases q⟩
  | txt x => obtain ⟨t, o, e, _, d⟩ := st; exact ⟨o, e, fun v q => by rw [d] at q; cases q⟩
end
theorem Src.begins {X : Cx} {pins : List (Addr × Obj)} {σ : St} {H : Hp} {s : Shared} (I : Inv X pins σ H s) {S : Src} {xs : List V} (ok : S.ok X.K H xs) {u : Value} (r : RelV S.val u) :
    ∃ (o : Obj) (T : Heap → Prop), Begins u o T ∧ T s.heap ∧ ∀ (it : Addr) (h : Heap), h.get? it = some o → S.st it 0 h := by
  cases S with
  | lst a =>
    obtain ⟨its, rv, pl, _⟩ := I.list ok
    cases r
    exact ⟨_, _, begins_list a its.toArray, pl.isList, fun it h e => ⟨_, e, rfl, rfl⟩⟩
  | tup a =>
    obtain ⟨its, rv, pl, _⟩ := I.tuple ok
    cases r
    exact ⟨_, _, begins_tuple a its.toArray, pl, fun it h e => ⟨_, e, rfl, rfl⟩⟩
  | txt x =>
    obtain ⟨t, rfl⟩ := r
    exact ⟨_, _, begins_text x t, trivial, fun it h e => ⟨t, _, e, rfl, rfl⟩⟩
set_option maxHeartbeats 1000000 in
theorem meets_enum1 {v : Value} {o : Obj} {T : Heap → Prop} (B : Begins v o T) :
    Meets (Builtin.«enumerate.__new__» ⟨[.type "enumerate", v], []⟩) (fun _ R s => T s.heap ∧
      R (.ok (.ret (.ref (s.heap.push o).objs.size))) { s with heap := (s.heap.push o).push { cls := .type "enumerate", data := .fields #[.none, .bool false, .ref s.heap.objs.size, rawInt 0, .none, .none] } }) :=
  .of_wp fun prog w A R s h => by
    obtain ⟨hp, gg, dd, tk, os⟩ := s
    obtain ⟨h1, h⟩ := h
    have hsub := sub_enumerate
    have q1 : ∀ {A' : Around} {E : Value → Shared → Prop} {Q : Value → Shared → Prop}, Q (.ref hp.objs.size) ⟨hp.push o, gg, dd, tk, os⟩ → wpAny (model prog w) A' (pyIter v) Q E ⟨hp, gg, dd, tk, os⟩ :=
      fun q => B.iter prog w _ _ ⟨hp, gg, dd, tk, os⟩ _ h1 q
    wp_walk using q1
    refine wpAny_stack_any fun st => wpAny_pure ?_
    split
    · rename_i cc _ _ _ _ _
      cases (cc == Value.type "enumerate") <;> (wp_walk using q1; exact ⟨_, rfl, h⟩)
    · wp_walk using q1
      exact ⟨_, rfl, h⟩
theorem enum1_begins {prog : Program} {w : World} {A : Around} {E : Value → Shared → Prop} {s : Shared} {v : Value} {o : Obj} {T : Heap → Prop} {Q : Value → Shared → Prop} (B : Begins v o T) (h1 : T s.heap)
    (h : ∀ h', IsEnum h' (s.heap.objs.size + 1) s.heap.objs.size 0 .none → h'.get? s.heap.objs.size = some o → h'.objs.size = s.heap.objs.size + 2 →
      (∀ b o, s.heap.get? b = some o → h'.get? b = some o) → Q (.ref (s.heap.objs.size + 1)) { s with heap := h' }) :
    wpAny (model prog w) A (call (.type "enumerate") [v]) Q E s := by
  refine callType_new F.called_enumerate (by decide) (F.typeCall_enumerate_1 _) (F.newCall_enumerate_1 _) (fun obj => F.args_object_init_2 obj _) F.entry_enumerate_new (meets_enum1 B) ⟨h1, ?_⟩
  have hz : (s.heap.push o).objs.size = s.heap.objs.size + 1 := Heap.size_push ..
  show _ ∧ _
  rw [hz]
  have he : IsEnum ((s.heap.push o).push { cls := .type "enumerate", data := .fields #[.none, .bool false, .ref s.heap.objs.size, rawInt 0, .none, .none] }) (s.heap.objs.size + 1) s.heap.objs.size 0 .none := by
    have := Heap.get?_push_size (s.heap.push o) (o := { cls := .type "enumerate", data := .fields #[.none, .bool false, .ref s.heap.objs.size, rawInt 0, .none, .none] }) rfl
    rw [hz] at this
    exact this
  exact ⟨⟨_, he, rfl⟩, h _ he (Heap.get?_push_of_some _ (Heap.get?_push_size _ B.free)) (by rw [Heap.size_push, hz]) fun b o x => Heap.get?_push_of_some _ (Heap.get?_push_of_some _ x)⟩
def ItE (K : PySem.W.Frag) (S : Src) : It :=
  ⟨fun i H => ∃ (xs : List V) (x : V), S.ok K H xs ∧ xs[i]? = some x,
   fun i H v H' => ∃ T x, v = .ref T ∧ H T = none ∧ H' = upd H T (.tup [.int (i : Nat), x]) ∧ ∀ xs, S.ok K H xs → xs[i]? = some x,
   fun i H => ∃ xs : List V, S.ok K H xs ∧ i = xs.length⟩
def ESt (S : Src) (e it : Addr) (i : Nat) (h : Heap) : Prop := (∃ old, IsEnum h e it (0 + (i : Int)) old) ∧ S.st it i h
theorem turnE {P : Program} {w : World} {K : PySem.W.Frag} {elts : List Expr} {kk : Nat} {tpos : Pos} {S : Src} {e it : Addr} (hne : e ≠ it) :
    Turn P w K (.Tuple elts kk tpos) (ItE K S) [e, it] e (ESt S e it) where
  mem := by simp
  obj := fun i h st c hc => by
    obtain ⟨⟨old, he⟩, s1⟩ := st
    simp only [List.mem_cons, List.not_mem_nil, or_false] at hc
    rcases hc with rfl | rfl
    · exact ⟨_, he, fun v q => nomatch q⟩
    · exact (Src.obj s1)
  keep := fun i h h' st k => by
    obtain ⟨⟨old, he⟩, s1⟩ := st
    exact ⟨⟨old, k e (by simp) _ he⟩, Src.stay s1 (k it (by simp))⟩
  item := by
    intro X hP hw hK hc i pins s σ H E I hf st hg
    subst hP hw hK
    obtain ⟨⟨old, he⟩, s1⟩ := st
    obtain ⟨xs, x, ok1, hx⟩ := hg
    have hd : X.A.in1.handled = none := I.ok.hd hc
    obtain ⟨fp1, P1, T1, D1, t1, c1, r1, m1, a1⟩ := Src.draws I hd ok1 s1 (hf it (by simp))
    have nef : e ∉ fp1 := fun q => (a1 e q).elim (fun z => hne z) fun k => k e (hf e (by simp)) rfl
    have W := GoesN.enumFrom (A := X.A) (elts := elts) (x1 := kk) (pos := tpos) 0 D1 e hne nef m1
    have l1 := (List.getElem?_eq_some_iff.mp hx).1
    refine W.goes i s (fun u s2 => ∃ x H', Inv X pins σ H' s2 ∧ RelV x u ∧ (ItE X.K S).yld i H x H' ∧ ESt S e it (i + 1) s2.heap ∧ ∀ b ∈ [e, it], H' b = none) E l1 ⟨⟨old, he⟩, t1⟩ fun v h' tk hY st' hk htk => ?_
    obtain ⟨T, t, u1, rfl, hT, p1, isT⟩ := hY
    obtain ⟨v1, e1, q1⟩ := r1 i u1 p1
    rw [hx] at e1
    cases e1
    have hn : H T = none := I.hok.fresh hT
    have new : ObjOk X.prog X.w (upd H T (.tup [.int (i : Nat), x])) h' T (.tup [.int (i : Nat), x]) := ⟨by show 2 ≤ sizeLine; decide, [.int (0 + (i : Int)) t, u1], .cons ⟨t, by rw [Int.zero_add]⟩ (.cons q1 .nil), isT⟩
    have I1 := I.turnedNew (t' := tk) (h' := h') (ch := [e, it]) (fun b o hb q => hk b o hb q) hf hT new
    refine ⟨.ref T, _, I1, rfl, ⟨T, x, rfl, hn, rfl, fun l hl => by rw [Src.inj I hl ok1]; exact hx⟩, ?_, fun b hb => ?_⟩
    · obtain ⟨he', t1'⟩ := st'
      exact ⟨he', c1 _ _ t1'⟩
    · have hb0 := (hf b hb).1
      have hne : b ≠ T := fun z => by
        subst z
        have : ∃ o, s.heap.get? b = some o := by
          simp only [List.mem_cons, List.not_mem_nil, or_false] at hb
          rcases hb with rfl | rfl
          · exact ⟨_, he⟩
          · obtain ⟨o, z, _⟩ := (Src.obj s1); exact ⟨o, z⟩
        obtain ⟨o, z⟩ := this
        exact absurd (Heap.lt_size z) (Nat.not_lt.mpr hT)
      rw [upd_ne hne]
      exact hb0
  done := by
    intro X hP hw hK hc i pins s σ H E I hf st hg
    subst hP hw hK
    obtain ⟨⟨old, he⟩, s1⟩ := st
    obtain ⟨xs, ok1, hi⟩ := hg
    have hd : X.A.in1.handled = none := I.ok.hd hc
    obtain ⟨fp1, P1, T1, D1, t1, c1, r1, m1, a1⟩ := Src.draws I hd ok1 s1 (hf it (by simp))
    have nef : e ∉ fp1 := fun q => (a1 e q).elim (fun z => hne z) fun k => k e (hf e (by simp)) rfl
    have W := GoesN.enumFrom (A := X.A) (elts := elts) (x1 := kk) (pos := tpos) 0 D1 e hne nef m1
    refine W.stops s (fun s1 => Inv X pins σ H s1) E (by rw [← hi]; exact ⟨⟨old, he⟩, t1⟩) fun h' tk hk htk => ?_
    exact I.turnedL (t' := tk) (ch := [e, it]) (fun b o hb q => hk b o hb q) hf
  self := fun A' i s Q E st h => let ⟨⟨_, he⟩, _⟩ := st; wpAny_pyIter_enum he h
def iEnumG (K : PySem.W.Frag) (ta : TA) : TI := fun σ H R => ta σ H fun vs H1 => ∃ S xs, vs = [S.val] ∧ S.ok K H1 xs ∧ R (ItE K S) H1
theorem pi_enumG {X : Cx} {e : Expr} {ta : TA} {p pos tpos : Pos} {elts : List Expr} {kk : Nat} (hg : Gl X "enumerate") (hm : X.mg "enumerate" = none) (ha : PA X [e] ta) (hs : starEach [e] X.env = [(false, eval e X.env)] := by rfl) :
    PI X (.Tuple elts kk tpos) (.Call (.Name "enumerate" p) [e] [] pos) (iEnumG X.K ta) := by
  refine ⟨fun pins s σ H R I h => ?_⟩
  refine PyProof.Rows.Call_ (ld_blt I hg hm PyProof.Rows.boot_enumerate (PyProof.Rows.callWith_type1 (thn (ha.run pos pins s σ H _ I h) fun us s1 ⟨vs, H1, I1, r1, q1⟩ => ?_) hs rfl))
  obtain ⟨S, xs, ex, ok1, q⟩ := q1
  subst ex
  obtain ⟨u1, rfl, ru1⟩ := r1.one
  obtain ⟨o1, T1, B1, t1, k1⟩ := Src.begins I1 ok1 ru1
  refine enum1_begins B1 t1 fun h' he g1 hsz hk => wpAny_pyIter_enum he ?_
  have I2 : Inv X pins σ H1 { s1 with heap := h' } := I1.kept (t' := s1.toks) hk
  refine ⟨s1.heap.objs.size + 1, [s1.heap.objs.size + 1, s1.heap.objs.size], _, _, H1, rfl, I2, turnE (S := S) (Nat.succ_ne_self _), ⟨⟨.none, he⟩, k1 _ _ g1⟩, fun b hb => ?_, q⟩
  have hle : s1.heap.objs.size ≤ b := by
    simp only [List.mem_cons, List.not_mem_nil, or_false] at hb
    rcases hb with rfl | rfl
    · exact Nat.le_add_right _ _
    · exact Nat.le_refl _
  exact I1.fpOk hle (I1.hok.fresh hle)
def Src.J (K : PySem.W.Frag) : Src → It
  | .lst a => Itl K a
  | .tup a => Itt K a
  | .txt x => Its x
def iSrc (K : PySem.W.Frag) (te : TE) : TI := fun σ H R => te σ H fun v H1 => ∃ S xs, v = Src.val S ∧ S.ok K H1 xs ∧ R (S.J K) H1
theorem pi_src {X : Cx} {tg l : Expr} {tl : TE} (hl : PE X l tl) : PI X tg l (iSrc X.K tl) := by
  refine ⟨fun pins s σ H R I h => ?_⟩
  refine thn (hl.run pins s σ H _ I h) fun v s1 ⟨x, H1, I1, r1, S, xs, ex, ok, q⟩ => ?_
  subst ex
  cases S with
  | txt x =>
    obtain ⟨t, rfl⟩ := r1
    cases ha : x.cps.all (· < 128)
    · refine wpAny_pyIter_wide ha ?_
      exact pi_one (tk := s1.toks) I1 _ (turn_str _ x t "str_iterator" (.inr rfl)) ⟨_, Heap.get?_push_size _ rfl, rfl, rfl⟩ q
    · refine wpAny_pyIter_ascii ha ?_
      exact pi_one (tk := s1.toks) I1 _ (turn_str _ x t "str_ascii_iterator" (.inl rfl)) ⟨_, Heap.get?_push_size _ rfl, rfl, rfl⟩ q
  | lst a =>
    cases r1
    obtain ⟨its, rv, p, hz⟩ := I1.list ok
    refine wpAny_pyIter_list p.isList ?_
    exact pi_one (tk := s1.toks) I1 _ (turn_list a _) ⟨_, Heap.get?_push_size _ rfl, rfl, rfl⟩ q
  | tup a =>
    cases r1
    obtain ⟨its, rv, p, hz⟩ := I1.tuple ok
    refine wpAny_pyIter_tuple (show s1.heap.IsTuple a its.toArray from p) ?_
    exact pi_one (tk := s1.toks) I1 _ (turn_tuple a _) ⟨_, Heap.get?_push_size _ rfl, rfl, rfl⟩ q
end G
namespace G
open PySem L2
def charsD (x : Str) : List D := x.cps.toList.map fun c => D.str ⟨#[c]⟩
def srcD : D → Option (List D)
  | .lst ds => some ds
  | .tup ds => some ds
  | .str s => some (charsD s)
  | _ => none
def enumD (ds : List D) : List D := ds.zipIdx.map fun p => .tup [.int (p.2 : Nat), p.1]
def rangeD (a b : Int) : List D := (List.range (b - a).toNat).map fun i => .int (a + (i : Nat))
def WalkD (K : PySem.W.Frag) (g : Gp) (F : Hp) (lk : List (Addr × HO)) (J : It) (its : List D) : Prop := ∀ (i : Nat) (F2 H2 : Hp), Ex F F2 → Ex F2 H2 → (∀ p ∈ lk, H2 p.1 = some p.2) →
  (∀ d, its[i]? = some d → J.go i H2 ∧ ∀ x H3, J.yld i H2 x H3 → ∃ F3, New F2 H2 F3 H3 ∧ Rep K g F3 d x) ∧ (i = its.length → J.stop i H2)
def tI (K : PySem.W.Frag) (g : Gp) (bor : Bool) (di : DL) : TI := fun σ H R => ∃ c F env m Q, Rel K g c F env m σ H ∧ di env m Q ∧
  ∀ J H' F' m' its lk, Rel K g c F' env m' σ H' → Fresh c F H F' H' → (bor = false → lk = []) → (∀ p ∈ lk, H' p.1 = some p.2 ∧ c ≠ some p.1 ∧ isT p.2 = false) → WalkD K g F' lk J its → Q its m' → R J H'
def GI (bor : Bool) (g : Gp) (X : Cx) (tg iter : Expr) (di : DL) : Prop := PI X tg iter (tI X.K g bor di)
theorem PI.weak {X : Cx} {tg e : Expr} {t t' : TI} (h : PI X tg e t) (w : ∀ σ H Q, t' σ H Q → t σ H Q) : PI X tg e t' := ⟨fun pins s σ H Q I q => h.run pins s σ H Q I (w σ H Q q)⟩
section
variable {g : Gp} {X : Cx} {tg e e2 : Expr} {d da db : DE} {dl di : DL} {pos p : Pos}
theorem gi_bor (h : GI false g X tg e di) : GI true g X tg e di := PI.weak h fun σ H R ⟨c, F, env, m, Q, r, hd, k⟩ => ⟨c, F, env, m, Q, r, hd, fun J H' F' m' its lk r' f hl hk w q => k J H' F' m' its lk r' f (fun z => nomatch z) hk w q⟩
def SrcR (K : PySem.W.Frag) (g : Gp) (F : Hp) (lk : List (Addr × HO)) (S : Src) (ds : List D) : Prop := ∃ xs, RepL K g F ds xs ∧ ∀ F2 H2, Ex F F2 → Ex F2 H2 → (∀ p ∈ lk, H2 p.1 = some p.2) → S.ok K H2 xs
theorem chars_rep {K : PySem.W.Frag} {F : Hp} (x : Str) : RepL K g F (charsD x) (chars x) := by
  unfold charsD chars
  induction x.cps.toList with
  | nil => exact .nil
  | cons c r ih => exact .cons (.str _) ih
theorem src_rep {K : PySem.W.Frag} {F : Hp} {x : D} {v : V} {ds : List D} (h : Rep K g F x v) (e : srcD x = some ds) : ∃ S, v = Src.val S ∧ SrcR K g F [] S ds := by
  cases h with
  | str s => cases e; exact ⟨.txt s, rfl, _, chars_rep s, fun _ _ _ _ _ => rfl⟩
  | lst h r => cases e; exact ⟨.lst _, rfl, _, r, fun F2 H2 e1 e2 _ => SqL.of (e2 _ _ (e1 _ _ h))⟩
  | tup h r => cases e; exact ⟨.tup _, rfl, _, r, fun F2 H2 e1 e2 _ => Evl.ex_t e2 (Evl.ex_t e1 h)⟩
  | _ => cases e
theorem src_repT {K : PySem.W.Frag} {c : Option Addr} {F H : Hp} {x : D} {v : V} {ds : List D} (h : RepT K g c F H x v) (e : srcD x = some ds) : ∃ S lk, v = Src.val S ∧ SrcR K g F lk S ds ∧ ∀ p ∈ lk, H p.1 = some p.2 ∧ c ≠ some p.1 ∧ isT p.2 = false := by
  cases x with
  | lst es =>
    cases e
    obtain ⟨p, xs, rfl, h1, h2, h3⟩ := h
    exact ⟨.lst p, [(p, .lst xs)], rfl, ⟨xs, h2, fun F2 H2 e1 e2 k => SqL.of (k (p, .lst xs) (by simp))⟩, fun q hq => by simp only [List.mem_singleton] at hq; subst hq; exact ⟨h1, h3, rfl⟩⟩
  | dic kds => cases e
  | dit kds => cases e
  | _ =>
    obtain ⟨S, e1, e2⟩ := src_rep (show Rep K g F _ v from h) e
    exact ⟨S, [], e1, e2, fun _ q => by cases q⟩
theorem SrcR.more {K : PySem.W.Frag} {F F' : Hp} {lk lk' : List (Addr × HO)} {S : Src} {ds : List D} (h : SrcR K g F lk S ds) (e : Ex F F') (s : ∀ p ∈ lk, p ∈ lk') : SrcR K g F' lk' S ds := by
  obtain ⟨xs, r, k⟩ := h
  exact ⟨xs, r.mono e, fun F2 H2 e1 e2 q => k F2 H2 (e.trans e1) e2 fun p hp => q p (s p hp)⟩
theorem walk_src {K : PySem.W.Frag} {F : Hp} {lk : List (Addr × HO)} {S : Src} {ds : List D} (h : SrcR K g F lk S ds) : WalkD K g F lk (S.J K) ds := by
  obtain ⟨xs, r, k⟩ := h
  intro i F2 H2 e1 e2 q
  have ok := k F2 H2 e1 e2 q
  have r2 := r.mono e1
  refine ⟨fun d hd => ?_, fun hi => ?_⟩
  · obtain ⟨v, hv, rv⟩ := r2.get hd
    cases S with
    | lst a => exact ⟨⟨xs, v, ok, hv⟩, fun x H3 ⟨e, y⟩ => by subst e; have := y xs ok; rw [hv] at this; cases this; exact ⟨F2, New.refl e2, rv⟩⟩
    | tup a => exact ⟨⟨xs, v, ok, hv⟩, fun x H3 ⟨e, y⟩ => by subst e; have := y xs ok; rw [hv] at this; cases this; exact ⟨F2, New.refl e2, rv⟩⟩
    | txt x =>
      have ok' : xs = chars x := ok
      subst ok'
      have hl := (List.getElem?_eq_some_iff.mp hv).1
      rw [chars_len] at hl
      refine ⟨hl, fun y H3 ⟨e, c, hc, ey⟩ => ?_⟩
      subst e ey
      have := chars_get hc
      rw [hv] at this
      cases this
      exact ⟨F2, New.refl e2, rv⟩
  · have hl : i = xs.length := by rw [r.length]; exact hi
    cases S with
    | lst a => exact ⟨xs, ok, by omega⟩
    | tup a => exact ⟨xs, ok, by omega⟩
    | txt x =>
      have ok' : xs = chars x := ok
      subst ok'
      rw [chars_len] at hl
      show x.cps.size ≤ i
      omega
def dISrc (d : DE) : DL := fun env m Q => d env m fun x m1 => ∃ ds, srcD x = some ds ∧ Q ds m1
theorem gi_src (he : GE g X e d) : GI false g X tg e (dISrc d) := PI.weak (pi_src he) fun σ H R ⟨c, F, env, m, Q, r, hd, k⟩ =>
  ⟨c, F, env, m, _, r, hd, fun v H' F' m' x r' f rp ⟨ds, e1, q⟩ => by
    obtain ⟨S, rfl, sr⟩ := src_rep rp e1
    obtain ⟨xs, rl, ok⟩ := id sr
    exact ⟨S, xs, rfl, ok F' H' (fun _ _ h => h) r'.sub (fun _ z => by cases z), k _ H' F' m' ds [] r' f (fun _ => rfl) (fun _ z => by cases z) (walk_src sr) q⟩⟩
theorem gi_srcB (he : GB g X e d) : GI true g X tg e (dISrc d) := PI.weak (pi_src he) fun σ H R ⟨c, F, env, m, Q, r, hd, k⟩ =>
  ⟨c, F, env, m, _, r, hd, fun v H' F' m' x r' f rp ⟨ds, e1, q⟩ => by
    obtain ⟨S, lk, rfl, sr, hk⟩ := src_repT rp e1
    obtain ⟨xs, rl, ok⟩ := id sr
    exact ⟨S, xs, rfl, ok F' H' (fun _ _ h => h) r'.sub (fun p hp => (hk p hp).1), k _ H' F' m' ds lk r' f (fun z => nomatch z) hk (walk_src sr) q⟩⟩
theorem enumD_get {ds : List D} {i : Nat} {d : D} (h : (enumD ds)[i]? = some d) : ∃ x, ds[i]? = some x ∧ d = .tup [.int (i : Nat), x] := by
  unfold enumD at h
  rw [List.getElem?_map, List.getElem?_zipIdx] at h
  cases q : ds[i]? with
  | none => rw [q] at h; cases h
  | some x => rw [q] at h; cases h; exact ⟨x, rfl, by simp⟩
theorem enumD_len (ds : List D) : (enumD ds).length = ds.length := by unfold enumD; rw [List.length_map, List.length_zipIdx]
theorem rep_pair {K : PySem.W.Frag} {F H : Hp} {T : Addr} {x y : V} {a b : D} (hT : H T = none) (e : Ex F H) (ra : Rep K g F a x) (rb : Rep K g F b y) : ∃ F3, New F H F3 (upd H T (.tup [x, y])) ∧ Rep K g F3 (.tup [a, b]) (.ref T) := by
  have n := New.fix (o := .tup [x, y]) e hT
  exact ⟨_, n, .tup (SqT.of upd_same) (.cons (ra.mono n.ff) (.cons (rb.mono n.ff) .nil))⟩
theorem walk_enum {K : PySem.W.Frag} {F : Hp} {lk : List (Addr × HO)} {S : Src} {ds : List D} (h : SrcR K g F lk S ds) : WalkD K g F lk (ItE K S) (enumD ds) := by
  obtain ⟨xs, r, k⟩ := h
  intro i F2 H2 e1 e2 q
  have ok := k F2 H2 e1 e2 q
  have r2 := r.mono e1
  refine ⟨fun d hd => ?_, fun hi => ?_⟩
  · obtain ⟨x, hx, rfl⟩ := enumD_get hd
    obtain ⟨v, hv, rv⟩ := r2.get hx
    refine ⟨⟨xs, v, ok, hv⟩, fun y H3 ⟨T, z, ey, hT, eH, hz⟩ => ?_⟩
    subst ey eH
    have := hz xs ok
    rw [hv] at this
    cases this
    exact rep_pair hT e2 (.int _) rv
  · exact ⟨xs, ok, by rw [r.length, ← enumD_len ds]; exact hi⟩
def dIEnum (d : DE) : DL := fun env m Q => d env m fun x m1 => ∃ ds, srcD x = some ds ∧ Q (enumD ds) m1
variable {elts : List Expr} {kk : Nat} {tpos : Pos}
theorem gi_enum (hg : Gl X "enumerate") (hm : X.mg "enumerate" = none) (he : GE g X e d) (hs : starEach [e] X.env = [(false, eval e X.env)] := by rfl) : GI false g X (.Tuple elts kk tpos) (.Call (.Name "enumerate" p) [e] [] pos) (dIEnum d) :=
  PI.weak (pi_enumG hg hm (pa_cons he pa_nil hs) hs) fun σ H R ⟨c, F, env, m, Q, r, hd, k⟩ =>
  ⟨c, F, env, m, _, r, hd, fun v H' F' m' x r' f rp ⟨ds, e1, q⟩ => by
    obtain ⟨S, rfl, sr⟩ := src_rep rp e1
    obtain ⟨xs, rl, ok⟩ := id sr
    exact ⟨S, xs, rfl, ok F' H' (fun _ _ h => h) r'.sub (fun _ z => by cases z), k _ H' F' m' _ [] r' f (fun _ => rfl) (fun _ z => by cases z) (walk_enum sr) q⟩⟩
theorem rangeD_get {a b : Int} {i : Nat} {d : D} (h : (rangeD a b)[i]? = some d) : i < (b - a).toNat ∧ d = .int (a + (i : Nat)) := by
  unfold rangeD at h
  rw [List.getElem?_map] at h
  cases q : (List.range (b - a).toNat)[i]? with
  | none => rw [q] at h; cases h
  | some j =>
    rw [q] at h
    cases h
    obtain ⟨h1, h2⟩ := List.getElem?_eq_some_iff.mp q
    rw [List.getElem_range] at h2
    subst h2
    exact ⟨by simpa using h1, rfl⟩
theorem rangeD_len (a b : Int) : (rangeD a b).length = (b - a).toNat := by unfold rangeD; rw [List.length_map, List.length_range]
theorem walk_range {K : PySem.W.Frag} {F : Hp} (a b : Int) : WalkD K g F [] (Itr a (b - a).toNat) (rangeD a b) := by
  intro i F2 H2 e1 e2 q
  refine ⟨fun d hd => ?_, fun hi => ?_⟩
  · obtain ⟨hl, rfl⟩ := rangeD_get hd
    refine ⟨hl, fun x H3 ⟨e, ex⟩ => ?_⟩
    subst e ex
    exact ⟨F2, New.refl e2, .int _⟩
  · rw [rangeD_len] at hi
    show (b - a).toNat ≤ i
    omega
def dIRng (d : DE) : DL := fun env m Q => d env m fun x m1 => ∃ n : Int, x = .int n ∧ -(2 ^ 62) ≤ n ∧ n < 2 ^ 62 ∧ Q (rangeD 0 n) m1
theorem gi_range (hg : Gl X "range") (hm : X.mg "range" = none) (he : GE g X e d) (hs : starEach [e] X.env = [(false, eval e X.env)] := by rfl) : GI false g X tg (.Call (.Name "range" p) [e] [] pos) (dIRng d) :=
  PI.weak (pi_range1 hg hm (pa_cons he pa_nil hs) hs) fun σ H R ⟨c, F, env, m, Q, r, hd, k⟩ =>
  ⟨c, F, env, m, _, r, hd, fun v H' F' m' x r' f rp ⟨n, e1, h1, h2, q⟩ => by
    subst e1
    cases rp
    refine ⟨n, rfl, h1, h2, k _ H' F' m' _ [] r' f (fun _ => rfl) (fun _ z => by cases z) ?_ q⟩
    have w := walk_range (K := X.K) (g := g) (F := F') 0 n
    rw [Int.sub_zero] at w
    exact w⟩
end
def ForR (f : D → Env' → Option Env') (body : DS) : List D → Env' → Nat → DEnds → Prop
  | [], env, m, E => E.nx env m
  | d :: ds, env, m, E => ∃ env2, f d env = some env2 ∧ body env2 m { E with nx := fun e' m' => ForR f body ds e' m' E, ct := fun e' m' => ForR f body ds e' m' E, bk := E.nx }
def dFor (di : DL) (f : D → Env' → Option Env') (body : DS) : DS := fun env m E => di env m fun its m1 => ForR f body its env m1 E
section
variable {g : Gp} {X : Cx} {tg iter : Expr} {di : DL} {T : TG} {f : D → Env' → Option Env'} {js : List Nat} {body : List Stmt} {s : DS} {t : DT} {pos : Pos}
theorem gs_for (hp : PassesOwn (model X.prog X.w) X.A X.env X.xe) (hc : X.calm = true) (hi : GI false g X tg iter di) (hg : GG g X tg T f js) (hb : GSs g X body s) (hs : ∀ x, foldedSetIterable iter X.env x = pure x := by intro _; rfl) :
    GS g X (.For tg iter body [] pos) (dFor di f s) := PS.weak (ps_for hp hc hi hg.pg hb hs) fun D σ H ⟨c, F, env, m, E, r, h, o⟩ =>
  ⟨c, F, env, m, _, r, h, fun J H1 F1 m1 its lk r1 f1 hl hk w q => by
    have hl := hl rfl
    subst hl
    have v1 := r.evo f1
    refine ⟨fun i k σ' H' => ∃ F' env' m', k = its.length - i ∧ i ≤ its.length ∧ Rel X.K g c F' env' m' σ' H' ∧ Evo c (Own env σ) F H (Own env' σ') F' H' ∧ Ex F1 F' ∧ ForR f s (its.drop i) env' m' E, ⟨its.length, F1, env, m1, rfl, Nat.zero_le _, r1, v1, fun _ _ h => h, q⟩, ?_⟩
    rintro i k σ' H' ⟨F', env', m', rfl, hi, r', v', e', q'⟩
    obtain ⟨go, stop⟩ := w i F' H' e' r'.sub (fun _ z => by cases z)
    by_cases hlt : i < its.length
    · have hd : its[i]? = some its[i] := List.getElem?_eq_getElem hlt
      rw [List.drop_eq_getElem_cons hlt] at q'
      obtain ⟨g1, g2⟩ := go _ hd
      obtain ⟨env2, e2, q2⟩ := q'
      refine .inr ⟨g1, fun σ2 H2 => ∃ F2 env2 m2, Rel X.K g c F2 env2 m2 σ2 H2 ∧ Evo c (Own env σ) F H (Own env2 σ2) F2 H2 ∧ Ex F1 F2 ∧ ForR f s (its.drop (i + 1)) env2 m2 E, fun σ2 H2 ⟨F2, env2, m2, a1, a2, a3, a4⟩ => ⟨its.length - (i + 1), by omega, F2, env2, m2, rfl, by omega, a1, a2, a3, a4⟩, fun x H3 y => ?_⟩
      obtain ⟨F3, n3, rp3⟩ := g2 x H3 y
      have r3 := r'.new n3
      have v3 := v'.trans (r'.evo (n3.fresh r'.ck))
      refine hg.ok c F3 env' m' σ' H3 _ x env2 _ r3 rp3 e2 fun σ4 r4 o4 _ _ => ?_
      have v4 := v3.sub o4
      refine ⟨c, F3, env2, m', _, r4, q2, ⟨fun σ5 H5 F5 env5 m5 r5 v5 q5 => ?_, fun σ5 H5 F5 env5 m5 r5 v5 q5 => ?_, fun σ5 H5 F5 env5 m5 r5 v5 q5 => ?_, fun u H5 F5 m5 y k5 v5 rp5 q5 => ?_⟩⟩
      · exact ⟨F5, env5, m5, r5, v4.trans v5, (e'.trans n3.ff).trans v5.ff, q5⟩
      · exact o.nx σ5 H5 F5 env5 m5 r5 (v4.trans v5) q5
      · exact ⟨F5, env5, m5, r5, v4.trans v5, (e'.trans n3.ff).trans v5.ff, q5⟩
      · exact o.rt u H5 F5 m5 y k5 (v4.trans v5) rp5 q5
    · have hi' : i = its.length := by omega
      refine .inl ⟨stop hi', ?_⟩
      rw [List.drop_eq_nil_of_le (by omega)] at q'
      exact o.nx σ' H' F' env' m' r' v' q'⟩
end
theorem new_weak {g : Gp} {X : Cx} {d : DL} : ∀ σ H Q, tD X.K g (dNew d) σ H Q → tN X.K g d σ H Q := fun σ H Q ⟨c, F, env, m, Q1, r, hd, k⟩ => ⟨c, F, env, m, _, r, hd, fun p H' F' m' ds xs r' f h0 hp hc h1 h2 q => by
  have n := fix_fresh (K := X.K) f h0 hp hc h1
  exact k _ H' _ m' (.lst ds) (r.fresh n ⟨fun a e => ⟨n.nc a e, (r'.ck a e).2⟩, r'.ck.tb.fix h1 hp⟩) n (.lst upd_same (RepL.mono (Evl.Ex.new hp) h2)) q⟩
def wipeE (env : Env') : List Nat → Env'
  | [] => env
  | v :: vs => (wipeE env vs).set v .no
theorem Rel.wipe {K : PySem.W.Frag} {g : Gp} {c : Option Addr} {F H : Hp} {env : Env'} {m : Nat} {σ : St} (r : Rel K g c F env m σ H) : ∀ vs : List Nat, Rel K g c F (wipeE env vs) m (wipe σ vs) H
  | [] => r
  | _ :: vs => (Rel.wipe r vs).setNo
theorem wipe_get : ∀ (vs : List Nat) (σ : St) (i : Nat), (wipe σ vs)[i]? = if i ∈ vs then (σ[i]?).map (fun _ => none) else σ[i]?
  | [], σ, i => by simp [wipe]
  | v :: vs, σ, i => by
    unfold wipe
    by_cases h : v = i
    · subst h
      by_cases hl : v < σ.length
      · rw [List.getElem?_set_self (by rw [wipe_length]; exact hl)]
        simp [List.getElem?_eq_getElem hl]
      · rw [List.set_eq_of_length_le (by rw [wipe_length]; omega), wipe_get vs σ v]
        simp [List.getElem?_eq_none (show σ.length ≤ v by omega)]
    · rw [List.getElem?_set_ne h, wipe_get vs σ i]
      have : (i ∈ v :: vs) ↔ i ∈ vs := by simp [Ne.symm h]
      simp only [this]
theorem wipe_same {σ σ2 : St} {vs : List Nat} (l : σ2.length = σ.length) (h : ∀ i, i ∉ vs → σ2[i]? = σ[i]?) : L2.wipe σ2 vs = L2.wipe σ vs := by
  refine List.ext_getElem? fun i => ?_
  rw [wipe_get, wipe_get]
  by_cases hi : i ∈ vs
  · rw [if_pos hi, if_pos hi]
    by_cases hl : i < σ.length
    · rw [List.getElem?_eq_getElem hl, List.getElem?_eq_getElem (by rw [l]; exact hl)]
      rfl
    · rw [List.getElem?_eq_none (show σ.length ≤ i by omega), List.getElem?_eq_none (show σ2.length ≤ i by omega)]
  · rw [if_neg hi, if_neg hi, h i hi]
theorem wipe_wipe (σ : St) (vs : List Nat) : L2.wipe (L2.wipe σ vs) vs = L2.wipe σ vs := wipe_same (wipe_length σ vs) fun i hi => by rw [wipe_get, if_neg hi]
def LcR (f : D → Env' → Option Env') (dt : DT) (de : DE) (env : Env') : List D → Nat → (List D → Nat → Prop) → Prop
  | [], m, Q => Q [] m
  | d :: ds, m, Q => ∃ env2, f d env = some env2 ∧ dt env2 m fun b m1 => if b = true then de env2 m1 fun y m2 => LcR f dt de env ds m2 fun ys m3 => Q (y :: ys) m3 else LcR f dt de env ds m1 Q
def dLc (di : DL) (f : D → Env' → Option Env') (dt : DT) (de : DE) (vs : List Nat) : DL := fun env m Q => di env m fun its m1 => its.length ≤ LL ∧ LcR f dt de (wipeE env vs) its m1 Q
def dYes : DT := fun _ m Q => Q true m
def GTs (g : Gp) (X : Cx) (ifs : List Expr) (d : DT) : Prop := PTs X ifs (tT X.K g d)
theorem PTs.weak {X : Cx} {e : List Expr} {t t' : TT} (h : PTs X e t) (w : ∀ σ H Q, t' σ H Q → t σ H Q) : PTs X e t' := ⟨fun pins s σ H Q I q => h.run pins s σ H Q I (w σ H Q q)⟩
theorem gts_nil {g : Gp} {X : Cx} : GTs g X [] dYes := PTs.weak pts_nil fun σ H Q ⟨c, F, env, m, Q1, r, h, k⟩ => k true H F m r (Fresh.refl r.sub r.ck) h
theorem gts_one {g : Gp} {X : Cx} {e : Expr} {d : DT} (h : GT g X e d) : GTs g X [e] d := pts_one h
section
variable {g : Gp} {X : Cx} {elt tg iter : Expr} {ifs : List Expr} {scope : Scope} {own : List (Str × Nat)} {pos : Pos} {di : DL} {T : TG} {f : D → Env' → Option Env'} {js : List Nat} {dt : DT} {de : DE}
theorem lc_weak (vs : List Nat) (hj : ∀ j ∈ js, j ∈ vs) (hg : ∀ (c : Option Addr) (F : Hp) (env : Env') (m : Nat) (σ : St) (H : Hp) (d : D) (v : V) (env2 : Env') (Q : St → Hp → Prop), Rel X.K g c F env m σ H → Rep X.K g F d v → f d env = some env2 →
    (∀ σ2, Rel X.K g c F env2 m σ2 H → (∀ a, Own env2 σ2 a → Own env σ a) → σ2.length = σ.length → (∀ i, i ∉ js → σ2[i]? = σ[i]?) → Q σ2 H) → T v σ H Q) :
    ∀ σ H Q, tN X.K g (dLc di f dt de vs) σ H Q → tLc (tI X.K g true di) T (tT X.K g dt) (tD X.K g de) vs σ H Q := fun σ H Q ⟨c, F, env, m, Q1, r, h, k⟩ =>
  ⟨c, F, env, m, _, r, h, fun J H1 F1 m1 its lk r1 f1 _ hk w ⟨hz, q⟩ => fun Dl hD => by
    have nD : F1 Dl = none := ex_none r1.sub hD
    have cD : c ≠ some Dl := fun z => by obtain ⟨_, xs, e, _⟩ := r1.ck Dl z; rw [hD] at e; cases e
    have hD0 : H Dl = none := by
      cases z : H Dl with
      | none => rfl
      | some o => exact (f1.sm z cD hD).elim
    refine ⟨fun i kk H' => ∃ F' m' acc accD, kk = its.length - i ∧ i ≤ its.length ∧ Fresh c F1 H1 F' H' ∧ Ck g c m' F' H' ∧ F' Dl = none ∧ H' Dl = some (.lst acc) ∧ RepL X.K g F' accD acc ∧ accD.length ≤ i ∧ LcR f dt de (wipeE env vs) (its.drop i) m' (fun ys m3 => Q1 (accD ++ ys) m3), ⟨its.length, F1, m1, [], [], rfl, Nat.zero_le _, ?_, ?_, nD, upd_same, .nil, Nat.le_refl _, q⟩, ?_⟩
    · have n := New.lay (F := F1) (o := .lst []) r1.sub hD
      exact n.fresh r1.ck
    · exact r1.ck.new (New.lay r1.sub hD)
    · rintro i kk H' ⟨F', m', acc, accD, rfl, hi, fr, ck, nF, hA, rA, lA, q'⟩
      have r' := r1.fresh fr ck
      have lk' : ∀ p ∈ lk, H' p.1 = some p.2 := fun p hp => fr.hh p.1 p.2 (hk p hp).1 (hk p hp).2.1 (hk p hp).2.2
      obtain ⟨go, stop⟩ := w i F' H' fr.ff r'.sub lk'
      by_cases hlt : i < its.length
      · have hd : its[i]? = some its[i] := List.getElem?_eq_getElem hlt
        rw [List.drop_eq_getElem_cons hlt] at q'
        obtain ⟨g1, g2⟩ := go _ hd
        obtain ⟨env2, e2, q2⟩ := q'
        refine .inr ⟨g1, fun H2 => ∃ F2 m2 acc2 accD2, Fresh c F1 H1 F2 H2 ∧ Ck g c m2 F2 H2 ∧ F2 Dl = none ∧ H2 Dl = some (.lst acc2) ∧ RepL X.K g F2 accD2 acc2 ∧ accD2.length ≤ i + 1 ∧ LcR f dt de (wipeE env vs) (its.drop (i + 1)) m2 (fun ys m3 => Q1 (accD2 ++ ys) m3), fun H2 ⟨F2, m2, acc2, accD2, a1, a2, a3, a4, a5, a6, a7⟩ => ⟨its.length - (i + 1), by omega, F2, m2, acc2, accD2, rfl, by omega, a1, a2, a3, a4, a5, a6, a7⟩, fun x H3 y => ?_⟩
        obtain ⟨F3, n3, rp3⟩ := g2 x H3 y
        have r3 := (r'.wipe vs).new n3
        have fr3 := fr.trans (n3.fresh ck)
        have ck3 := ck.new n3
        refine hg c F3 _ m' _ H3 _ x env2 _ r3 rp3 e2 fun σ4 r4 o4 l4 a4 => ⟨?_, ?_⟩
        · refine Eq.trans (wipe_same l4 fun j hj' => a4 j fun z => hj' (hj j z)) (wipe_wipe σ vs)
        · have keep : ∀ {F5 H5 : Hp}, Fresh c F3 H3 F5 H5 → F5 Dl = none ∧ H5 Dl = some (.lst acc) := fun {F5 H5} f5 => by
            have h3 : H3 Dl = some (.lst acc) := n3.hh _ _ hA
            refine ⟨?_, f5.hh _ _ h3 cD⟩
            cases z : F5 Dl with
            | none => rfl
            | some o =>
              rcases f5.new Dl o z with y | y
              · rcases n3.new Dl o y with u | u
                · rw [nF] at u; cases u
                · rw [hA] at u; cases u
              · rw [h3] at y; cases y
          refine ⟨c, F3, env2, m', _, r4, q2, fun b H5 F5 m5 r5 f5 q5 => ?_⟩
          cases b with
          | false =>
            obtain ⟨k1, k2⟩ := keep f5
            exact ⟨F5, m5, acc, accD, fr3.trans f5, r5.ck, k1, k2, (rA.mono n3.ff).mono f5.ff, by omega, q5⟩
          | true =>
            refine ⟨c, F5, env2, m5, _, r5, q5, fun v6 H6 F6 m6 y6 r6 f6 rp6 q6 => ?_⟩
            obtain ⟨k1, k2⟩ := keep (f5.trans f6)
            have lacc : acc.length = accD.length := rA.length
            have fr6 := (fr3.trans f5).trans f6
            refine ⟨acc, k2, ll' (by have : accD.length ≤ its.length := by omega
                                     omega), F6, m6, acc ++ [v6], accD ++ [y6], ⟨fr6.ff, fun a o z => ?_, fun a o z n => ?_, fr6.new, fr6.nc⟩, ⟨fun a z => ?_, TabF.upd r6.ck.tb k2 rfl no_code⟩, k1, upd_same, (((rA.mono n3.ff).mono f5.ff).mono f6.ff).append (.cons rp6 .nil), ?_, ?_⟩
            · have : a ≠ Dl := fun e => by subst e; rw [k1] at z; cases z
              rw [upd_ne this]; exact fr6.fh a o z
            · have : a ≠ Dl := fun e => by subst e; rw [hD] at z; cases z
              rw [upd_ne this]; exact fr6.hk a o z n
            · have : a ≠ Dl := fun e => by subst e; exact cD z
              obtain ⟨b1, xs, b2, b3⟩ := r6.ck a z
              exact ⟨b1, xs, by rw [upd_ne this]; exact b2, b3⟩
            · rw [List.length_append, List.length_singleton]; omega
            · have : (fun ys m3 => Q1 (accD ++ [y6] ++ ys) m3) = fun ys m3 => Q1 (accD ++ y6 :: ys) m3 := by funext ys m3; rw [List.append_assoc]; rfl
              rw [this]; exact q6
      · have hi' : i = its.length := by omega
        refine .inl ⟨stop hi', ?_⟩
        rw [List.drop_eq_nil_of_le (by omega)] at q'
        have q'' : Q1 (accD ++ []) m' := q'
        rw [List.append_nil] at q''
        exact k Dl H' F' m' accD acc r' (f1.trans fr) hD0 nF cD hA rA q''⟩
theorem gn_lc (hc : X.calm = true) (hN : X.N.Nodup) (hi : GI true g X tg iter di) (ok : BlkOk X.N X.env.scope scope own)
    (hg : ∀ (s : Shared) (H : Hp) (C : Addr) (cl : List (Str × Addr)) (fp : List Addr), GG g (X.blk s H scope (compEnvC scope cl C X.env) fp) tg T f js) (ht : ∀ (s : Shared) (H : Hp) (C : Addr) (cl : List (Str × Addr)) (fp : List Addr), GTs g (X.blk s H scope (compEnvC scope cl C X.env) fp) ifs dt)
    (he : ∀ (s : Shared) (H : Hp) (C : Addr) (cl : List (Str × Addr)) (fp : List Addr), GE g (X.blk s H scope (compEnvC scope cl C X.env) fp) elt de) (hj : ∀ j ∈ js, j ∈ own.map (·.2) := by decide) (hs : ∀ x, foldedSetIterable iter X.env x = pure x := by intro _; rfl) :
    GN g X (.ListComp elt [⟨tg, iter, ifs, 0⟩] scope pos) (dLc di f dt de (own.map (·.2))) :=
  ⟨fun pins s σ H Q I q => (pe_lc (wi := tI X.K g true di) (g := T) (tt := tT X.K g dt) (te := tD X.K g de) hc hN hi ok (fun s H C cl fp => (hg s H C cl fp).pg) (fun s H C cl fp => ht s H C cl fp) (fun s H C cl fp => he s H C cl fp) hs).run pins s σ H Q I (lc_weak (T := T) _ hj (hg s H 0 [] []).ok σ H Q q)⟩
theorem gs_setLc {i : Nat} {y : Str} {py spos : Pos} (hc : X.calm = true) (hN : X.N.Nodup) (hy : X.N[i]? = some y) (hyl : X.env.scope.names.lookup y = some .local)
    (hsw : swapsWith (.ListComp elt [⟨tg, iter, ifs, 0⟩] scope pos) (some (.Name y py)) spos.line X.env = pure true) (hi : GI true g X tg iter di) (ok : BlkOk X.N X.env.scope scope own)
    (hg : ∀ (s : Shared) (H : Hp) (C : Addr) (cl : List (Str × Addr)) (fp : List Addr), GG g (X.blk s H scope (compEnvC scope cl C X.env) fp) tg T f js) (ht : ∀ (s : Shared) (H : Hp) (C : Addr) (cl : List (Str × Addr)) (fp : List Addr), GTs g (X.blk s H scope (compEnvC scope cl C X.env) fp) ifs dt)
    (he : ∀ (s : Shared) (H : Hp) (C : Addr) (cl : List (Str × Addr)) (fp : List Addr), GE g (X.blk s H scope (compEnvC scope cl C X.env) fp) elt de) (hj : ∀ j ∈ js, j ∈ own.map (·.2) := by decide) (hs : ∀ x, foldedSetIterable iter X.env x = pure x := by intro _; rfl) :
    GS g X (.Assign [.Name y py] (.ListComp elt [⟨tg, iter, ifs, 0⟩] scope pos) spos) (dAsg i (dNew (dLc di f dt de (own.map (·.2))))) :=
  ⟨fun pins s σ H D I q => (ps_setLc (wi := tI X.K g true di) (g := T) (tt := tT X.K g dt) (te := tD X.K g de) hc hN hy hyl hsw hi ok (fun s H C cl fp => (hg s H C cl fp).pg) (fun s H C cl fp => ht s H C cl fp) (fun s H C cl fp => he s H C cl fp) hs).run pins s σ H D I (asg_weak (fun σ H Q z => lc_weak (T := T) _ hj (hg s H 0 [] []).ok σ H Q (new_weak σ H Q z)) D σ H q)⟩
end
end G
namespace G
open PySem L2
open PySem.W (dataLe AllAlike Sortable EachIs sorted_data dataLt alike alikeAll)
section
variable {X : Cx}
theorem objok_get {P : Program} {w : World} {H : Hp} {h : Heap} {a : Addr} {o : HO} (x : ObjOk P w H h a o) : ∃ ob, h.get? a = some ob := by
  induction o with
  | lst xs => obtain ⟨_, _, _, _, e⟩ := x; exact ⟨_, e⟩
  | tup xs => obtain ⟨_, _, _, o, e, _⟩ := x; exact ⟨o, e⟩
  | dK kvs => obtain ⟨_, _, _, _, o, _, _, e, _⟩ := x; exact ⟨o, e⟩
  | dT kvs => obtain ⟨_, _, _, _, o, _, _, e, _⟩ := x; exact ⟨o, e⟩
  | set S n => obtain ⟨o, _, _, _, e, _⟩ := x; exact ⟨o, e⟩
  | ins C dx fs => obtain ⟨_, _, _, e, _⟩ := x; exact ⟨_, e⟩
  | own y => exact x
  | xd fs => obtain ⟨_, ⟨o, _, _, e, _⟩, _⟩ := x; exact ⟨o, e⟩
  | rng lo hi => obtain ⟨_, _, _, e⟩ := x; exact ⟨_, e⟩
  | frz ob u ih => exact ⟨ob, x.1⟩
  | tbl ps => exact ⟨_, x⟩
  | met f y => exact ⟨_, x⟩
  | ext φ => exact x.2.1
theorem laidN {pins : List (Addr × Obj)} {σ : St} {H : Hp} {s : Shared} {a : Addr} {o : HO} {h' : Heap} {g' : Array GenState} {t' : Nat} {d' : Drawn} (I : Inv X pins σ H s) (k : ∀ b u, s.heap.get? b = some u → h'.get? b = some u) (hp : ∀ u, s.heap.get? a ≠ some u) (hg : PyProof.Rows.AllBare g')
    (new : ObjOk X.prog X.w (upd H a o) h' a o) : H a = none ∧ Inv X pins σ (upd H a o) { s with heap := h', gens := g', drawn := d', toks := t' } := by
  have hn : H a = none := by
    cases q : H a with
    | none => rfl
    | some u => obtain ⟨ob, e⟩ := objok_get (I.hok a u q); exact absurd e (hp ob)
  have ne : ∀ b u, s.heap.get? b = some u → b ≠ a := fun b u e z => hp u (z ▸ e)
  refine ⟨hn, I.call (ch := []) ⟨fun b u q _ _ _ => k b u q, fun b u q _ _ _ => ⟨u.slots, k b u q⟩, fun b u q n _ => by rw [upd_ne (ne b u q)]; exact n, fun b u q _ => ⟨u, k b u q⟩, fun b xs q => by rw [upd_ne (ne_of_none q hn)]; exact q, fun b u xs q => by rw [upd_ne (ne_of_none q hn)]; exact q, fun b ps q => ⟨#[], by rw [upd_ne (ne_of_none q hn), q]; simp⟩⟩ (fun b u e => ?_) hg (fun _ z => nomatch z)⟩
  by_cases hb : b = a
  · subst hb; rw [upd_same] at e; cases e; exact new
  · rw [upd_ne hb] at e
    exact (I.hok b u e).stay (fun c v _ q => k c v q) (fun c q => by rw [upd_ne (ne_of_none q hn)]; exact q) fun c xs q => by rw [upd_ne (ne_of_none q hn)]; exact q
theorem vals_chars {x : Str} {acc : Array Value} (h : ItemsOf (SignAt x) acc x.cps.size) : Vals (chars x) acc.toList := by
  obtain ⟨hl, h⟩ := h
  have go : ∀ (cs : List Nat) (us : List Value) (k : Nat), cs.length = us.length → (∀ (j : Nat) (v : Value), us[j]? = some v → ∃ (u : Tok) (c : Nat), cs[j]? = some c ∧ v = Value.str ⟨#[c]⟩ u) → Vals (cs.map fun c => V.str ⟨#[c]⟩) us := by
    intro cs
    induction cs with
    | nil => intro us k hl _; cases us with
      | nil => exact .nil
      | cons _ _ => simp at hl
    | cons c r ih =>
      intro us k hl h
      cases us with
      | nil => simp at hl
      | cons u us =>
        obtain ⟨t, c', e1, e2⟩ := h 0 u rfl
        simp at e1
        subst e1
        exact .cons ⟨t, e2⟩ (ih us k (by simpa using hl) fun j v hj => by
          obtain ⟨t, c', e1, e2⟩ := h (j + 1) v (by simpa using hj)
          exact ⟨t, c', by simpa using e1, e2⟩)
  refine go x.cps.toList acc.toList 0 (by simp [hl]) fun j v hj => ?_
  obtain ⟨c, u, h1, h2⟩ := h j v (by simpa using hj)
  exact ⟨u, c, by simpa using h1, h2⟩
theorem cr_listStr (hc : X.calm = true) : CallR X (.type "list") (fun xs H Q => ∃ z : Str, xs = [.str z] ∧ z.length ≤ LL ∧ ∀ p, H p = none → Q (.ref p) (upd H p (.lst (chars z)))) := by
  intro pins s σ H xs us Q I r h
  obtain ⟨z, rfl, hz, q⟩ := h
  obtain ⟨u, rfl, t, rfl⟩ := r.one
  refine call_list_str (I.ok.hd hc) z t (fun h' tk acc c' hk hS hacc => ?_) (ll hz)
  have hn := I.hok.fresh (Nat.le_refl s.heap.objs.size)
  exact ⟨.ref _, upd H s.heap.objs.size (.lst (chars z)), I.laid (t' := tk) hk (Nat.le_refl _) ⟨ll (by rw [chars_len]; exact hz), acc.toList, c', vals_chars hacc, by simpa using hS⟩, rfl, q _ hn⟩
def sortV (ps : List (V × PyData)) : List (V × PyData) := ps.mergeSort (dataLe false fun p => p.2)
def rSortG (K : PySem.W.Frag) : List V → Hp → VK → Prop := fun vs H Q => ∃ (a : Addr) (ps : List (V × PyData)), vs = [.ref a] ∧ SqL K H a (ps.map (·.1)) ∧ (∀ p ∈ ps, Dp K H p.1 p.2 ∧ p.2.depth ≤ 60) ∧ AllAlike (ps.map (·.2)) ∧ Sortable (ps.map (·.2)) ∧ ps.length ≤ LL ∧
  ∀ p, H p = none → Q (.ref p) (upd H p (.lst ((sortV ps).map (·.1))))
theorem each_of_vals {β : Type} {f : β → V} {Rr : Value → β → Prop} : ∀ {bs : List β} {us : List Value}, Vals (bs.map f) us → (∀ b ∈ bs, ∀ u, RelV (f b) u → Rr u b) → EachIs Rr us bs
  | [], us, h, _ => by cases us with
    | nil => exact .nil
    | cons _ _ => cases h
  | b :: bs, us, h, k => by
    cases us with
    | nil => cases h
    | cons u us => cases h with
      | cons h t => exact .cons (k b (by simp) _ h) (each_of_vals t fun b' hb => k b' (by simp [hb]))
theorem vals_of_each {β : Type} {f : β → V} : ∀ {us : List Value} {bs : List β}, EachIs (fun u b => RelV (f b) u) us bs → Vals (bs.map f) us
  | _, _, .nil => .nil
  | _, _, .cons h t => .cons h (vals_of_each t)
theorem cr_sortG (hu : X.A.units + 64 < cLine) : CallR X (.builtin "sorted") (rSortG X.K) := by
  intro pins s σ H vs us Q I r h
  obtain ⟨a, ps, rfl, hs, hd, ha, hk, hl, q⟩ := h
  obtain ⟨its, rv, pl, _⟩ := I.list hs
  rw [Vals.ref1 r]
  have e1 : EachIs (fun u (b : V × PyData) => RelV b.1 u) its ps := each_of_vals (f := fun p : V × PyData => p.1) rv fun b _ u h => h
  have e2 : EachIs (fun u (b : V × PyData) => ∃ as, Reads s.heap u b.2 as) its ps := each_of_vals (f := fun p : V × PyData => p.1) rv fun b hb u h => Dp.reads I b.2 b.1 u (hd b hb).1 h
  refine sorted_data (enc := fun p : V × PyData => p.2) pl.isList e1 e2 ha hk (ll hl) (fun b hb => by have := (hd b hb).2; omega) fun out hlen eo => ?_
  obtain ⟨ep, he'⟩ := PyProof.Rows.sortedAll_at s.heap its out.toArray
  have hn := I.hok.fresh (Nat.le_succ s.heap.objs.size)
  have hL : ((sortV ps).map (·.1)).length ≤ sizeLine := by
    unfold sortV
    rw [List.length_map, List.length_mergeSort]
    exact ll hl
  exact ⟨.ref _, upd H (s.heap.objs.size + 1) (.lst ((sortV ps).map (·.1))), I.laid (t' := s.toks) (fun _ _ => PyProof.Rows.sortedAll_old) (Nat.le_succ _) ⟨hL, out, ep, vals_of_each (f := fun p : V × PyData => p.1) eo, he'⟩, rfl, q _ hn⟩
theorem cr_sortStr (hc : X.calm = true) (hu : X.A.units + 64 < cLine) : CallR X (.builtin "sorted") (fun xs H Q => ∃ z : Str, xs = [.str z] ∧ z.length ≤ LL ∧
    ∀ p, H p = none → Q (.ref p) (upd H p (.lst ((sortV ((z.cps.toList.map fun c => ((.str ⟨#[c]⟩ : V), PyData.str ⟨#[c]⟩)))).map (·.1))))) := by
  intro pins s σ H vs us Q I r h
  obtain ⟨z, rfl, hz, q⟩ := h
  obtain ⟨u, rfl, t, rfl⟩ := r.one
  refine PySem.Calls.call_function_entry PyProof.Rows.kind_sorted PyProof.Rows.plain_sorted PyProof.Rows.entry_sorted (PyProof.Rows.args_sorted1 _) ?_
  unfold Builtin.«sorted»
  refine wpAny_bind (m := checkCount "sorted" 1 1 _) (wpAny_pure ?_)
  refine wpAny_bind (wpAny_collect_str (A := X.A.in1) (I.ok.hd hc) z t (fun s' acc hk hg hd ho hacc => ?_) (ll hz))
  obtain ⟨sz, _⟩ := id hacc
  have hlen : acc.toList.length ≤ sizeLine := by rw [Array.length_toList, sz]; exact ll hz
  refine wpAny_bind (wpAny_newList ?_ hlen)
  have vv := vals_chars hacc
  let ps := z.cps.toList.map fun c => ((V.str ⟨#[c]⟩ : V), PyData.str ⟨#[c]⟩)
  have vp : Vals (ps.map (·.1)) acc.toList := by
    have e : ps.map (·.1) = chars z := by simp only [ps, List.map_map]; rfl
    rw [e]; exact vv
  have lp : acc.toList.length = ps.length := by rw [← vp.length, List.length_map]
  have pd : ∀ b ∈ ps, ∃ x : Str, b = (V.str x, PyData.str x) := fun b hb => by obtain ⟨c, _, rfl⟩ := List.mem_map.mp hb; exact ⟨_, rfl⟩
  have e1 : EachIs (fun u (b : V × PyData) => RelV b.1 u) acc.toList ps := each_of_vals (f := fun p : V × PyData => p.1) vp fun b _ u h => h
  have er : ∀ h : Heap, EachIs (fun u (b : V × PyData) => ∃ as, Reads h u b.2 as) acc.toList ps := fun h => each_of_vals (f := fun p : V × PyData => p.1) vp fun b hb u r => by
    obtain ⟨x, rfl⟩ := pd b hb
    obtain ⟨t', rfl⟩ := r
    exact ⟨[], .str x t'⟩
  have ha : AllAlike (ps.map (·.2)) := fun d hd d' hd' => by
    obtain ⟨b, hb, rfl⟩ := List.mem_map.mp hd
    obtain ⟨b', hb', rfl⟩ := List.mem_map.mp hd'
    obtain ⟨x, rfl⟩ := pd b hb
    obtain ⟨y, rfl⟩ := pd b' hb'
    rfl
  have hk2 : Sortable (ps.map (·.2)) := .inr fun d hd => by
    obtain ⟨b, hb, rfl⟩ := List.mem_map.mp hd
    obtain ⟨x, rfl⟩ := pd b hb
    constructor
    · intro z; cases z
    · intro _ z; cases z
  have hdp : ∀ d ∈ ps.map (·.2), X.A.in1.in1.units + d.depth < cLine := fun d hd => by
    obtain ⟨b, hb, rfl⟩ := List.mem_map.mp hd
    obtain ⟨x, rfl⟩ := pd b hb
    show X.A.units + 1 + 1 + (PyData.str x).depth < cLine
    simp only [PyData.depth]
    omega
  have oa : ({ s' with heap := s'.heap.push { cls := .type "list", data := .seq acc.toList.toArray } } : Shared).heap.get? s'.heap.objs.size = some (PyProof.Rows.seqObj "list" acc.toList.toArray 0) := Heap.get?_push_size _ rfl
  refine wpAny_bind (wpAny_holding (wpAny_call_entry PyProof.Rows.slot_list_sort ⟨_, oa, rfl⟩ PyProof.Rows.entry_list_sort ?body (PyProof.Rows.args_list_sort _)))
  case body =>
    refine PySem.W.list_sort_vals oa (PySem.W.SortsAt.data (PySem.W.each_map (R := fun v d => ∃ as, Reads _ v d as) (fun p : V × PyData => p.2) (er _)) ha hk2 hdp) hlen ?_
    refine ⟨_, rfl, wpAny_pure ⟨_, rfl, ?_⟩⟩
    have eo := PySem.W.sortVals_data (h' := PySem.W.sortingHeap ({ s' with heap := s'.heap.push { cls := .type "list", data := .seq acc.toList.toArray } } : Shared).heap s'.heap.objs.size acc.toList) (enc := fun p : V × PyData => p.2) false e1 (er _) ha
    obtain ⟨ep, he⟩ := PyProof.Rows.sortedHeap_at (out := (PySem.W.sortVals (PySem.W.dataKind (PySem.W.sortingHeap ({ s' with heap := s'.heap.push { cls := .type "list", data := .seq acc.toList.toArray } } : Shared).heap s'.heap.objs.size acc.toList) (ps.map (·.2))) false acc.toList acc.toList).toArray) oa
    have old : ∀ b o, s.heap.get? b = some o → (PyProof.Rows.sortedHeap ({ s' with heap := s'.heap.push { cls := .type "list", data := .seq acc.toList.toArray } } : Shared).heap s'.heap.objs.size acc.toList (PySem.W.sortVals (PySem.W.dataKind (PySem.W.sortingHeap ({ s' with heap := s'.heap.push { cls := .type "list", data := .seq acc.toList.toArray } } : Shared).heap s'.heap.objs.size acc.toList) (ps.map (·.2))) false acc.toList acc.toList).toArray).get? b = some o := fun b o e => by
      have e' := hk b o e
      have hlt := Heap.lt_size e'
      rw [PyProof.Rows.sortedHeap_old (Nat.ne_of_lt hlt) (by show b < (s'.heap.push _).objs.size; rw [Heap.size_push]; exact Nat.lt_succ_of_lt hlt)]
      exact Heap.get?_push_of_some _ e'
    have hp : ∀ u, s.heap.get? s'.heap.objs.size ≠ some u := fun u e => absurd (Heap.lt_size (hk _ u e)) (Nat.lt_irrefl _)
    have hL : ((sortV ps).map (·.1)).length ≤ sizeLine := by
      unfold sortV
      rw [List.length_map, List.length_mergeSort, ← lp]
      exact hlen
    obtain ⟨hn, J⟩ := laidN (o := .lst ((sortV ps).map (·.1))) (t' := s'.toks) (g' := s'.gens) (d' := s'.drawn) I old hp (by rw [hg]; exact I.bare) ⟨hL, _, ep, vals_of_each (f := fun p : V × PyData => p.1) eo, he⟩
    have fin := q _ hn
    obtain ⟨h0, g0, d0, t0, o0⟩ := s'
    have ho' : o0 = s.os := ho
    subst ho'
    exact ⟨.ref _, _, J, rfl, fin⟩
end
end G
namespace G
open PySem L2
section
variable {X : Cx}
theorem two_strs {op : CmpOp} {prog : Program} {w : World} {A : Around} {E : Value → Shared → Prop} {s : Shared} {a b : Str} {t u : Tok} {fn : String} {Q : Value → Shared → Prop} (hh : A.handled = none) (bt : Nat → Nat → Bool)
    (two : (wpAny (model prog w) A.in1 (pyIter (.ref s.heap.objs.size)) (fun it s₂ => ∃ I fp wr n P St bt, it = .ref I ∧ Walks prog w A.in1 I fp wr n P St ∧ St 0 s₂.heap ∧ (∀ b ∈ fp, b < s₂.heap.objs.size) ∧ 0 < n ∧ CmpOf prog w A.in1 op P bt ∧
      ∀ v h' tk, P (argBest bt (n - 1)) v → (∀ b o, b ∉ wr → s₂.heap.get? b = some o → h'.get? b = some o) → Q v { s₂ with heap := h', toks := tk }) E
      { s with heap := s.heap.push { cls := .type "tuple", data := .seq #[.str a t, .str b u] } }) → wpAny (model prog w) A (call (.builtin fn) [.str a t, .str b u]) Q E s)
    (cmp : CmpOf prog w A.in1 op (fun i v => (#[Value.str a t, Value.str b u] : Array Value)[i]? = some v) bt)
    (h : ∀ h' tk, (∀ c o, s.heap.get? c = some o → h'.get? c = some o) → Q (if bt 1 0 = true then .str b u else .str a t) { s with heap := h', toks := tk }) :
    wpAny (model prog w) A (call (.builtin fn) [.str a t, .str b u]) Q E s := by
  have hT : (s.heap.push { cls := .type "tuple", data := .seq #[.str a t, .str b u] }).IsTuple s.heap.objs.size #[.str a t, .str b u] := ⟨_, Heap.get?_push_size _ rfl, rfl, 0, rfl⟩
  refine two (wpAny_pyIter_tuple hT ?_)
  have hsz : (s.heap.push { cls := .type "tuple", data := .seq #[.str a t, .str b u] }).objs.size = s.heap.objs.size + 1 := Heap.size_push ..
  refine ⟨_, [_, s.heap.objs.size], [_], _, _, _, bt, rfl, Walks.tuple (A := A.in1) hh _ s.heap.objs.size (by rw [hsz]; exact Nat.ne_of_lt (Nat.lt_succ_self _)) #[.str a t, .str b u], ⟨⟨_, Heap.get?_push_size _ rfl, rfl, rfl⟩, hT.push _⟩, fun c hc => ?_, by simp, cmp, fun v h' tk hP hk => ?_⟩
  · show c < ((s.heap.push _).push _).objs.size
    rw [Heap.size_push, hsz]
    simp only [List.mem_cons, List.not_mem_nil, or_false] at hc
    rcases hc with rfl | rfl
    · rw [hsz]; exact Nat.lt_succ_self _
    · exact Nat.lt_succ_of_lt (Nat.lt_succ_self _)
  · have hold : ∀ c o, s.heap.get? c = some o → h'.get? c = some o := fun c o e => by
      refine hk c o (fun hm => ?_) (Heap.get?_push_of_some _ (Heap.get?_push_of_some _ e))
      have e1 := List.mem_singleton.mp hm
      have := Heap.lt_size e
      rw [e1, hsz] at this
      exact Nat.lt_irrefl _ (Nat.lt_of_succ_lt this)
    have hP' : (#[Value.str a t, Value.str b u] : Array Value)[argBest bt 1]? = some v := hP
    have hv : v = if bt 1 0 = true then .str b u else .str a t := by
      have eb : argBest bt 1 = if bt 1 0 then 1 else 0 := rfl
      rw [eb] at hP'
      cases q : bt 1 0 with
      | true => rw [q] at hP'; simp at hP'; simp [hP']
      | false => rw [q] at hP'; simp at hP'; simp [hP']
    rw [hv]
    exact h h' tk hold
def strAt (a b : Str) (i : Nat) : Str := if i = 0 then a else b
theorem strAt_is {a b : Str} {t u : Tok} {i : Nat} {v : Value} (h : (#[Value.str a t, Value.str b u] : Array Value)[i]? = some v) : ∃ k, v = .str (strAt a b i) k := by
  match i, h with
  | 0, h => simp at h; exact ⟨t, by simp [strAt, h]⟩
  | 1, h => simp at h; exact ⟨u, by simp [strAt, h]⟩
  | i + 2, h => simp at h
theorem cmp_strs_lt {prog : Program} {w : World} {A : Around} {a b : Str} {t u : Tok} : CmpOf prog w A .Lt (fun i v => (#[Value.str a t, Value.str b u] : Array Value)[i]? = some v) (fun i j => sLt (strAt a b i) (strAt a b j)) := fun i j vi vj s Q E hi hj h => by
  obtain ⟨k, rfl⟩ := strAt_is hi
  obtain ⟨l, rfl⟩ := strAt_is hj
  exact PyProof.Rows.lt_str h
theorem cmp_strs_gt {prog : Program} {w : World} {A : Around} {a b : Str} {t u : Tok} : CmpOf prog w A .Gt (fun i v => (#[Value.str a t, Value.str b u] : Array Value)[i]? = some v) (fun i j => sLt (strAt a b j) (strAt a b i)) := fun i j vi vj s Q E hi hj h => by
  obtain ⟨k, rfl⟩ := strAt_is hi
  obtain ⟨l, rfl⟩ := strAt_is hj
  exact PySem.P.gt_str h
theorem cr_min2S (hc : X.calm = true) : CallR X (.builtin "min") (fun xs H Q => ∃ a b, xs = [.str a, .str b] ∧ Q (.str (if sLt b a then b else a)) H) := by
  intro pins s σ H xs us Q I r h
  obtain ⟨a, b, rfl, q⟩ := h
  obtain ⟨u, w', rfl, ⟨t, rfl⟩, ⟨t', rfl⟩⟩ := vals2 r
  refine two_strs (I.ok.hd hc) _ call_min_two cmp_strs_lt fun h' tk k => ⟨_, H, I.kept k, ?_, q⟩
  show RelV _ (if sLt b a = true then Value.str b t' else Value.str a t)
  by_cases hj : sLt b a = true
  · rw [if_pos hj, if_pos hj]; exact ⟨_, rfl⟩
  · rw [if_neg hj, if_neg hj]; exact ⟨_, rfl⟩
theorem cr_max2S (hc : X.calm = true) : CallR X (.builtin "max") (fun xs H Q => ∃ a b, xs = [.str a, .str b] ∧ Q (.str (if sLt a b then b else a)) H) := by
  intro pins s σ H xs us Q I r h
  obtain ⟨a, b, rfl, q⟩ := h
  obtain ⟨u, w', rfl, ⟨t, rfl⟩, ⟨t', rfl⟩⟩ := vals2 r
  refine two_strs (I.ok.hd hc) _ call_max_two cmp_strs_gt fun h' tk k => ⟨_, H, I.kept k, ?_, q⟩
  show RelV _ (if sLt a b = true then Value.str b t' else Value.str a t)
  by_cases hj : sLt a b = true
  · rw [if_pos hj, if_pos hj]; exact ⟨_, rfl⟩
  · rw [if_neg hj, if_neg hj]; exact ⟨_, rfl⟩
end
end G
namespace G
open PySem L2
open PySem.W (dataLe AllAlike Sortable dataLt alike alikeAll)
def CallD (K : PySem.W.Frag) (g : Gp) (r : List V → Hp → VK → Prop) (f : List D → Option D) : Prop := ∀ (c : Option Addr) (F H : Hp) (xs : List D) (z : D) (vs : List V) (Q' : VK), Ex F H → (∀ a, c = some a → F a = none) →
  RepTs K g c F H xs vs → f xs = some z → (∀ v' H' F', New F H F' H' → Rep K g F' z v' → Q' v' H') → r vs H Q'
def CallN (K : PySem.W.Frag) (g : Gp) (r : List V → Hp → VK → Prop) (f : List D → Option (List D)) : Prop := ∀ (c : Option Addr) (F H : Hp) (xs : List D) (ds : List D) (vs : List V) (Q' : VK), Ex F H → (∀ a, c = some a → F a = none) →
  RepTs K g c F H xs vs → f xs = some ds → (∀ p H' F' ws, New F H F' H' → H p = none → F' p = none → H' p = some (.lst ws) → RepL K g F' ds ws → Q' (.ref p) H') → r vs H Q'
def dCallB (f : List D → Option D) (dl : DL) : DE := fun env m Q => dl env m fun xs m1 => ∃ z, f xs = some z ∧ Q z m1
def dCallN (f : List D → Option (List D)) (dl : DL) : DL := fun env m Q => dl env m fun xs m1 => ∃ z, f xs = some z ∧ Q z m1
section
variable {K : PySem.W.Frag} {g : Gp} {X : Cx} {e o : Expr} {es : List Expr} {dl : DL} {d : DE} {pos p : Pos} {x : Str}
theorem cb_weak {r : List V → Hp → VK → Prop} {f : List D → Option D} (cd : CallD X.K g r f) : ∀ σ H Q, tD X.K g (dCallB f dl) σ H Q → tCB r (tAb X.K g dl) σ H Q := fun σ H Q ⟨c, F, env, m, Q1, rl, hd, k⟩ =>
  ⟨c, F, env, m, _, rl, hd, fun vs H1 F1 m1 xs r1 f1 rp ⟨z, hz, q1⟩ => cd c F1 H1 xs z vs Q r1.sub r1.nc rp hz fun v' H' F' n rp' => k v' H' F' m1 z (r1.new n) (f1.trans (n.fresh r1.ck)) rp' q1⟩
theorem cn_weak {r : List V → Hp → VK → Prop} {f : List D → Option (List D)} (cd : CallN X.K g r f) : ∀ σ H Q, tN X.K g (dCallN f dl) σ H Q → tCB r (tAb X.K g dl) σ H Q := fun σ H Q ⟨c, F, env, m, Q1, rl, hd, k⟩ =>
  ⟨c, F, env, m, _, rl, hd, fun vs H1 F1 m1 xs r1 f1 rp ⟨z, hz, q1⟩ => cd c F1 H1 xs z vs Q r1.sub r1.nc rp hz fun p H' F' ws n h0 hp h1 rl' => by
    have cp : c ≠ some p := fun z => by obtain ⟨_, _, e, _⟩ := r1.ck p z; rw [e] at h0; cases h0
    refine k p H' F' m1 z ws (r1.new n) (f1.trans (n.fresh r1.ck)) ?_ hp cp h1 rl' q1
    cases q : H p with
    | none => rfl
    | some o => exact (f1.sm q cp h0).elim⟩
theorem ge_callB {id : String} {r : List V → Hp → VK → Prop} {f : List D → Option D} (hc : CallR X (.builtin id) r) (cd : CallD X.K g r f) (hg : Gl X x) (hm : X.mg x = none) (hv : bootBuiltins x = some (.builtin id)) (ha : GAb g X (e :: es) dl) (hn : x ≠ "__name__" := by decide) (hdb : (x == ("__debug__" : Str)) = false := by decide)
    (he : starEach (e :: es) X.env = (false, eval e X.env) :: starEach es X.env := by rfl) (hpl : (backTo pos (starEach es X.env)).any (·.1) = false := by rfl) : GE g X (.Call (.Name x p) (e :: es) [] pos) (dCallB f dl) := PE.weak (pe_callB hc hg hm hv ha hn hdb he hpl) (cb_weak cd)
theorem ge_callTy {T : String} {r : List V → Hp → VK → Prop} {f : List D → Option D} (hc : CallR X (.type T) r) (cd : CallD X.K g r f) (hg : Gl X x) (hm : X.mg x = none) (hv : bootBuiltins x = some (.type T)) (ha : GAb g X (e :: es) dl) (hn : x ≠ "__name__" := by decide) (hdb : (x == ("__debug__" : Str)) = false := by decide)
    (he : starEach (e :: es) X.env = (false, eval e X.env) :: starEach es X.env := by rfl) (hpl : (backTo pos (starEach es X.env)).any (·.1) = false := by rfl) : GE g X (.Call (.Name x p) (e :: es) [] pos) (dCallB f dl) := PE.weak (pe_callTy hc hg hm hv ha hn hdb he hpl) (cb_weak cd)
theorem gn_callB {id : String} {r : List V → Hp → VK → Prop} {f : List D → Option (List D)} (hc : CallR X (.builtin id) r) (cd : CallN X.K g r f) (hg : Gl X x) (hm : X.mg x = none) (hv : bootBuiltins x = some (.builtin id)) (ha : GAb g X (e :: es) dl) (hn : x ≠ "__name__" := by decide) (hdb : (x == ("__debug__" : Str)) = false := by decide)
    (he : starEach (e :: es) X.env = (false, eval e X.env) :: starEach es X.env := by rfl) (hpl : (backTo pos (starEach es X.env)).any (·.1) = false := by rfl) : GN g X (.Call (.Name x p) (e :: es) [] pos) (dCallN f dl) := PE.weak (pe_callB hc hg hm hv ha hn hdb he hpl) (cn_weak cd)
theorem gn_callTy {T : String} {r : List V → Hp → VK → Prop} {f : List D → Option (List D)} (hc : CallR X (.type T) r) (cd : CallN X.K g r f) (hg : Gl X x) (hm : X.mg x = none) (hv : bootBuiltins x = some (.type T)) (ha : GAb g X (e :: es) dl) (hn : x ≠ "__name__" := by decide) (hdb : (x == ("__debug__" : Str)) = false := by decide)
    (he : starEach (e :: es) X.env = (false, eval e X.env) :: starEach es X.env := by rfl) (hpl : (backTo pos (starEach es X.env)).any (·.1) = false := by rfl) : GN g X (.Call (.Name x p) (e :: es) [] pos) (dCallN f dl) := PE.weak (pe_callTy hc hg hm hv ha hn hdb he hpl) (cn_weak cd)
def lenD : List D → Option D
  | [.str s] => if s.length ≤ LL then some (.int s.length) else none
  | [.lst ds] => some (.int ds.length)
  | [.tup ds] => some (.int ds.length)
  | [.web _ ts] => some (.int ts.length)
  | _ => none
def lenD0 : List D → Option D
  | [.web _ _] => none
  | ds => lenD ds
def rLen (K : PySem.W.Frag) : List V → Hp → VK → Prop := fun xs H Q => ∃ x n, xs = [x] ∧ LenV K x H n ∧ Q (.int n) H
theorem cd_len0 : CallD K g (rLen K) lenD0 := fun c F H xs z vs Q' e nc rp hz k => by
  cases rp with
  | nil => simp [lenD0, lenD] at hz
  | cons r1 rt =>
    rename_i x v ds vs
    cases rt with
    | cons _ _ => cases x <;> simp [lenD0, lenD] at hz
    | nil =>
      cases x with
      | str s =>
        simp only [lenD0, lenD] at hz
        split at hz
        · rename_i hl; cases hz; cases r1.str'; exact ⟨_, s.length, rfl, ⟨ll hl, rfl⟩, k _ H F (New.refl e) (.int _)⟩
        · cases hz
      | lst es =>
        cases hz
        obtain ⟨p, ys, rfl, h1, h2, _⟩ := r1
        exact ⟨_, ys.length, rfl, .inl ⟨ys, SqL.of h1, rfl⟩, by rw [h2.length]; exact k _ H F (New.refl e) (.int _)⟩
      | tup es =>
        cases hz
        obtain ⟨p, ys, rfl, h1, h2⟩ := r1.tup'
        exact ⟨_, ys.length, rfl, .inr ⟨ys, Evl.ex_t e h1, rfl⟩, by rw [h2.length]; exact k _ H F (New.refl e) (.int _)⟩
      | _ => simp [lenD0, lenD] at hz
def rLenW (K : PySem.W.Frag) (C : Addr) : List V → Hp → VK → Prop := fun xs H Q => ∃ (a dx t : Addr) (pl : Str) (ts : List Str), xs = [.ref a] ∧ H a = some (.ins C dx [("places", .str pl), ("ties", .ref t)]) ∧ SqT K H t (ts.map V.str) ∧ ∀ H', Ex H H' → Q (.int ts.length) H'
theorem cd_lenW : CallD K g (fun xs H Q => rLen K xs H Q ∨ rLenW K g.Cw xs H Q) lenD := fun c F H xs z vs Q' e nc rp hz k => by
  by_cases hw : ∃ pl ts, xs = [.web pl ts]
  · obtain ⟨pl, ts, rfl⟩ := hw
    cases rp with
    | cons r1 rt =>
      cases rt
      cases hz
      obtain ⟨a, dx, t, rfl, h1, h2⟩ := r1.web'
      exact .inr ⟨a, dx, t, pl, ts, rfl, e _ _ h1, Evl.ex_t e h2, fun H' e' => k _ H' F ⟨fun _ _ h => h, e.trans e', e', fun _ _ h => .inl h⟩ (.int _)⟩
  · refine .inl (cd_len0 c F H xs z vs Q' e nc rp ?_ k)
    unfold lenD0
    split
    · exact absurd ⟨_, _, rfl⟩ hw
    · exact hz
def intD : List D → Option D | [.int i] => some (.int i) | [.bl b] => some (.int (if b then 1 else 0)) | _ => none
def minD2 : List D → Option D
  | [.int i, .int j] => some (.int (if j < i then j else i))
  | [.str a, .str b] => some (.str (if sLt b a then b else a))
  | _ => none
def maxD2 : List D → Option D
  | [.int i, .int j] => some (.int (if j > i then j else i))
  | [.str a, .str b] => some (.str (if sLt a b then b else a))
  | _ => none
theorem cd_min2 : CallD K g (fun xs H Q => (∃ i j, xs = [.int i, .int j] ∧ Q (.int (if j < i then j else i)) H) ∨ ∃ a b, xs = [.str a, .str b] ∧ Q (.str (if sLt b a then b else a)) H) minD2 := fun c F H xs z vs Q' e nc rp hz k => by
  unfold minD2 at hz
  split at hz
  · cases hz
    cases rp with
    | cons h t => cases t with
      | cons h2 t2 => cases t2; exact .inl ⟨_, _, by rw [h.int', h2.int'], k _ H F (New.refl e) (.int _)⟩
  · cases hz
    cases rp with
    | cons h t => cases t with
      | cons h2 t2 => cases t2; exact .inr ⟨_, _, by rw [h.str', h2.str'], k _ H F (New.refl e) (.str _)⟩
  · cases hz
theorem cd_max2 : CallD K g (fun xs H Q => (∃ i j, xs = [.int i, .int j] ∧ Q (.int (if j > i then j else i)) H) ∨ ∃ a b, xs = [.str a, .str b] ∧ Q (.str (if sLt a b then b else a)) H) maxD2 := fun c F H xs z vs Q' e nc rp hz k => by
  unfold maxD2 at hz
  split at hz
  · cases hz
    cases rp with
    | cons h t => cases t with
      | cons h2 t2 => cases t2; exact .inl ⟨_, _, by rw [h.int', h2.int'], k _ H F (New.refl e) (.int _)⟩
  · cases hz
    cases rp with
    | cons h t => cases t with
      | cons h2 t2 => cases t2; exact .inr ⟨_, _, by rw [h.str', h2.str'], k _ H F (New.refl e) (.str _)⟩
  · cases hz
theorem cr_min2 (hc : X.calm = true) : CallR X (.builtin "min") (fun xs H Q => (∃ i j, xs = [.int i, .int j] ∧ Q (.int (if j < i then j else i)) H) ∨ ∃ a b, xs = [.str a, .str b] ∧ Q (.str (if sLt b a then b else a)) H) := (call_min2 hc).or (cr_min2S hc)
theorem cr_max2 (hc : X.calm = true) : CallR X (.builtin "max") (fun xs H Q => (∃ i j, xs = [.int i, .int j] ∧ Q (.int (if j > i then j else i)) H) ∨ ∃ a b, xs = [.str a, .str b] ∧ Q (.str (if sLt a b then b else a)) H) := (call_max2 hc).or (cr_max2S hc)
def bools : List D → Option (List Bool)
  | [] => some []
  | .bl b :: r => (bools r).map (b :: ·)
  | _ :: _ => none
theorem bools_map : ∀ {ds : List D} {bs : List Bool}, bools ds = some bs → ds = bs.map D.bl
  | [], _, h => by cases h; rfl
  | .bl b :: r, bs, h => by
    obtain ⟨cs, h1, rfl⟩ := Option.map_eq_some_iff.mp h
    rw [bools_map h1]; rfl
  | .non :: _, _, h => by cases h
  | .int _ :: _, _, h => by cases h
  | .str _ :: _, _, h => by cases h
  | .tup _ :: _, _, h => by cases h
  | .lst _ :: _, _, h => by cases h
  | .dic _ :: _, _, h => by cases h
  | .web _ _ :: _, _, h => by cases h
  | .fn _ :: _, _, h => by cases h
  | .exc _ _ _ :: _, _, h => by cases h
  | .dit _ :: _, _, h => by cases h
theorem bools_of (bs : List Bool) : bools (bs.map D.bl) = some bs := by
  induction bs with
  | nil => rfl
  | cons b r ih => rw [List.map_cons]; unfold bools; rw [ih]; rfl
def allD : List D → Option D | [.lst ds] => (bools ds).map fun bs => .bl (bs.all id) | _ => none
def anyD : List D → Option D | [.lst ds] => (bools ds).map fun bs => .bl (bs.any id) | _ => none
theorem cd_all : CallD K g (rAll K) allD := fun c F H xs z vs Q' e nc rp hz k => by
  unfold allD at hz
  split at hz
  · obtain ⟨bs, h1, rfl⟩ := Option.map_eq_some_iff.mp hz
    have h2 := bools_map h1
    subst h2
    cases rp with
    | cons h t =>
      cases t
      obtain ⟨p, ys, rfl, g1, g2, _⟩ := h
      have := repL_bls g2
      subst this
      exact ⟨p, bs, rfl, SqL.of g1, k _ H F (New.refl e) (.bl _)⟩
  · cases hz
theorem cd_any : CallD K g (rAny K) anyD := fun c F H xs z vs Q' e nc rp hz k => by
  unfold anyD at hz
  split at hz
  · obtain ⟨bs, h1, rfl⟩ := Option.map_eq_some_iff.mp hz
    have h2 := bools_map h1
    subst h2
    cases rp with
    | cons h t =>
      cases t
      obtain ⟨p, ys, rfl, g1, g2, _⟩ := h
      have := repL_bls g2
      subst this
      exact ⟨p, bs, rfl, SqL.of g1, k _ H F (New.refl e) (.bl _)⟩
  · cases hz
def listD : List D → Option (List D)
  | [.lst ds] => some ds
  | [.tup ds] => some ds
  | [.str s] => if s.length ≤ LL then some (charsD s) else none
  | _ => none
def rListG (K : PySem.W.Frag) : List V → Hp → VK → Prop := fun xs H Q => (∃ p ys, xs = [.ref p] ∧ (SqL K H p ys ∨ SqT K H p ys) ∧ ∀ l, H l = none → Q (.ref l) (upd H l (.lst ys))) ∨ ∃ z : Str, xs = [.str z] ∧ z.length ≤ LL ∧ ∀ p, H p = none → Q (.ref p) (upd H p (.lst (chars z)))
theorem cr_list (hc : X.calm = true) : CallR X (.type "list") (rListG X.K) := call_list_of.or (cr_listStr hc)
theorem new_lay {F H : Hp} {l : Addr} {ys : List V} (e : Ex F H) (hl : H l = none) : New F H F (upd H l (.lst ys)) ∧ F l = none ∧ upd H l (.lst ys) l = some (.lst ys) := ⟨New.lay e hl, ex_none e hl, upd_same⟩
theorem cn_list : CallN K g (rListG K) listD := fun c F H xs ds vs Q' e nc rp hz k => by
  unfold listD at hz
  split at hz
  · cases hz
    cases rp with
    | cons h t =>
      cases t
      obtain ⟨p, ys, rfl, g1, g2, _⟩ := h
      exact .inl ⟨p, ys, rfl, .inl (SqL.of g1), fun l hl => k l _ F ys (new_lay e hl).1 hl (new_lay e hl (ys := ys)).2.1 upd_same g2⟩
  · cases hz
    cases rp with
    | cons h t =>
      cases t
      obtain ⟨p, ys, rfl, g1, g2⟩ := h.tup'
      exact .inl ⟨p, ys, rfl, .inr (Evl.ex_t e g1), fun l hl => k l _ F ys (new_lay e hl).1 hl (new_lay e hl (ys := ys)).2.1 upd_same g2⟩
  · split at hz
    · rename_i s hl
      cases hz
      cases rp with
      | cons h t =>
        cases t
        rw [h.str']
        exact .inr ⟨s, rfl, hl, fun l hl => k l _ F _ (new_lay e hl).1 hl (new_lay e hl (ys := chars s)).2.1 upd_same (chars_rep s)⟩
    · cases hz
  · cases hz
def tupleD : List D → Option D
  | [.lst ds] => some (.tup ds)
  | [.tup ds] => some (.tup ds)
  | _ => none
def rTupG (K : PySem.W.Frag) : List V → Hp → VK → Prop := fun xs H Q => ∃ p ys, xs = [.ref p] ∧ ((SqL K H p ys ∧ ∀ l, H l = none → Q (.ref l) (upd H l (.tup ys))) ∨ (SqT K H p ys ∧ Q (.ref p) H))
theorem cr_tuple : CallR X (.type "tuple") (rTupG X.K) := call_tuple_of
theorem cd_tuple : CallD K g (rTupG K) tupleD := fun c F H xs z vs Q' e nc rp hz k => by
  unfold tupleD at hz
  split at hz
  · cases hz
    cases rp with
    | cons h t =>
      cases t
      obtain ⟨p, ys, rfl, g1, g2, _⟩ := h
      refine ⟨p, ys, rfl, .inl ⟨SqL.of g1, fun l hl => ?_⟩⟩
      have n := New.fix (o := .tup ys) e hl
      exact k _ _ _ n (.tup (SqT.of upd_same) (g2.mono n.ff))
  · cases hz
    cases rp with
    | cons h t =>
      cases t
      obtain ⟨p, ys, rfl, g1, g2⟩ := h.tup'
      exact ⟨p, ys, rfl, .inr ⟨Evl.ex_t e g1, k _ H F (New.refl e) (.tup g1 g2)⟩⟩
  · cases hz
def D.lt (a b : D) : Bool := dataLt a.py b.py
def sortL (ds : List D) : List D := ds.mergeSort fun a b => !D.lt b a
def alikeL (ds : List D) : Bool := ds.all fun a => ds.all fun b => alike a.py b.py
def D.neT : D → Bool | .tup (_ :: _) => true | _ => false
def D.noT : D → Bool | .tup _ => false | .non => false | .dic _ => false | .web _ _ => false | .fn _ => false | .exc _ _ _ => false | .dit _ => false | _ => true
def sortOk (ds : List D) : Bool := alikeL ds && (ds.all D.neT || ds.all D.noT) && ds.all (·.okd 60) && decide (ds.length ≤ LL)
def sortedD : List D → Option (List D)
  | [.lst ds] => if sortOk ds then some (sortL ds) else none
  | [.str s] => if s.length ≤ LL then some (sortL (charsD s)) else none
  | _ => none
def rSortedG (K : PySem.W.Frag) : List V → Hp → VK → Prop := fun xs H Q => rSortG K xs H Q ∨ ∃ z : Str, xs = [.str z] ∧ z.length ≤ LL ∧ ∀ p, H p = none → Q (.ref p) (upd H p (.lst ((sortV ((z.cps.toList.map fun c => ((.str ⟨#[c]⟩ : V), PyData.str ⟨#[c]⟩)))).map (·.1))))
theorem cr_sorted' (hc : X.calm = true) (hu : X.A.units + 64 < cLine) : CallR X (.builtin "sorted") (rSortedG X.K) := (cr_sortG hu).or (cr_sortStr hc hu)
theorem sort_rep {F : Hp} {ds : List D} {xs : List V} (h : RepL K g F ds xs) : RepL K g F (sortL ds) ((sortV (xs.zip (ds.map D.py))).map (·.1)) := by
  have key : ∀ (ps : List (D × V)), (∀ p ∈ ps, Rep K g F p.1 p.2) → RepL K g F (ps.map (·.1)) (ps.map (·.2)) := by
    intro ps hp
    induction ps with
    | nil => exact .nil
    | cons p r ih => exact .cons (hp p (by simp)) (ih fun q hq => hp q (by simp [hq]))
  have all : ∀ {ds : List D} {xs : List V}, RepL K g F ds xs → ∀ p ∈ ds.zip xs, Rep K g F p.1 p.2 := by
    intro ds
    induction ds with
    | nil => intro xs _ p hp; simp at hp
    | cons d r ih =>
      intro xs h p hp
      cases h with
      | cons h1 t1 =>
        simp only [List.zip_cons_cons, List.mem_cons] at hp
        rcases hp with rfl | hp
        · exact h1
        · exact ih t1 p hp
  have hl := h.length
  let ps := (ds.zip xs).mergeSort fun a b => !D.lt b.1 a.1
  have e1 : ps.map (·.1) = sortL ds := by
    have := List.map_mergeSort (r := fun a b : D × V => !D.lt b.1 a.1) (s := fun a b : D => !D.lt b a) (f := Prod.fst) (l := ds.zip xs) (fun a _ b _ => rfl)
    rw [List.map_fst_zip (by omega)] at this
    exact this
  have e2 : ps.map (·.2) = (sortV (xs.zip (ds.map D.py))).map (·.1) := by
    have := List.map_mergeSort (r := fun a b : D × V => !D.lt b.1 a.1) (s := dataLe false fun p : V × PyData => p.2) (f := fun p : D × V => (p.2, p.1.py)) (l := ds.zip xs) (fun a _ b _ => rfl)
    have e3 : (ds.zip xs).map (fun p : D × V => (p.2, p.1.py)) = xs.zip (ds.map D.py) := by
      clear this e1 h
      induction ds generalizing xs with
      | nil => cases xs <;> rfl
      | cons d r ih =>
        cases xs with
        | nil => simp at hl
        | cons x t => simp only [List.zip_cons_cons, List.map_cons]; rw [ih (by simpa using hl)]
    rw [e3] at this
    unfold sortV
    rw [← this, List.map_map]
    rfl
  rw [← e1, ← e2]
  exact key ps fun p hp => all h p (List.mergeSort_perm _ _ |>.mem_iff.mp hp)
theorem cn_sorted : CallN K g (rSortedG K) sortedD := fun c F H xs ds vs Q' e nc rp hz k => by
  unfold sortedD at hz
  split at hz
  · rename_i es
    split at hz
    · rename_i ok
      cases hz
      unfold sortOk at ok
      simp only [Bool.and_eq_true, Bool.or_eq_true, decide_eq_true_eq] at ok
      obtain ⟨⟨⟨o1, o2⟩, o3⟩, o4⟩ := ok
      cases rp with
      | cons h t =>
        cases t
        obtain ⟨p, ys, rfl, g1, g2, _⟩ := h
        have hl := g2.length
        have z1 : (ys.zip (es.map D.py)).map (·.1) = ys := List.map_fst_zip (by rw [List.length_map]; omega)
        have z2 : (ys.zip (es.map D.py)).map (·.2) = es.map D.py := List.map_snd_zip (by rw [List.length_map]; omega)
        refine .inl ⟨p, ys.zip (es.map D.py), rfl, by rw [z1]; exact SqL.of g1, ?_, ?_, ?_, ?_, fun l hl' => ?_⟩
        · intro q hq
          have o3' := List.all_eq_true.mp o3
          clear z1 z2 o1 o2 o4 hl
          clear g1 k
          induction es generalizing ys with
          | nil => cases g2; simp at hq
          | cons d r ih =>
            cases g2 with
            | cons h1 t1 =>
              simp only [List.map_cons, List.zip_cons_cons, List.mem_cons] at hq
              rcases hq with rfl | hq
              · have od := o3' d (by simp)
                exact ⟨rep_dp e d 60 _ od h1, (okd_lay d 60 od).2⟩
              · exact ih (by simp only [List.all_cons, Bool.and_eq_true] at o3; exact o3.2) _ t1 hq fun x hx => o3' x (by simp [hx])
        · rw [z2]
          intro d hd d' hd'
          obtain ⟨a, ha, rfl⟩ := List.mem_map.mp hd
          obtain ⟨b, hb, rfl⟩ := List.mem_map.mp hd'
          unfold alikeL at o1
          exact List.all_eq_true.mp (List.all_eq_true.mp o1 a ha) b hb
        · rw [z2]
          rcases o2 with o2 | o2
          · refine .inl fun d hd => ?_
            obtain ⟨a, ha, rfl⟩ := List.mem_map.mp hd
            have := List.all_eq_true.mp o2 a ha
            cases a with
            | tup l => cases l with
              | nil => cases this
              | cons x r => exact ⟨x.py, pyL r, by simp only [D.py, pyL]⟩
            | _ => cases this
          · refine .inr fun d hd => ?_
            obtain ⟨a, ha, rfl⟩ := List.mem_map.mp hd
            have := List.all_eq_true.mp o2 a ha
            cases a with
            | non => cases this
            | tup l => cases this
            | dic l => cases this
            | web a b => cases this
            | fn a => cases this
            | exc _ _ _ => cases this
            | dit _ => cases this
            | bl b => simp only [D.py]; exact ⟨(fun z => nomatch z), fun _ z => nomatch z⟩
            | int b => simp only [D.py]; exact ⟨(fun z => nomatch z), fun _ z => nomatch z⟩
            | str b => simp only [D.py]; exact ⟨(fun z => nomatch z), fun _ z => nomatch z⟩
            | lst b => simp only [D.py]; exact ⟨(fun z => nomatch z), fun _ z => nomatch z⟩
        · rw [List.length_zip, List.length_map]; omega
        · exact k l _ F _ (new_lay e hl').1 hl' (new_lay e hl' (ys := (sortV (ys.zip (es.map D.py))).map (·.1))).2.1 upd_same (sort_rep g2)
    · cases hz
  · rename_i s
    split at hz
    · rename_i hl
      cases hz
      cases rp with
      | cons h t =>
        cases t
        rw [h.str']
        refine .inr ⟨s, rfl, hl, fun l hl' => ?_⟩
        have sr := sort_rep (chars_rep (K := K) (g := g) (F := F) s)
        have e3 : (chars s).zip ((charsD s).map D.py) = s.cps.toList.map fun c => ((.str ⟨#[c]⟩ : V), PyData.str ⟨#[c]⟩) := by
          unfold chars charsD
          rw [List.map_map]
          generalize s.cps.toList = cs
          induction cs with
          | nil => rfl
          | cons c r ih => simp only [List.map_cons, List.zip_cons_cons]; rw [ih]; rfl
        rw [e3] at sr
        exact k l _ F _ (new_lay e hl').1 hl' (new_lay e hl' (ys := [])).2.1 upd_same sr
    · cases hz
  · cases hz
end
end G
namespace G
open PySem L2
abbrev Spec := List Sl → Nat → (D → Nat → Prop) → Prop
def spOf (K : PySem.W.Frag) (g : Gp) (S : Spec) : Sp := fun vs H Q _ => ∃ c F as m Q', Ex F H ∧ ArgsR K g c F as vs ∧ Ck g c m F H ∧ S as m Q' ∧
  ∀ v H' F' m' x, Fresh c F H F' H' → Ck g c m' F' H' → Rep K g F' x v → Q' x m' → Q v H'
theorem ArgsR.length {K : PySem.W.Frag} {g : Gp} {c : Option Addr} {F : Hp} {as : List Sl} {vs : List V} (h : ArgsR K g c F as vs) : as.length = vs.length := Paired.length h
def dCall (S : Spec) (da : DA) : DE := fun env m Q => da env m fun as m1 => S as m1 Q
section
variable {g : Gp} {X : Cx} {CX : CXT} {k : Nat} {f C : Addr} {fd : FuncData} {ps : List Str} {S : Spec} {x : Str} {p pos : Pos} {e : Expr} {es : List Expr} {da : DA}
theorem call_weak : ∀ σ H Q, tD X.K g (dCall S da) σ H Q → tCall (spOf X.K g S) [] E0 (tAr X.K g da) σ H Q := fun σ H Q ⟨c, F, env, m, Q1, r, h, kk⟩ =>
  ⟨c, F, env, m, _, r, h, fun vs H1 F1 m1 as r1 f1 ar q => by
    refine ⟨c, F1, as, m1, Q1, r1.sub, by rw [List.append_nil]; exact ar, r1.ck, q, fun v H' F' m' y f' ck' rp q' => kk v H' F' m' y (r1.fresh f' ck') (f1.trans f') rp q'⟩⟩
theorem ge_call (F : FnOk X.prog X.w X.K X.mg X.base CX0 k f fd ps (spOf X.K g S)) (hr : Room k X.A) (hg : Gl X x) (hm : X.mg x = some (.ref f)) (hk : PySem.W.keepIn X.K (.ref f) = true) (hb : Binds X.K fd ps [])
    (ha : GA g X (e :: es) da) (hdb : (x == ("__debug__" : Str)) = false := by decide) (he : starEach (e :: es) X.env = (false, eval e X.env) :: starEach es X.env := by rfl) (hpl : (backTo pos (starEach es X.env)).any (·.1) = false := by rfl) :
    GE g X (.Call (.Name x p) (e :: es) [] pos) (dCall S da) := PE.weak (pe_call F hr hg hm hk hb .nil pass0 ha hdb he hpl) call_weak
def KB0 (K : PySem.W.Frag) (fd : FuncData) (ps ks : List Str) (pm : {α : Type} → List α → List α) : Prop :=
  ∀ (s : Shared) (ws : List Value), K.In s.heap → ws.length = ks.length → BindsTo s fd ⟨[], ks.zip ws⟩ (ps.zip (pm ws))
def tCallK0 (sp : Sp) (pm : List V → List V) (t : TA) : TE := fun σ H Q => t σ H fun vs H1 => sp (pm vs) H1 Q E0
theorem pe_callK0 {sp : Sp} {ks : List Str} {kws : List Keyword} {t : TA} {pm : {α : Type} → List α → List α} (F : FnOk X.prog X.w X.K X.mg X.base CX0 k f fd ps sp) (hr : Room k X.A) (hg : Gl X x) (hm : X.mg x = some (.ref f)) (hk : PySem.W.keepIn X.K (.ref f) = true) (hb : KB0 X.K fd ps ks pm)
    (hpm : ∀ (vs : List V) (us : List Value), Vals vs us → Vals (pm vs) (pm us)) (hkl : kws.length = ks.length) (hkw : PK X kws t) (hall : (backToKw pos (keywordEach kws X.env)).all (·.1.isSome) = true := by rfl) (hks : (backToKw pos (keywordEach kws X.env)).filterMap (·.1) = ks := by rfl)
    (hlen : ∀ (us : List Value), us.length = kws.length → us.length = ks.length := by intro us h; exact h)
    (hdb : (x == ("__debug__" : Str)) = false := by decide) (hpl : ((backTo pos (starEach [] X.env)).any (·.1) || (backToKw pos (keywordEach kws X.env)).any (·.1.isNone)) = false := by rfl)
    (hn : ∀ σ H Q, t σ H Q → t σ H fun vs H1 => vs.length = kws.length ∧ Q vs H1) :
    PE X (.Call (.Name x p) [] kws pos) (tCallK0 sp pm t) := by
  refine ⟨fun pins s σ H Q I h => ?_⟩
  refine wpAny_Call_Name_kw (ld_glob I hg hm ?_ hdb)
  refine PySem.W.callWith_KW0 (h₀ := X.base) I.ok.mod.kin hk hall (thn (hkw.run pos pins s σ H _ I (hn σ H _ h)) fun ws s1 ⟨zs, H1, I1, rz, hl, q⟩ => ⟨I1.kIn, ?_⟩) hpl
  rw [hks]
  have hw : ws.length = ks.length := by rw [← rz.length, hl, hkl]
  have r2 := hpm zs ws rz
  refine wpAny_call (codeAny_mono (F.run X.A X.stack s1 H1 ⟨[], ks.zip ws⟩ (pm ws) (pm zs) Q E0 hr I1.env0 (hb s1 ws I1.kIn hw) r2 q) fun r s' hq => ?_)
  cases r with
  | error e => exact hq.elim
  | ok fl =>
    cases fl with
    | ret u => exact I1.after hq
    | next => exact False.elim hq
    | brk => exact False.elim hq
    | cont => exact False.elim hq
def GK (g : Gp) (X : Cx) (kws : List Keyword) (d : DA) (n : Nat) : Prop := PK X kws (tAr X.K g d) ∧ ∀ env m Q, d env m Q → d env m fun as m1 => as.length = n ∧ Q as m1
theorem PK.weak {kws : List Keyword} {t t' : TA} (h : PK X kws t) (w : ∀ σ H Q, t' σ H Q → t σ H Q) : PK X kws t' := ⟨fun pos pins s σ H Q I q => h.run pos pins s σ H Q I (w σ H Q q)⟩
theorem gk_nil : GK g X [] dNilA 0 := ⟨PK.weak pk_nil fun σ H Q ⟨c, F, env, m, Q1, rl, hd, k⟩ => k [] H F m [] rl (Fresh.refl rl.sub rl.ck) .nil hd, fun env m Q h => ⟨rfl, h⟩⟩
theorem gk_cons {nm : Option Str} {kpos : Pos} {kws : List Keyword} {d : DE} {dr : DA} {n : Nat} (ha : GE g X e d) (mono : ∀ env m Q Q', (∀ y m', Q y m' → Q' y m') → d env m Q → d env m Q') (hr : GK g X kws dr n) : GK g X (⟨nm, e, kpos⟩ :: kws) (dConsA d dr) (n + 1) :=
  ⟨PK.weak (pk_cons ha hr.1) fun σ H Q ⟨c, F, env, m, Q1, rl, hd, k⟩ =>
    ⟨c, F, env, m, _, rl, hd, fun v H1 F1 m1 x r1 f1 rp q1 => ⟨c, F1, env, m1, _, r1, q1, fun vs H2 F2 m2 as r2 f2 rps q2 => k _ H2 F2 m2 _ r2 (f1.trans f2) (.cons (rp.mono f2.ff) rps) q2⟩⟩,
   fun env m Q h => mono env m _ _ (fun y m' q => by
     have := hr.2 env m' _ q
     exact (by
       refine (fun (h2 : dr env m' fun as m2 => as.length = n ∧ Q (.val y :: as) m2) => ?_) this
       have e : (fun (as : List Sl) m2 => as.length = n ∧ Q (.val y :: as) m2) = fun as m2 => (Sl.val y :: as).length = n + 1 ∧ Q (.val y :: as) m2 := by
         funext as m2
         rw [List.length_cons, Nat.add_right_cancel_iff]
       rw [e] at h2
       exact h2)) h⟩
def dCallK (S : Spec) (pm : List Sl → List Sl) (da : DA) : DE := fun env m Q => da env m fun as m1 => S (pm as) m1 Q
theorem ge_callK {ks : List Str} {kws : List Keyword} {n : Nat} {pm : {α : Type} → List α → List α} (F : FnOk X.prog X.w X.K X.mg X.base CX0 k f fd ps (spOf X.K g S)) (hr : Room k X.A) (hg : Gl X x) (hm : X.mg x = some (.ref f)) (hk : PySem.W.keepIn X.K (.ref f) = true) (hb : KB0 X.K fd ps ks pm)
    (hpm : ∀ {α β : Type} (R : α → β → Prop) (vs : List α) (us : List β), Paired R vs us → Paired R (pm vs) (pm us)) (hkl : kws.length = ks.length) (hkw : GK g X kws da n) (hn : kws.length = n) (hall : (backToKw pos (keywordEach kws X.env)).all (·.1.isSome) = true := by rfl) (hks : (backToKw pos (keywordEach kws X.env)).filterMap (·.1) = ks := by rfl)
    (hdb : (x == ("__debug__" : Str)) = false := by decide) (hpl : ((backTo pos (starEach [] X.env)).any (·.1) || (backToKw pos (keywordEach kws X.env)).any (·.1.isNone)) = false := by rfl) :
    GE g X (.Call (.Name x p) [] kws pos) (dCallK S pm da) := by
  refine PE.weak (pe_callK0 (t := tAr X.K g da) (pm := pm) F hr hg hm hk hb (fun vs us h => hpm RelV vs us h) hkl hkw.1 hall hks (fun us h => by rw [h, hkl]) hdb hpl (fun σ H Q ⟨c, F, env, m, Q1, r, h, kk⟩ => ?_)) fun σ H Q ⟨c, F, env, m, Q1, r, h, kk⟩ => ?_
  · exact ⟨c, F, env, m, _, r, hkw.2 env m Q1 h, fun vs H1 F1 m1 as r1 f1 ar ⟨hl, q⟩ => ⟨by rw [← ar.length, hl, hn], kk vs H1 F1 m1 as r1 f1 ar q⟩⟩
  · exact ⟨c, F, env, m, _, r, h, fun vs H1 F1 m1 as r1 f1 ar q => ⟨c, F1, pm as, m1, Q1, r1.sub, hpm _ as vs ar, r1.ck, q, fun v H' F' m' y f' ck' rp q' => kk v H' F' m' y (r1.fresh f' ck') (f1.trans f') rp q'⟩⟩
end
def pad (N : List Str) (as : List Sl) : Env' := as ++ List.replicate (N.length - as.length) .no
section
variable {P : Program} {w : World} {K : PySem.W.Frag} {mg : Str → Option Value} {base : Heap} {g : Gp}
theorem start_rel {N : List Str} {c : Option Addr} {F H : Hp} {as : List Sl} {vs : List V} {m : Nat} (e : Ex F H) (ar : ArgsR K g c F as vs) (ck : Ck g c m F H) : Rel K g c F (pad N as) m (L2.start N vs) H ∧ ∀ a, ¬ Own (pad N as) (L2.start N vs) a := by
  have hl := ar.length
  have get : ∀ (i : Nat) (s : Sl), (pad N as)[i]? = some s → s = .no ∨ ∃ v, (L2.start N vs)[i]? = some (some v) ∧ as[i]? = some s ∧ vs[i]? = some v := fun i s h => by
    unfold pad at h
    by_cases hi : i < as.length
    · rw [List.getElem?_append_left hi] at h
      refine .inr ⟨vs[i]'(by omega), ?_, h, List.getElem?_eq_getElem _⟩
      unfold L2.start
      rw [List.getElem?_append_left (by rw [List.length_map]; omega), List.getElem?_map, List.getElem?_eq_getElem (by omega)]
      rfl
    · rw [List.getElem?_append_right (by omega)] at h
      exact .inl (List.eq_of_mem_replicate (List.mem_of_getElem? h))
  have rel : ∀ {as : List Sl} {vs : List V}, ArgsR K g c F as vs → ∀ (i : Nat) (s : Sl) (v : V), as[i]? = some s → vs[i]? = some v → SlR K g c F H s (some (some v)) ∧ ∀ o, s.adr o = [] := by
    intro as vs ar
    induction ar with
    | nil => intro i s v h _; simp at h
    | cons h t ih =>
      intro i s v h1 h2
      cases i with
      | zero =>
        simp at h1 h2
        subst h1 h2
        rename_i s v _ _
        cases s with
        | val d => exact ⟨⟨v, rfl, h⟩, fun _ => rfl⟩
        | cask => obtain ⟨a, c1, rfl⟩ := h; exact ⟨⟨a, c1, rfl⟩, fun _ => rfl⟩
        | scr ns => obtain ⟨a, rfl, c1⟩ := h; exact ⟨⟨a, rfl, c1⟩, fun _ => rfl⟩
        | no => exact h.elim
        | ow ds => exact h.elim
        | tb qs rows => exact h.elim
      | succ i => exact ih i s v (by simpa using h1) (by simpa using h2)
  have noown : ∀ (i : Nat) (s : Sl) (o : Option (Option V)), (pad N as)[i]? = some s → s.adr o = [] := fun i s o h => by
    rcases get i _ h with z | ⟨v, _, h1, h2⟩
    · rw [z]; rfl
    · exact (rel ar i _ v h1 h2).2 o
  refine ⟨⟨e, ?_, fun i s h => ?_, fun i j si sj a h _ ha => by rw [noown i si _ h] at ha; simp at ha, ck⟩, fun a ⟨i, s, h, ha⟩ => by rw [noown i s _ h] at ha; simp at ha⟩
  · unfold pad L2.start
    simp only [List.length_append, List.length_map, List.length_replicate]
    omega
  · rcases get i s h with rfl | ⟨v, h0, h1, h2⟩
    · trivial
    · rw [h0]; exact (rel ar i s v h1 h2).1
theorem def_ok {x qual : Str} {st : Stmt} {f : Addr} {fd : FuncData} {N ps : List Str} {k : Nat} {S : Spec} (F : Fun K x qual st f fd) (SC : FnScope N ps (defScope st)) (len : ∀ as m Q, S as m Q → as.length = ps.length)
    (hbody : ∀ (cdv : Value) (A : Around) (outer : List Env) (s : Shared) (H : Hp) (E : XK), Room k (A.deeper (PyProof.Rows.envOfC qual (defScope st) s.heap.objs.size f cdv)) →
      ∃ d, GSs g (cxOf CX0 P w K mg base N qual (defScope st) f cdv A outer s H E).nox (defBody st) d ∧ ∀ as m Q, S as m Q → d (pad N as) m { nx := fun _ m' => Q .non m', rt := Q }) :
    FnOk P w K mg base CX0 (k + 1) f fd ps (spOf K g S) := by
  refine F.ok SC (fun vs H Q E h => ?_) (fun cdv A outer s H vs Q E hr h => ?_)
  · obtain ⟨c, F, as, m, Q', _, ar, _, hs, _⟩ := h
    rw [← ar.length]; exact len as m Q' hs
  · obtain ⟨c, F, as, m, Q', e, ar, ck, hs, kk⟩ := h
    obtain ⟨d, gs, hd⟩ := hbody cdv A outer s H E hr
    obtain ⟨rel, no⟩ := start_rel (N := N) e ar ck
    have toF : ∀ {O' : Addr → Prop} {F' H' : Hp}, Evo c (Own (pad N as) (L2.start N vs)) F H O' F' H' → Fresh c F H F' H' := fun v => ⟨v.ff, v.fh, fun a o h n => v.hk a o h n (no a), fun a o h => (v.new a o h).imp id fun z => z.elim id fun y => (no a y).elim, v.nc⟩
    refine ⟨_, gs, c, F, _, m, _, rel, hd as m Q' hs, ⟨fun σ' H' F' env' m' r' v q => ?_, fun _ _ _ _ _ _ _ q => q.elim, fun _ _ _ _ _ _ _ q => q.elim, fun v H' F' m' y ck' ev rp q => ?_⟩⟩
    · exact kk .non H' F' m' .non (toF v) r'.ck .non q
    · exact kk v H' F' m' y (toF ev) ck' rp q
end
section
variable {K : PySem.W.Frag} {g : Gp} {c : Option Addr} {F F' H H' : Hp} {env : Env'} {m : Nat} {σ : St}
theorem Rel.mutS {i : Nat} {s s' : Sl} {H' : Hp} (r : Rel K g c F env m σ H) (ho : env[i]? = some s) (ha : ∀ a, a ∈ s'.adr σ[i]? ↔ a ∈ s.adr σ[i]?) (hk : ∀ a, a ∉ s.adr σ[i]? → H' a = H a) (hs : SlR K g c F H' s' σ[i]?) :
    Rel K g c F (env.set i s') m σ H' ∧ Evo c (Own env σ) F H (Own (env.set i s') σ) F H' := by
  have hi : i < env.length := (List.getElem?_eq_some_iff.mp ho).1
  have sl := r.slot i s ho
  have np : ∀ a o, F a = some o → a ∉ s.adr σ[i]? := fun a o h z => by rw [(sl.at z).1] at h; cases h
  have sub : Ex F H' := fun a o h => by rw [hk a (np a o h)]; exact r.sub a o h
  have ck : Ck g c m F H' := ⟨fun a h => (by
    obtain ⟨b1, zs, b2, b3⟩ := r.ck a h
    exact ⟨b1, zs, by rw [hk a fun z => (sl.at z).2.1 h]; exact b2, b3⟩), TabF.keep r.ck.tb fun b o hb z => by
      rw [hk b fun y => ?_]
      · exact hb
      · obtain ⟨_, _, u, h1, h2, h3⟩ := sl.at' y
        rw [hb] at h1
        cases h1
        rcases z with z | ⟨c, q, z⟩
        · rw [h2] at z; cases z
        · exact h3 c q z⟩
  have at' : ∀ (j : Nat) (sj : Sl) (a : Addr), (env.set i s')[j]? = some sj → a ∈ sj.adr σ[j]? → ∃ sk, env[j]? = some sk ∧ a ∈ sk.adr σ[j]? := fun j sj a h hm => by
    by_cases q : i = j
    · subst q
      rw [List.getElem?_set_self hi] at h
      cases h
      exact ⟨s, ho, (ha a).mp hm⟩
    · rw [List.getElem?_set_ne q] at h; exact ⟨sj, h, hm⟩
  refine ⟨⟨sub, by rw [List.length_set]; exact r.len, fun j sj h => ?_, fun j k sj sk a e1 e2 e3 e4 => ?_, ck⟩, fun _ _ h => h, sub, fun a o h n no => ?_, fun a o h => .inl h, r.nc, fun a ⟨j, sj, e1, e2⟩ => ?_⟩
  · by_cases q : i = j
    · subst q
      rw [List.getElem?_set_self hi] at h
      cases h
      exact hs
    · rw [List.getElem?_set_ne q] at h
      have w := r.slot j sj h
      exact w.keep (fun _ _ z => z) fun a hm => ⟨(w.at hm).1, hk a fun z => q (r.sep i j s sj a ho h z hm)⟩
  · obtain ⟨s1, h1, m1⟩ := at' j sj a e1 e3
    obtain ⟨s2, h2, m2⟩ := at' k sk a e2 e4
    exact r.sep j k s1 s2 a h1 h2 m1 m2
  · rw [hk a fun z => no ⟨i, s, ho, z⟩]; exact .of h
  · obtain ⟨s1, h1, m1⟩ := at' j sj a e1 e2
    exact ⟨r.ownc a ⟨j, s1, h1, m1⟩, .inl ⟨j, s1, h1, m1⟩⟩
theorem Rel.mutW {i : Nat} {ds ds' : D} {p : Addr} {ys : HO} (r : Rel K g c F env m σ H) (ho : env[i]? = some (.ow ds)) (hs : σ[i]? = some (some (.ref p))) (rl : ObR K g F p ds' ys) :
    Rel K g c F (env.set i (.ow ds')) m σ (upd H p ys) ∧ Evo c (Own env σ) F H (Own (env.set i (.ow ds')) σ) F (upd H p ys) := by
  obtain ⟨p', xs, e, h1, h2, h3, h4⟩ := r.slot i _ ho
  rw [hs] at e
  cases e
  refine r.mutS ho (fun a => by rw [hs]; rfl) (fun a ha => ?_) ?_
  · rw [hs, show (Sl.ow ds).adr (some (some (.ref p))) = [p] from rfl, List.mem_singleton] at ha
    exact upd_ne ha
  · rw [hs]; exact ⟨p, ys, rfl, h1, upd_same, rl, h4⟩
theorem Rel.mut {i : Nat} {ds ds' : List D} {p : Addr} {ys : List V} (r : Rel K g c F env m σ H) (ho : env[i]? = some (.own ds)) (hs : σ[i]? = some (some (.ref p))) (rl : RepL K g F ds' ys) :
    Rel K g c F (env.set i (.own ds')) m σ (upd H p (.lst ys)) ∧ Evo c (Own env σ) F H (Own (env.set i (.own ds')) σ) F (upd H p (.lst ys)) := r.mutW ho hs ⟨ys, rfl, rl⟩
end
section
variable {g : Gp} {X : Cx} {e : Expr} {d : DE} {pos p1 p2 p3 : Pos}
theorem own_at {K : PySem.W.Frag} {c : Option Addr} {F H : Hp} {env : Env'} {m : Nat} {σ : St} {i : Nat} {ds : List D} (r : Rel K g c F env m σ H) (ho : env[i]? = some (.own ds)) : ∃ p xs, σ[i]? = some (some (.ref p)) ∧ H p = some (.lst xs) ∧ RepL K g F ds xs ∧ c ≠ some p := by
  obtain ⟨p, xs, e, _, h2, h3, h4⟩ := (r.slot i _ ho).own'
  exact ⟨p, xs, e, h2, h3, h4⟩
def dApp (i : Nat) (d : DE) : DS := fun env m E => ∃ ds, env[i]? = some (.own ds) ∧ d env m fun x m1 => ds.length < LL ∧ E.nx (env.set i (.own (ds ++ [x]))) m1
theorem gs_append (i : Nat) {x : Str} (he : GE g X e d) (hN : X.N[i]? = some x := by rfl) (hv : Vis X.env.scope x := by first | exact Or.inl rfl | exact Or.inr (Or.inl rfl) | exact Or.inr (Or.inr rfl)) (hd : (x == ("__debug__" : Str)) = false := by decide)
    (hcd : (x == ("__classdict__" : Str)) = false := by decide) (hs : starEach [e] X.env = (false, eval e X.env) :: starEach [] X.env := by rfl) (hbase : attributeBase (.Name x p1) "append" X.env (eval (.Name x p1) X.env) = eval (.Name x p1) X.env := by rfl)
    (hfew : ((backTo p3 (starEach [e] X.env)).all (fun x => !x.1) && (backToKw p3 (keywordEach [] X.env)).all (fun x => x.1.isSome) && decide ([e].length + ([] : List Keyword).length + (if ([] : List Keyword).isEmpty then 0 else 1) < 30)) = true := by rfl)
    (hline : (p2.endLine == p3.line) = true := by rfl) (hsw : swapsWith (.Call (.Attribute (.Name x p1) "append" p2) [e] [] p3) none pos.line X.env = pure false := by rfl) :
    GS g X (.Expr (.Call (.Attribute (.Name x p1) "append" p2) [e] [] p3) pos) (dApp i d) :=
  PS.weak (ps_expr (pe_bm PySem.F.plainAttrs_list PySem.F.slot_list_append PySem.F.type_list_append mt_append (pe_var hN hv hd hcd) (pa_cons he pa_nil hs) hbase hfew hline hs rfl) hsw) fun D σ H ⟨c, F, env, m, E, r, ⟨ds, ho, q⟩, o⟩ => by
    obtain ⟨p, xs, es, hp, rl, nc⟩ := own_at r ho
    refine ⟨.ref p, es, .inl ⟨rfl, xs, SqL.of hp⟩, c, F, env, m, _, r, q, fun v H1 F1 m1 y r1 f1 rp ⟨hl, q1⟩ => ?_⟩
    obtain ⟨p', xs', es', hp', rl', nc'⟩ := own_at r1 ho
    rw [es] at es'
    cases es'
    obtain ⟨r2, v2⟩ := r1.mut ho es (rl'.append (.cons rp .nil))
    exact ⟨p, xs', v, rfl, rfl, hp', ll' (by rw [rl'.length]; exact hl), o.nx σ _ F1 _ m1 r2 ((r.evo f1).trans v2) q1⟩
def dAppPop (i j : Nat) (d : DE) : DS := fun env m E => ∃ ds es, env[i]? = some (.own ds) ∧ env[j]? = some (.own es) ∧ i ≠ j ∧ d env m fun x m1 => ∃ (k : Nat) (y : D), x = .int k ∧ es[k]? = some y ∧ es.length ≤ LL ∧ ds.length < LL ∧ E.nx ((env.set j (.own (es.eraseIdx k))).set i (.own (ds ++ [y]))) m1
theorem gs_appendPop (i j : Nat) {x y : Str} {q1 q2 q3 : Pos} (he : GE g X e d) (hN : X.N[i]? = some x := by rfl) (hv : Vis X.env.scope x := by first | exact Or.inl rfl | exact Or.inr (Or.inl rfl) | exact Or.inr (Or.inr rfl)) (hd : (x == ("__debug__" : Str)) = false := by decide)
    (hcd : (x == ("__classdict__" : Str)) = false := by decide) (hN2 : X.N[j]? = some y := by rfl) (hv2 : Vis X.env.scope y := by first | exact Or.inl rfl | exact Or.inr (Or.inl rfl) | exact Or.inr (Or.inr rfl)) (hd2 : (y == ("__debug__" : Str)) = false := by decide)
    (hcd2 : (y == ("__classdict__" : Str)) = false := by decide) (hs : starEach [e] X.env = (false, eval e X.env) :: starEach [] X.env := by rfl)
    (hb2 : attributeBase (.Name y q1) "pop" X.env (eval (.Name y q1) X.env) = eval (.Name y q1) X.env := by rfl) (hl2 : (q2.endLine == q3.line) = true := by rfl)
    (hf2 : ((backTo q3 (starEach [e] X.env)).all (fun x => !x.1) && (backToKw q3 (keywordEach [] X.env)).all (fun x => x.1.isSome) && decide ([e].length + ([] : List Keyword).length + (if ([] : List Keyword).isEmpty then 0 else 1) < 30)) = true := by rfl)
    (hs1 : starEach [.Call (.Attribute (.Name y q1) "pop" q2) [e] [] q3] X.env = (false, eval (.Call (.Attribute (.Name y q1) "pop" q2) [e] [] q3) X.env) :: starEach [] X.env := by rfl)
    (hbase : attributeBase (.Name x p1) "append" X.env (eval (.Name x p1) X.env) = eval (.Name x p1) X.env := by rfl)
    (hfew : ((backTo p3 (starEach [.Call (.Attribute (.Name y q1) "pop" q2) [e] [] q3] X.env)).all (fun x => !x.1) && (backToKw p3 (keywordEach [] X.env)).all (fun x => x.1.isSome) && decide ([(.Call (.Attribute (.Name y q1) "pop" q2) [e] [] q3 : Expr)].length + ([] : List Keyword).length + (if ([] : List Keyword).isEmpty then 0 else 1) < 30)) = true := by rfl)
    (hline : (p2.endLine == p3.line) = true := by rfl) (hsw : swapsWith (.Call (.Attribute (.Name x p1) "append" p2) [.Call (.Attribute (.Name y q1) "pop" q2) [e] [] q3] [] p3) none pos.line X.env = pure false := by rfl) :
    GS g X (.Expr (.Call (.Attribute (.Name x p1) "append" p2) [.Call (.Attribute (.Name y q1) "pop" q2) [e] [] q3] [] p3) pos) (dAppPop i j d) :=
  PS.weak (ps_expr (pe_bm PySem.F.plainAttrs_list PySem.F.slot_list_append PySem.F.type_list_append mt_append (pe_var hN hv hd hcd) (pa_cons (pe_bm PySem.F.plainAttrs_list PySem.F.slot_list_pop PySem.F.type_list_pop mt_popAt (pe_var hN2 hv2 hd2 hcd2) (pa_cons he pa_nil hs) hb2 hf2 hl2 hs rfl) pa_nil hs1) hbase hfew hline hs1 rfl) hsw) fun D σ H ⟨c, F, env, m, E, r, ⟨ds, es, ho, ho2, hij, q⟩, o⟩ => by
    obtain ⟨p, xs, e1, hp, rl, nc⟩ := own_at r ho
    obtain ⟨p', xs', e2, hp', rl', nc'⟩ := own_at r ho2
    refine ⟨.ref p, e1, .inl ⟨rfl, xs, SqL.of hp⟩, .ref p', e2, .inl ⟨rfl, xs', SqL.of hp'⟩, c, F, env, m, _, r, q, fun v H1 F1 m1 w r1 f1 rp ⟨k, y, ew, hy, hl, hl2, q1⟩ => ?_⟩
    subst ew
    cases rp
    obtain ⟨pa, xa, ea, ha, ra, na⟩ := own_at r1 ho2
    rw [e2] at ea
    cases ea
    obtain ⟨u, hu, ru⟩ := ra.get hy
    have hk : k < xa.length := (List.getElem?_eq_some_iff.mp hu).1
    have hxl : xa.length ≤ LL := by rw [ra.length]; exact hl
    obtain ⟨r2, v2⟩ := r1.mut ho2 e2 (ra.eraseIdx k)
    have ho' : (env.set j (.own (es.eraseIdx k)))[i]? = some (.own ds) := by rw [List.getElem?_set_ne (Ne.symm hij)]; exact ho
    obtain ⟨pb, xb, eb, hb, rb, nb⟩ := own_at r2 ho'
    rw [e1] at eb
    cases eb
    obtain ⟨r3, v3⟩ := r2.mut ho' e1 (rb.append (.cons ru .nil))
    have hk2 : (k : Int) < 2 ^ 63 := by
      have : k < 100000 := Nat.lt_of_lt_of_le hk hxl
      omega
    refine ⟨p', xa, (k : Int), k, u, rfl, rfl, ha, by omega, hk2, PySem.seqIndex_of (by omega) (by omega), hu, p, xb, u, rfl, rfl, hb, ll' (by rw [rb.length]; exact hl2), o.nx σ _ F1 _ m1 r3 (((r.evo f1).trans v2).trans v3) q1⟩
end
end G
namespace G
open PySem L2
def D.isL : D → Bool | .lst _ => true | _ => false
def D.isS : D → Bool | .str _ => true | _ => false
def MtD (K : PySem.W.Frag) (g : Gp) (r : V → List V → Hp → VK → Prop) (f : D → List D → Option D) : Prop := ∀ (c : Option Addr) (F H : Hp) (x : D) (xs : List D) (z : D) (v : V) (vs : List V) (Q' : VK), Ex F H → (∀ a, c = some a → F a = none) →
  RepT K g c F H x v → RepTs K g c F H xs vs → f x xs = some z → (∀ v' H' F', New F H F' H' → Rep K g F' z v' → Q' v' H') → r v vs H Q'
def dMt (p : D → Bool) (f : D → List D → Option D) (d : DE) (dl : DL) : DE := fun env m Q => d env m fun x m1 => p x = true ∧ dl env m1 fun xs m2 => ∃ z, f x xs = some z ∧ Q z m2
section
variable {K : PySem.W.Frag} {g : Gp} {X : Cx} {e o : Expr} {es : List Expr} {dl : DL} {d : DE} {pos apos cpos p : Pos} {x : Str}
theorem mt_weak {T : String} {P : D → Bool} {r : V → List V → Hp → VK → Prop} {f : D → List D → Option D} (md : MtD X.K g r f) (ty : ∀ (c : Option Addr) (F H : Hp) (x : D) (v : V), P x = true → RepT X.K g c F H x v → tyV X.K T v H) :
    ∀ σ H Q, tD X.K g (dMt P f d dl) σ H Q → tBM X.K T r (tB X.K g d) (tAb X.K g dl) σ H Q := fun σ H Q ⟨c, F, env, m, Q1, rl, hd, k⟩ =>
  ⟨c, F, env, m, _, rl, hd, fun v H1 F1 m1 x r1 f1 rp ⟨hp, q1⟩ => ⟨ty c F1 H1 x v hp rp, c, F1, env, m1, _, r1, q1, fun vs H2 F2 m2 xs r2 f2 rps ⟨z, hz, q2⟩ =>
    md c F2 H2 x xs z v vs Q r2.sub r2.nc (rp.mono f2) rps hz fun v' H' F' n rp' => k v' H' F' m2 z (r2.new n) ((f1.trans f2).trans (n.fresh r2.ck)) rp' q2⟩⟩
theorem ty_list {c : Option Addr} {F H : Hp} {x : D} {v : V} (h : x.isL = true) (r : RepT K g c F H x v) : tyV K "list" v H := by
  cases x with
  | lst ds => obtain ⟨p, xs, rfl, h1, _, _⟩ := r; exact .inl ⟨rfl, xs, SqL.of h1⟩
  | _ => cases h
theorem ty_str {c : Option Addr} {F H : Hp} {x : D} {v : V} (h : x.isS = true) (r : RepT K g c F H x v) : tyV K "str" v H := by
  cases x with
  | str s => rw [r.str']; exact rfl
  | _ => cases h
theorem ge_mtL {name : Str} {id : String} {r : V → List V → Hp → VK → Prop} {f : D → List D → Option D} (slot : Slot "list" name id) (hty : typeOf (.builtin id) = pure (.type "method_descriptor")) (hm : MtR X id r) (md : MtD X.K g r f) (ho : GB g X o d) (ha : GAb g X (e :: es) dl)
    (hbase : attributeBase o name X.env (eval o X.env) = eval o X.env := by rfl)
    (hfew : ((backTo cpos (starEach (e :: es) X.env)).all (fun x => !x.1) && (backToKw cpos (keywordEach [] X.env)).all (fun x => x.1.isSome) && decide ((e :: es).length + ([] : List Keyword).length + (if ([] : List Keyword).isEmpty then 0 else 1) < 30)) = true := by rfl)
    (hline : (apos.endLine == cpos.line) = true := by rfl) (hs : starEach (e :: es) X.env = (false, eval e X.env) :: starEach es X.env := by rfl) (hplain : (backTo cpos (starEach es X.env)).any (·.1) = false := by rfl) :
    GE g X (.Call (.Attribute o name apos) (e :: es) [] cpos) (dMt D.isL f d dl) := PE.weak (pe_bm PySem.F.plainAttrs_list slot hty hm ho ha hbase hfew hline hs hplain) (mt_weak md fun _ _ _ _ _ => ty_list)
theorem ge_mtS {name : Str} {id : String} {r : V → List V → Hp → VK → Prop} {f : D → List D → Option D} (slot : Slot "str" name id) (hty : typeOf (.builtin id) = pure (.type "method_descriptor")) (hm : MtR X id r) (md : MtD X.K g r f) (ho : GB g X o d) (ha : GAb g X (e :: es) dl)
    (hbase : attributeBase o name X.env (eval o X.env) = eval o X.env := by rfl)
    (hfew : ((backTo cpos (starEach (e :: es) X.env)).all (fun x => !x.1) && (backToKw cpos (keywordEach [] X.env)).all (fun x => x.1.isSome) && decide ((e :: es).length + ([] : List Keyword).length + (if ([] : List Keyword).isEmpty then 0 else 1) < 30)) = true := by rfl)
    (hline : (apos.endLine == cpos.line) = true := by rfl) (hs : starEach (e :: es) X.env = (false, eval e X.env) :: starEach es X.env := by rfl) (hplain : (backTo cpos (starEach es X.env)).any (·.1) = false := by rfl) :
    GE g X (.Call (.Attribute o name apos) (e :: es) [] cpos) (dMt D.isS f d dl) := PE.weak (pe_bm PySem.F.plainAttrs_str slot hty hm ho ha hbase hfew hline hs hplain) (mt_weak md fun _ _ _ _ _ => ty_str)
def strsD : List D → Option (List Str)
  | [] => some []
  | .str s :: r => (strsD r).map (s :: ·)
  | _ :: _ => none
theorem strsD_map : ∀ {ds : List D} {bs : List Str}, strsD ds = some bs → ds = bs.map D.str
  | [], _, h => by cases h; rfl
  | .str b :: r, bs, h => by
    obtain ⟨cs, h1, rfl⟩ := Option.map_eq_some_iff.mp h
    rw [strsD_map h1]; rfl
  | .non :: _, _, h => by cases h
  | .int _ :: _, _, h => by cases h
  | .bl _ :: _, _, h => by cases h
  | .tup _ :: _, _, h => by cases h
  | .lst _ :: _, _, h => by cases h
  | .dic _ :: _, _, h => by cases h
  | .web _ _ :: _, _, h => by cases h
  | .fn _ :: _, _, h => by cases h
  | .exc _ _ _ :: _, _, h => by cases h
  | .dit _ :: _, _, h => by cases h
theorem strsD_of (bs : List Str) : strsD (bs.map D.str) = some bs := by
  induction bs with
  | nil => rfl
  | cons b r ih => rw [List.map_cons]; unfold strsD; rw [ih]; rfl
def joinOk (a : Str) (ys : List Str) : Bool := decide ((ys.map (·.length)).sum + ys.length * a.length ≤ 16777216)
def joinD : D → List D → Option D
  | .str a, [.lst ds] => (strsD ds).bind fun ys => if joinOk a ys then some (.str (Txt.join a ys)) else none
  | .str a, [.tup ds] => (strsD ds).bind fun ys => if joinOk a ys then some (.str (Txt.join a ys)) else none
  | _, _ => none
theorem md_join : MtD K g (fun x xs H Q => ∃ a p, ∃ ys : List Str, x = .str a ∧ xs = [.ref p] ∧ (SqL K H p (ys.map V.str) ∨ SqT K H p (ys.map V.str)) ∧
    (ys.map (·.length)).sum + ys.length * a.length ≤ 16777216 ∧ Q (.str (Txt.join a ys)) H) joinD := fun c F H x xs z v vs Q' e nc rx rs hz k => by
  unfold joinD at hz
  split at hz
  · obtain ⟨ys, h1, h2⟩ := Option.bind_eq_some_iff.mp hz
    split at h2
    · rename_i ok
      cases h2
      have := strsD_map h1
      subst this
      cases rs with
      | cons h t =>
        cases t
        obtain ⟨p, ws, rfl, g1, g2, _⟩ := h
        have := repL_strs g2
        subst this
        exact ⟨_, p, ys, rx.str', rfl, .inl (SqL.of g1), of_decide_eq_true ok, k _ H F (New.refl e) (.str _)⟩
    · cases h2
  · obtain ⟨ys, h1, h2⟩ := Option.bind_eq_some_iff.mp hz
    split at h2
    · rename_i ok
      cases h2
      have := strsD_map h1
      subst this
      cases rs with
      | cons h t =>
        cases t
        obtain ⟨p, ws, rfl, g1, g2⟩ := h.tup'
        have := repL_strs g2
        subst this
        exact ⟨_, p, ys, rx.str', rfl, .inr (Evl.ex_t e g1), of_decide_eq_true ok, k _ H F (New.refl e) (.str _)⟩
    · cases h2
  · cases hz
def D.fv : D → Option V | .non => some .non | .bl b => some (.bl b) | .int i => some (.int i) | .str s => some (.str s) | _ => none
def flats : List D → Option (List V)
  | [] => some []
  | d :: r => d.fv.bind fun v => (flats r).map (v :: ·)
theorem flat_rep {F : Hp} {x : D} {v w : V} (h : x.fv = some v) (r : Rep K g F x w) : w = v ∧ flatV v = true := by
  cases x <;> simp only [D.fv] at h <;> first | (cases h; cases r; exact ⟨rfl, rfl⟩) | cases h
theorem flat_repT {c : Option Addr} {F H : Hp} {x : D} {v w : V} (h : x.fv = some v) (r : RepT K g c F H x w) : w = v ∧ flatV v = true := by
  cases x with
  | lst ds => cases h
  | non => exact flat_rep (g := g) (K := K) (F := F) h r
  | bl _ => exact flat_rep (g := g) (K := K) (F := F) h r
  | int _ => exact flat_rep (g := g) (K := K) (F := F) h r
  | str _ => exact flat_rep (g := g) (K := K) (F := F) h r
  | tup _ => cases h
  | dic _ => cases h
  | web _ _ => cases h
  | fn _ => cases h
  | exc _ _ _ => cases h
  | dit _ => cases h
theorem flats_rep {F : Hp} : ∀ {ds : List D} {vs ws : List V}, flats ds = some vs → RepL K g F ds ws → ws = vs ∧ vs.all flatV = true
  | [], _, _, h, .nil => by cases h; exact ⟨rfl, rfl⟩
  | d :: r, vs, _, h, .cons h1 t1 => by
    obtain ⟨v, e1, e2⟩ := Option.bind_eq_some_iff.mp h
    obtain ⟨us, e3, rfl⟩ := Option.map_eq_some_iff.mp e2
    obtain ⟨a1, a2⟩ := flat_rep e1 h1
    obtain ⟨b1, b2⟩ := flats_rep e3 t1
    exact ⟨by rw [a1, b1], by rw [List.all_cons, a2, b2]; rfl⟩
def indexD : D → List D → Option D
  | .lst ds, [x] => (flats ds).bind fun vs => x.fv.bind fun v => (vs.findIdx? fun z => eqV z v).map fun (i : Nat) => .int i
  | _, _ => none
theorem md_index : MtD K g (rIndex K) indexD := fun c F H x xs z v vs Q' e nc rx rs hz k => by
  unfold indexD at hz
  split at hz
  · obtain ⟨ws, h1, h2⟩ := Option.bind_eq_some_iff.mp hz
    obtain ⟨w, h3, h4⟩ := Option.bind_eq_some_iff.mp h2
    obtain ⟨i, h5, rfl⟩ := Option.map_eq_some_iff.mp h4
    obtain ⟨p, ys, rfl, g1, g2, _⟩ := rx
    obtain ⟨rfl, fl⟩ := flats_rep h1 g2
    cases rs with
    | cons h t =>
      cases t
      obtain ⟨rfl, fv⟩ := flat_repT h3 h
      rw [List.findIdx?_eq_some_iff_getElem] at h5
      obtain ⟨l1, l2, l3⟩ := h5
      refine ⟨p, ys, _, i, ys[i], rfl, rfl, SqL.of g1, fv, fl, List.getElem?_eq_getElem l1, l2, fun j z' hj hz' => ?_, k _ H F (New.refl e) (.int _)⟩
      obtain ⟨hl, rfl⟩ := List.getElem?_eq_some_iff.mp hz'
      simpa using l3 j hj
  · cases hz
def dPl (d : DE) : DE := fun env m Q => d env m fun x m1 => ∃ pl ts, x = .web pl ts ∧ Q (.str pl) m1
def dTs (d : DE) : DE := fun env m Q => d env m fun x m1 => ∃ pl ts, x = .web pl ts ∧ Q (.tup (ts.map D.str)) m1
theorem ge_places (hc : Cls X.K g.Cw) (hn : NoAttr X.K g.Cw "places") (he : GE g X e d) (hb : attributeBase e "places" X.env (eval e X.env) = eval e X.env := by rfl) : GE g X (.Attribute e "places" pos) (dPl d) :=
  PE.weak (pe_fld he hb) fun σ H Q ⟨c, F, env, m, Q1, rl, hd, k⟩ => ⟨c, F, env, m, _, rl, hd, fun v H1 F1 m1 x r1 f1 rp ⟨pl, ts, ex, q⟩ => by
    subst ex
    cases rp with
    | web h1 h2 => exact ⟨_, _, _, _, _, rfl, r1.sub _ _ h1, hc, hn, rfl, k _ H1 F1 m1 _ r1 f1 (.str _) q⟩⟩
theorem ge_ties (hc : Cls X.K g.Cw) (hn : NoAttr X.K g.Cw "ties") (he : GE g X e d) (hb : attributeBase e "ties" X.env (eval e X.env) = eval e X.env := by rfl) : GE g X (.Attribute e "ties" pos) (dTs d) :=
  PE.weak (pe_fld he hb) fun σ H Q ⟨c, F, env, m, Q1, rl, hd, k⟩ => ⟨c, F, env, m, _, rl, hd, fun v H1 F1 m1 x r1 f1 rp ⟨pl, ts, ex, q⟩ => by
    subst ex
    cases rp with
    | web h1 h2 => exact ⟨_, _, _, _, _, rfl, r1.sub _ _ h1, hc, hn, rfl, k _ H1 F1 m1 _ r1 f1 (.tup h2 (repL_of_strs _)) q⟩⟩
def tyD (g : Gp) : D → Value
  | .non => .type "NoneType" | .bl _ => .type "bool" | .int _ => .type "int" | .str _ => .type "str" | .tup _ => .type "tuple" | .lst _ => .type "list" | .dic _ => .type "dict" | .web _ _ => .ref g.Cw | .fn _ => .type "function" | .exc n _ _ => .ref (g.ex n) | .dit _ => .none
structure WebTy (K : PySem.W.Frag) (g : Gp) : Prop where
  cls : Cls K g.Cw
  ha : PySem.W.findIn K (.ref g.Cw) "__class__" = some (some (.builtin "object.__class__"))
  hn : PySem.W.specialIn K (.builtin "object.__class__") "__get__" = some (some (.builtin "getset_descriptor.__get__"))
  htk : PySem.W.takesIn K (.builtin "object.__class__") = true
  hm : PySem.W.mroIn K g.Cw (.type "object") = some true
theorem tyx_tup {H : Hp} {a : Addr} {xs : List V} (h : SqT K H a xs) : TyX K H (.ref a) (.type "tuple") := by
  rcases h with (h | ⟨o, h⟩) | ⟨o, its, n, h1, h2, _⟩
  · exact .base (.tup h)
  · exact .fTuple h
  · exact .kTuple h1 h2
theorem tyx_of (W : WebTy K g) {c : Option Addr} {F H : Hp} {x : D} {v : V} (e : Ex F H) (r : RepT K g c F H x v) (nf : (∀ L, x ≠ .fn L) ∧ (∀ n f d, x ≠ .exc n f d) ∧ ∀ k, x ≠ .dit k) : TyX K H v (tyD g x) := by
  cases x with
  | fn L => exact absurd rfl (nf.1 L)
  | exc n f d => exact absurd rfl (nf.2.1 n f d)
  | dit k => exact absurd rfl (nf.2.2 k)
  | non => rw [r.non']; exact .base .non
  | bl b => rw [r.bl']; exact .base (.bl b)
  | int b => rw [r.int']; exact .base (.int b)
  | str b => rw [r.str']; exact .base (.str b)
  | tup ds => obtain ⟨a, xs, rfl, h1, _⟩ := r.tup'; exact tyx_tup (Evl.ex_t e h1)
  | lst ds => obtain ⟨a, xs, rfl, h1, _⟩ := r; exact .base (.lst h1)
  | dic ds => obtain ⟨a, xs, rfl, h1, _⟩ := r.dic'; exact .base (.dK h1)
  | web p t => obtain ⟨a, _, _, rfl, h1, _⟩ := r.web'; exact .base (.ins (e _ _ h1) W.cls W.ha W.hn W.htk W.hm)
def dIsi (f : D → Option Bool) (d : DE) : DE := fun env m Q => d env m fun x m1 => ∃ b, f x = some b ∧ Q (.bl b) m1
theorem ge_isi {cx : Expr} {cv : V} {u : Value} {f : D → Option Bool} (W : WebTy X.K g) (cl : ClsV cv u) (hcx : PE X cx (tC cv)) (hf : ∀ x b, f x = some b → PySem.W.kitOne X.K (tyD g x) u = some b) (hg : Gl X "isinstance") (hm : X.mg "isinstance" = none)
    (he : GB g X e d) (hnf : (∀ L, f (.fn L) = none) ∧ (∀ n u d, f (.exc n u d) = none) ∧ ∀ k, f (.dit k) = none := by exact ⟨fun _ => rfl, fun _ _ _ => rfl, fun _ => rfl⟩) (hs : starEach [e, cx] X.env = (false, eval e X.env) :: starEach [cx] X.env := by rfl) (hs2 : starEach [cx] X.env = (false, eval cx X.env) :: starEach [] X.env := by rfl) :
    GE g X (.Call (.Name "isinstance" p) [e, cx] [] pos) (dIsi f d) :=
  PE.weak (pe_callB call_isi hg hm rfl (pa_cons he (pa_cons hcx pa_nil hs2) hs) (by decide) (by decide) hs (by rw [hs2]; rfl)) fun σ H Q ⟨c, F, env, m, Q1, rl, hd, k⟩ =>
    ⟨c, F, env, m, _, rl, hd, fun v H1 F1 m1 x r1 f1 rp ⟨b, hb, q⟩ => ⟨v, cv, _, u, b, rfl, cl, tyx_of W r1.sub rp ⟨fun L z => (by rw [z, hnf.1] at hb; cases hb), fun n u d z => (by rw [z, hnf.2.1] at hb; cases hb), fun k z => (by rw [z, hnf.2.2] at hb; cases hb)⟩, hf x b hb, k _ H1 F1 m1 _ r1 f1 (.bl b) q⟩⟩
def isStrD : D → Option Bool | .str _ => some true | _ => none
def isTupD : D → Option Bool | .tup _ => some true | _ => none
def isWebD : D → Option Bool | .web _ _ => some true | _ => none
theorem sIx_nat (n i : Nat) : HT.sIx n 0 (some (i : Int)) = min i n := by
  unfold HT.sIx
  simp
  omega
def intsD : List D → Option (List Int)
  | [] => some []
  | .int i :: r => (intsD r).map (i :: ·)
  | _ :: _ => none
theorem intsD_map : ∀ {ds : List D} {bs : List Int}, intsD ds = some bs → ds = bs.map D.int
  | [], _, h => by cases h; rfl
  | .int b :: r, bs, h => by
    obtain ⟨cs, h1, rfl⟩ := Option.map_eq_some_iff.mp h
    rw [intsD_map h1]; rfl
  | .non :: _, _, h => by cases h
  | .str _ :: _, _, h => by cases h
  | .bl _ :: _, _, h => by cases h
  | .tup _ :: _, _, h => by cases h
  | .lst _ :: _, _, h => by cases h
  | .dic _ :: _, _, h => by cases h
  | .web _ _ :: _, _, h => by cases h
  | .fn _ :: _, _, h => by cases h
  | .exc _ _ _ :: _, _, h => by cases h
  | .dit _ :: _, _, h => by cases h
end
end G
namespace G
open PySem L2
section
variable {g : Gp} {X : Cx} {a b : Expr} {d : DE} {dl dl2 : DL} {pos : Pos}
theorem not_own {K : PySem.W.Frag} {c : Option Addr} {F H : Hp} {env : Env'} {m : Nat} {σ : St} {p : Addr} (r : Rel K g c F env m σ H) (h : H p = none) : ¬ Own env σ p := fun z => by
  obtain ⟨_, _, y⟩ := r.ownH z
  rw [h] at y; cases y
end
def spLen (K : PySem.W.Frag) (g : Gp) : Sp := fun vs H Q _ => ∃ (a dx t : Addr) (pl : Str) (ts : List Str), vs = [.ref a] ∧ H a = some (.ins g.Cw dx [("places", .str pl), ("ties", .ref t)]) ∧ SqT K H t (ts.map V.str) ∧ Q (.int (ts.length : Nat)) H
section
variable {g : Gp} {X : Cx} {k : Nat} {f : Addr} {fd : FuncData} {ps : List Str}
theorem cr_lenW (F : FnOk X.prog X.w X.K X.mg X.base CX0 k f fd ps (spLen X.K g)) (hr : Room (k + 1) X.A) (hs : PySem.W.findIn X.K (.ref g.Cw) "__len__" = some (some (.ref f))) (hf : PySem.W.isFn X.K (.ref f) = true) (hb : Binds X.K fd ps []) : CallR X (.builtin "len") (rLenW X.K g.Cw) := by
  intro pins s σ H xs us Q I r h
  obtain ⟨a, dx, t, pl, ts, rfl, ha, ht, q⟩ := h
  obtain ⟨u, rfl, ru⟩ := vals1 r
  cases ru
  obtain ⟨mA, J, _⟩ := ins_get I.hok ha
  obtain ⟨od, J, _⟩ := J.look
  obtain ⟨m, hF⟩ := I.fr
  obtain ⟨its, rv, _, hz⟩ := I.tuple ht
  rw [List.length_map] at hz
  refine PySem.W.len_K hF I.ok.mod.kin J hs hf ?_
  have hsp : spLen X.K g [.ref a] H (fun v H' => v = .int (ts.length : Nat) ∧ Ex H H') E0 := ⟨a, dx, t, pl, ts, rfl, ha, ht, rfl, fun _ _ h => h⟩
  have e0 : Env0 X.prog X.w X.K X.mg X.base X.A.in1 X.stack s H := by
    have e := I.env0
    exact ⟨e.frames, e.mod, e.bs, e.bsz, e.funs, e.frf, e.hok, e.bare⟩
  have hl := F.len _ _ _ _ hsp
  have r2 : Vals [V.ref a] [Value.ref a] := .cons rfl .nil
  refine wpAny_call (codeAny_mono (F.run X.A.in1 X.stack s H ⟨[.ref a], []⟩ [.ref a] [.ref a] _ E0 hr.in1 e0 (by
    have := hb s [.ref a] I.kIn (by simpa using hl)
    simpa using this) r2 hsp) fun r s' hq => ?_)
  cases r with
  | error e => exact hq.elim
  | ok fl =>
    cases fl with
    | ret w =>
      obtain ⟨z, H', I', rz, ez, ex⟩ := I.after hq
      subst ez
      obtain ⟨tk, rfl⟩ := rz
      refine ⟨⟨by omega, ?_⟩, .int (ts.length : Nat), H', I'.tok _, ⟨_, rfl⟩, q H' ex⟩
      have hh := sizeLine_eq
      omega
    | next => exact False.elim hq
    | brk => exact False.elim hq
    | cont => exact False.elim hq
theorem cr_len : CallR X (.builtin "len") (rLen X.K) := call_len
end
end G
namespace G
open PySem L2
def D.key : D → Option Key | .int i => some (.inl i) | .str s => some (.inr s) | _ => none
def putKey (ks : List Key) (k : Key) : List Key := if (ks.any fun x => decide (x = k)) = true then ks else ks ++ [k]
theorem putK_keys (kvs : List (Key × V)) (k : Key) (v : V) : (putK kvs k v).map (·.1) = putKey (kvs.map (·.1)) k := by
  unfold putK putKey
  have e : ((kvs.map (·.1)).any fun x => decide (x = k)) = (kvs.any fun kv => decide (kv.1 = k)) := by rw [List.any_map]; rfl
  rw [e]
  split
  · rw [List.map_map]
    refine List.map_congr_left fun p _ => ?_
    show (if p.1 = k then (p.1, v) else p).1 = p.1
    split <;> rfl
  · rw [List.map_append]; rfl
def DkR (f : D → Env' → Option Env') (dk dv : DE) (env : Env') : List D → Nat → List Key → (List Key → Nat → Prop) → Prop
  | [], m, ks, Q => Q ks m
  | d :: ds, m, ks, Q => ∃ env2, f d env = some env2 ∧ dk env2 m fun x m1 => dv env2 m1 fun _ m2 => ∃ k, x.key = some k ∧ DkR f dk dv env ds m2 (putKey ks k) Q
def dLenDc (di : DL) (f : D → Env' → Option Env') (dk dv : DE) (vs : List Nat) : DE := fun env m Q => di env m fun its m1 => its.length ≤ LL ∧ DkR f dk dv (wipeE env vs) its m1 [] fun ks m2 => Q (.int (ks.length : Nat)) m2
section
variable {g : Gp} {X : Cx} {kx vx tg iter : Expr} {scope : Scope} {own : List (Str × Nat)} {pos p dpos : Pos} {di : DL} {T : TG} {f : D → Env' → Option Env'} {js : List Nat} {dk dv : DE}
theorem key_rep {K : PySem.W.Frag} {F : Hp} {x : D} {v : V} {k : Key} (h : x.key = some k) (r : Rep K g F x v) : v = kV k := by
  cases x <;> simp only [D.key] at h <;> first | (cases h; cases r; rfl) | cases h
theorem dc_weak (vs : List Nat) (hj : ∀ j ∈ js, j ∈ vs) (hg : ∀ (c : Option Addr) (F : Hp) (env : Env') (m : Nat) (σ : St) (H : Hp) (d : D) (v : V) (env2 : Env') (Q : St → Hp → Prop), Rel X.K g c F env m σ H → Rep X.K g F d v → f d env = some env2 →
    (∀ σ2, Rel X.K g c F env2 m σ2 H → (∀ a, Own env2 σ2 a → Own env σ a) → σ2.length = σ.length → (∀ i, i ∉ js → σ2[i]? = σ[i]?) → Q σ2 H) → T v σ H Q) :
    ∀ σ H Q, tD X.K g (dLenDc di f dk dv vs) σ H Q → tCB (fun xs H Q => ∃ a kvs, xs = [V.ref a] ∧ H a = some (.dK kvs) ∧ Q (.int kvs.length) H) (tCons (tDc (tI X.K g true di) T (tT X.K g dYes) (tD X.K g dk) (tD X.K g dv) vs) tNil) σ H Q := fun σ H Q ⟨c, F, env, m, Q1, r, h, k⟩ =>
  ⟨c, F, env, m, _, r, h, fun J H1 F1 m1 its lk r1 f1 _ hk w ⟨hz, q⟩ => fun Dl hD => by
    have nD : F1 Dl = none := ex_none r1.sub hD
    have cD : c ≠ some Dl := fun z => by obtain ⟨_, xs, e, _⟩ := r1.ck Dl z; rw [hD] at e; cases e
    refine ⟨fun i kk H' => ∃ F' m' kvs, kk = its.length - i ∧ i ≤ its.length ∧ Fresh c F1 H1 F' H' ∧ Ck g c m' F' H' ∧ F' Dl = none ∧ H' Dl = some (.dK kvs) ∧ kvs.length ≤ i ∧ DkR f dk dv (wipeE env vs) (its.drop i) m' (kvs.map (·.1)) (fun ks m3 => Q1 (.int (ks.length : Nat)) m3), ⟨its.length, F1, m1, [], rfl, Nat.zero_le _, ?_, ?_, nD, upd_same, Nat.le_refl _, q⟩, ?_⟩
    · have n := New.lay (F := F1) (o := .dK []) r1.sub hD
      exact n.fresh r1.ck
    · exact r1.ck.new (New.lay r1.sub hD)
    · rintro i kk H' ⟨F', m', kvs, rfl, hi, fr, ck, nF, hA, lA, q'⟩
      have r' := r1.fresh fr ck
      have lk' : ∀ p ∈ lk, H' p.1 = some p.2 := fun p hp => fr.hh p.1 p.2 (hk p hp).1 (hk p hp).2.1 (hk p hp).2.2
      obtain ⟨go, stop⟩ := w i F' H' fr.ff r'.sub lk'
      by_cases hlt : i < its.length
      · have hd : its[i]? = some its[i] := List.getElem?_eq_getElem hlt
        rw [List.drop_eq_getElem_cons hlt] at q'
        obtain ⟨g1, g2⟩ := go _ hd
        obtain ⟨env2, e2, q2⟩ := q'
        refine .inr ⟨g1, fun H2 => ∃ F2 m2 kvs2, Fresh c F1 H1 F2 H2 ∧ Ck g c m2 F2 H2 ∧ F2 Dl = none ∧ H2 Dl = some (.dK kvs2) ∧ kvs2.length ≤ i + 1 ∧ DkR f dk dv (wipeE env vs) (its.drop (i + 1)) m2 (kvs2.map (·.1)) (fun ks m3 => Q1 (.int (ks.length : Nat)) m3), fun H2 ⟨F2, m2, kvs2, a1, a2, a3, a4, a6, a7⟩ => ⟨its.length - (i + 1), by omega, F2, m2, kvs2, rfl, by omega, a1, a2, a3, a4, a6, a7⟩, fun x H3 y => ?_⟩
        obtain ⟨F3, n3, rp3⟩ := g2 x H3 y
        have r3 := (r'.wipe vs).new n3
        have fr3 := fr.trans (n3.fresh ck)
        have ck3 := ck.new n3
        refine hg c F3 _ m' _ H3 _ x env2 _ r3 rp3 e2 fun σ4 r4 o4 l4 a4 => ⟨?_, ?_⟩
        · refine Eq.trans (wipe_same l4 fun j hj' => a4 j fun z => hj' (hj j z)) (wipe_wipe σ vs)
        · have keep : ∀ {F5 H5 : Hp}, Fresh c F3 H3 F5 H5 → F5 Dl = none ∧ H5 Dl = some (.dK kvs) := fun {F5 H5} f5 => by
            have h3 : H3 Dl = some (.dK kvs) := n3.hh _ _ hA
            refine ⟨?_, f5.hh _ _ h3 cD⟩
            cases z : F5 Dl with
            | none => rfl
            | some o =>
              rcases f5.new Dl o z with y | y
              · rcases n3.new Dl o y with u | u
                · rw [nF] at u; cases u
                · rw [hA] at u; cases u
              · rw [h3] at y; cases y
          refine ⟨c, F3, env2, m', _, r4, (show dYes env2 m' fun b m5 => b = true ∧ dk env2 m5 fun x m1 => dv env2 m1 fun _ m2 => ∃ k, x.key = some k ∧ DkR f dk dv (wipeE env vs) (its.drop (i + 1)) m2 (putKey (kvs.map (·.1)) k) (fun ks m3 => Q1 (.int (ks.length : Nat)) m3) from ⟨rfl, q2⟩), fun b H5 F5 m5 r5 f5 ⟨hb, q5⟩ => ?_⟩
          subst hb
          refine ⟨c, F5, env2, m5, _, r5, q5, fun v6 H6 F6 m6 y6 r6 f6 rp6 q6 => ⟨c, F6, env2, m6, _, r6, q6, fun v7 H7 F7 m7 y7 r7 f7 rp7 ⟨key, hkey, q7⟩ => ?_⟩⟩
          obtain ⟨k1, k2⟩ := keep ((f5.trans f6).trans f7)
          have fr6 := ((fr3.trans f5).trans f6).trans f7
          refine ⟨kvs, key, key_rep hkey rp6, k2, ll' (by omega), F7, m7, putK kvs key v7, ⟨fr6.ff, fun a o z => ?_, fun a o z n => ?_, fr6.new, fr6.nc⟩, ⟨fun a z => ?_, TabF.upd r7.ck.tb k2 rfl no_code⟩, k1, upd_same, ?_, ?_⟩
          · have : a ≠ Dl := fun e => by subst e; rw [k1] at z; cases z
            rw [upd_ne this]; exact fr6.fh a o z
          · have : a ≠ Dl := fun e => by subst e; rw [hD] at z; cases z
            rw [upd_ne this]; exact fr6.hk a o z n
          · have : a ≠ Dl := fun e => by subst e; exact cD z
            obtain ⟨b1, xs, b2, b3⟩ := r7.ck a z
            exact ⟨b1, xs, by rw [upd_ne this]; exact b2, b3⟩
          · have e1 := congrArg List.length (putK_keys kvs key v7)
            rw [List.length_map] at e1
            rw [e1]
            unfold putKey
            split
            · rw [List.length_map]; omega
            · rw [List.length_append, List.length_map, List.length_singleton]; omega
          · rw [putK_keys]; exact q7
      · have hi' : i = its.length := by omega
        rw [List.drop_eq_nil_of_le (by omega)] at q'
        have q'' : Q1 (.int ((kvs.map (·.1)).length : Nat)) m' := q'
        rw [List.length_map] at q''
        exact .inl ⟨stop hi', Dl, kvs, rfl, hA, k _ H' F' m' _ r' (f1.trans fr) (.int _) q''⟩⟩
theorem ge_lenDc (hc : X.calm = true) (hN : X.N.Nodup) (hi : GI true g X tg iter di) (ok : BlkOk X.N X.env.scope scope own)
    (hg : ∀ (s : Shared) (H : Hp) (C : Addr) (cl : List (Str × Addr)) (fp : List Addr), GG g (X.blk s H scope (compEnvC scope cl C X.env) fp) tg T f js)
    (hk : ∀ (s : Shared) (H : Hp) (C : Addr) (cl : List (Str × Addr)) (fp : List Addr), GE g (X.blk s H scope (compEnvC scope cl C X.env) fp) kx dk) (he : ∀ (s : Shared) (H : Hp) (C : Addr) (cl : List (Str × Addr)) (fp : List Addr), GE g (X.blk s H scope (compEnvC scope cl C X.env) fp) vx dv)
    (hgl : Gl X "len") (hm : X.mg "len" = none) (hj : ∀ j ∈ js, j ∈ own.map (·.2) := by decide) (hs : ∀ x, foldedSetIterable iter X.env x = pure x := by intro _; rfl)
    (hs1 : starEach [.DictComp kx vx [⟨tg, iter, [], 0⟩] scope dpos] X.env = (false, eval (.DictComp kx vx [⟨tg, iter, [], 0⟩] scope dpos) X.env) :: starEach [] X.env := by rfl) :
    GE g X (.Call (.Name "len" p) [.DictComp kx vx [⟨tg, iter, [], 0⟩] scope dpos] [] pos) (dLenDc di f dk dv (own.map (·.2))) :=
  ⟨fun pins s σ H Q I q => (pe_callB call_lenD hgl hm PySem.boot_len (pa_cons (pe_dc (wi := tI X.K g true di) (g := T) (tt := tT X.K g dYes) (tk := tD X.K g dk) (tv := tD X.K g dv) hc hN hi ok (fun s H C cl fp => (hg s H C cl fp).pg) (fun s H C cl fp => gts_nil) (fun s H C cl fp => hk s H C cl fp) (fun s H C cl fp => he s H C cl fp) hs) pa_nil hs1) (by decide) (by decide) hs1 rfl).run pins s σ H Q I (dc_weak (T := T) _ hj (hg s H 0 [] []).ok σ H Q q)⟩
end
end G
namespace G
open PySem L2
section
variable {g : Gp} {X : Cx} {a b e : Expr} {d : DE} {dl dl2 : DL} {pos : Pos}
theorem kit_same {K : PySem.W.Frag} {C : Addr} : PySem.W.kitOne K (.ref C) (.ref C) = some true := by
  unfold PySem.W.kitOne
  rw [if_pos]
  simp
end
end G
namespace G
open PySem L2
section
variable {g : Gp} {X : Cx} {pos p1 : Pos}
theorem ge_negI {i : Int} {k : Nat} : GE g X (.UnaryOp .USub (.Constant (.int i) k p1) pos) (dC (.int (-i))) := PE.weak (pe_un un_neg pe_int) fun σ H Q ⟨c, F, env, m, Q1, r, q, kk⟩ => ⟨i, rfl, kk _ H F m _ r (Fresh.refl r.sub r.ck) (.int _) q⟩
theorem mono_var (i : Nat) : ∀ env m Q Q', (∀ y m', Q y m' → Q' y m') → dVar i env m Q → dVar i env m Q' := fun _ _ _ _ h ⟨d, hd, q⟩ => ⟨d, hd, h _ _ q⟩
end
end G
namespace G
open PySem L2
section
variable {g : Gp} {X : Cx} {elt kx vx tg iter : Expr} {ifs : List Expr} {scope : Scope} {own : List (Str × Nat)} {pos p dpos : Pos} {di : DL} {T : TG} {f : D → Env' → Option Env'} {js vs : List Nat} {dt : DT} {de dk dv : DE}
abbrev AllB (X : Cx) (scope : Scope) (Z : Cx → Prop) : Prop := ∀ (s : Shared) (H : Hp) (C : Addr) (cl : List (Str × Addr)) (fp : List Addr), Z (X.blk s H scope (compEnvC scope cl C X.env) fp)
theorem gn_lc' (hc : X.calm = true) (hN : X.N.Nodup) (hi : GI true g X tg iter di) (ok : BlkOk X.N X.env.scope scope own) (hg : AllB X scope fun Y => GG g Y tg T f js) (ht : AllB X scope fun Y => GTs g Y ifs dt) (he : AllB X scope fun Y => GE g Y elt de)
    (hv : own.map (·.2) = vs := by rfl) (hj : ∀ j ∈ js, j ∈ own.map (·.2) := by decide) (hs : ∀ x, foldedSetIterable iter X.env x = pure x := by intro _; rfl) : GN g X (.ListComp elt [⟨tg, iter, ifs, 0⟩] scope pos) (dLc di f dt de vs) := by
  subst hv; exact gn_lc hc hN hi ok hg ht he hj hs
theorem gs_setLc' {i : Nat} {y : Str} {py spos : Pos} (hc : X.calm = true) (hN : X.N.Nodup) (hy : X.N[i]? = some y) (hyl : X.env.scope.names.lookup y = some .local)
    (hsw : swapsWith (.ListComp elt [⟨tg, iter, ifs, 0⟩] scope pos) (some (.Name y py)) spos.line X.env = pure true) (hi : GI true g X tg iter di) (ok : BlkOk X.N X.env.scope scope own) (hg : AllB X scope fun Y => GG g Y tg T f js) (ht : AllB X scope fun Y => GTs g Y ifs dt) (he : AllB X scope fun Y => GE g Y elt de)
    (hv : own.map (·.2) = vs := by rfl) (hj : ∀ j ∈ js, j ∈ own.map (·.2) := by decide) (hs : ∀ x, foldedSetIterable iter X.env x = pure x := by intro _; rfl) : GS g X (.Assign [.Name y py] (.ListComp elt [⟨tg, iter, ifs, 0⟩] scope pos) spos) (dAsg i (dNew (dLc di f dt de vs))) := by
  subst hv; exact gs_setLc hc hN hy hyl hsw hi ok hg ht he hj hs
theorem ge_lenDc' (hc : X.calm = true) (hN : X.N.Nodup) (hi : GI true g X tg iter di) (ok : BlkOk X.N X.env.scope scope own) (hg : AllB X scope fun Y => GG g Y tg T f js) (hk : AllB X scope fun Y => GE g Y kx dk) (he : AllB X scope fun Y => GE g Y vx dv)
    (hgl : Gl X "len") (hm : X.mg "len" = none) (hv : own.map (·.2) = vs := by rfl) (hj : ∀ j ∈ js, j ∈ own.map (·.2) := by decide) (hs : ∀ x, foldedSetIterable iter X.env x = pure x := by intro _; rfl)
    (hs1 : starEach [.DictComp kx vx [⟨tg, iter, [], 0⟩] scope dpos] X.env = (false, eval (.DictComp kx vx [⟨tg, iter, [], 0⟩] scope dpos) X.env) :: starEach [] X.env := by rfl) :
    GE g X (.Call (.Name "len" p) [.DictComp kx vx [⟨tg, iter, [], 0⟩] scope dpos] [] pos) (dLenDc di f dk dv vs) := by
  subst hv; exact ge_lenDc hc hN hi ok hg hk he hgl hm hj hs hs1
end
end G
namespace G
open PySem L2
theorem gg_tupK {g : Gp} {X : Cx} {pos : Pos} (K : PySem.W.Frag) {tgs : List Expr} {Gs : TGs} {fs : List D → Env' → Option Env'} {js : List Nat} {k n : Nat} (hc : X.calm = true) (h : GGs g X tgs Gs fs js) (hK : X.K = K := by rfl) (hn : (assignEach tgs X.env).length = n := by rfl) (hst : (assignEach tgs X.env).findIdx? (·.1) = none := by rfl) :
    GG g X (.Tuple tgs k pos) (gTup K n Gs) (tgT fs n) js := by subst hK; exact gg_tup hc h hn hst
end G
namespace G
open PySem L2
section
variable {prog : Program} {w : World} {A : Around} {E : Value → Shared → Prop}
theorem draw_walk {it : Addr} {fp wr : List Addr} {N : Nat} {Pv : Nat → Value → Prop} {St : Nat → Heap → Prop} (W : Walks prog w A it fp wr N Pv St) : ∀ (n i : Nat) (s : Shared) (Q : List Value → Shared → Prop), i + n ≤ N → St i s.heap →
    (∀ vs h' tk, vs.length = n → (∀ (j : Nat) (v : Value), vs[j]? = some v → Pv (i + j) v) → St (i + n) h' → (∀ b o, b ∉ wr → s.heap.get? b = some o → h'.get? b = some o) → Q vs { s with heap := h', toks := tk }) →
    wpAny (model prog w) A (draw (.ref it) n) Q E s
  | 0, i, s, Q, _, st, hQ => by
    have q0 := hQ [] s.heap s.toks rfl (fun j v h => by simp at h) st (fun _ _ _ h => h)
    unfold draw
    exact wpAny_pure q0
  | n + 1, i, s, Q, hi, st, hQ => by
    unfold draw
    refine wpAny_bind (W.item i s _ _ (by omega) st fun v h' tk hP st' hk => ?_)
    refine wpAny_bind (wpAny_holding (draw_walk W n (i + 1) { s with heap := h', toks := tk } _ (by omega) st' fun vs h2 tk2 hl hv st2 hk2 => wpAny_pure ?_))
    refine hQ (v :: vs) h2 tk2 (by rw [List.length_cons, hl]) (fun j u hj => ?_) (by rw [show i + (n + 1) = i + 1 + n by omega]; exact st2) (fun b o nb e => hk2 b o nb (hk b o nb e))
    cases j with
    | zero => simp at hj; subst hj; exact hP
    | succ j =>
      have := hv j u (by simpa using hj)
      rw [show i + (j + 1) = i + 1 + j by omega]; exact this
theorem walks_text (hh : A.handled = none) (it : Addr) (x : Str) (t : Tok) : Walks prog w A it [it] [it] x.cps.size (SignAt x) (fun i h => h.IsStrIter it (strIterType x) x t i) := by
  cases ha : x.cps.all (· < 128)
  · simp only [strIterType, ha, Bool.false_eq_true, if_false]
    exact .strWide hh it x t
  · simp only [strIterType, ha, if_true]
    exact .strAscii hh it x t
theorem unpack_text {s : Shared} {x : Str} {t : Tok} {Q : List Value → Shared → Prop} (hh : A.handled = none)
    (hQ : ∀ vs h' tk, vs.length = x.length → (∀ (j : Nat) (v : Value), vs[j]? = some v → SignAt x j v) → (∀ b o, s.heap.get? b = some o → h'.get? b = some o) → Q vs { s with heap := h', toks := tk }) : wpAny (model prog w) A (unpackItems (.str x t) x.length none) Q E s := by
  unfold unpackItems
  refine wpAny_bind ?_
  unfold notIterableAtAll
  refine wpAny_bind (wpAny_specialOf (typeIs_str _ _ _) PySem.F.slot_str_iter.lookup ?_)
  refine wpAny_pure ?_
  simp only [Bool.false_eq_true, if_false]
  refine wpAny_bind (wpAny_holding (wpAny_pyIter_strU ?_))
  have W := walks_text (prog := prog) (w := w) hh s.heap.objs.size x t
  refine wpAny_bind (wpAny_holding (draw_walk W x.length 0 _ _ (by show 0 + x.cps.size ≤ x.cps.size; omega) ⟨_, Heap.get?_push_size _ rfl, rfl, rfl⟩ fun vs h1 tk1 hl hv st hk => ?_))
  rw [if_neg (by omega)]
  have st' : h1.IsStrIter s.heap.objs.size (strIterType x) x t x.cps.size := by
    have : 0 + x.length = x.cps.size := by show 0 + x.cps.size = _; omega
    rw [this] at st; exact st
  refine wpAny_bind (wpAny_holding (W.done _ _ _ st' fun h2 tk2 hk2 => ?_))
  simp only [Option.isSome_none, Bool.false_eq_true, if_false]
  refine wpAny_pure (hQ vs h2 tk2 hl (fun j v h => by have := hv j v h; rwa [Nat.zero_add] at this) fun b o e => ?_)
  have nb : b ∉ [s.heap.objs.size] := by
    simp
    exact Nat.ne_of_lt (Heap.lt_size e)
  exact hk2 b o nb (hk b o nb (Heap.get?_push_of_some _ e))
end
def gTupS (n : Nat) (t : TGs) : TG := fun v σ H Q => ∃ z : Str, v = .str z ∧ z.length = n ∧ t (chars z) σ H Q
theorem pg_tupS {X : Cx} {es : List Expr} {k n : Nat} {t : TGs} {pos : Pos} (hc : X.calm = true) (h : PGs X es t) (hn : (assignEach es X.env).length = n := by rfl) (hst : (assignEach es X.env).findIdx? (·.1) = none := by rfl) : PG X (.Tuple es k pos) (gTupS n t) := by
  refine ⟨fun pins s σ H v u Q I r hw => ?_⟩
  obtain ⟨z, rfl, hz, hw⟩ := hw
  obtain ⟨tk, rfl⟩ := r
  rw [arm_assign_Tuple]
  refine wpAny_bind (wpAny_standAt ?_)
  unfold unpack
  rw [hst, hn, ← hz]
  refine wpAny_bind (wpAny_holding (unpack_text (I.ok.hd hc) fun vs h' tk' hl hv hk => ?_))
  have I1 : Inv X pins σ H { s with heap := h', toks := tk' } := I.kept hk
  refine h.run pins _ σ H (chars z) vs Q I1 ?_ hw
  have := vals_chars (x := z) (acc := vs.toArray) ⟨by rw [List.size_toArray, hl]; rfl, fun j v e => hv j v (by simpa using e)⟩
  simpa using this
def tgTS (fs : List D → Env' → Option Env') (n : Nat) : D → Env' → Option Env' := fun d env => match d with | .str z => if z.length = n then fs (charsD z) env else none | _ => none
theorem gg_tupS {g : Gp} {X : Cx} {pos : Pos} {tgs : List Expr} {Gs : TGs} {fs : List D → Env' → Option Env'} {js : List Nat} {k n : Nat} (hc : X.calm = true) (h : GGs g X tgs Gs fs js) (hn : (assignEach tgs X.env).length = n := by rfl) (hst : (assignEach tgs X.env).findIdx? (·.1) = none := by rfl) :
    GG g X (.Tuple tgs k pos) (gTupS n Gs) (tgTS fs n) js := ⟨pg_tupS hc h.pg hn hst, fun c F env m σ H d v env2 Q r rp e kk => by
  cases d with
  | str z =>
    simp only [tgTS] at e
    split at e
    · rename_i hl
      cases rp
      exact ⟨z, rfl, hl, h.ok c F env m σ H (charsD z) (chars z) env2 Q r (chars_rep z) e kk⟩
    · cases e
  | _ => cases e⟩
end G
namespace G
open PySem L2
abbrev DO := Env' → Nat → (Option Int → Nat → Prop) → Prop
def dNoP : DO := fun _ m Q => Q none m
def dP (d : DE) : DO := fun env m Q => d env m fun x m1 => ∃ i, x = .int i ∧ Q (some i) m1
def tOd (K : PySem.W.Frag) (g : Gp) (d : DO) : TO := fun σ H Q' => ∃ c F env m Q, Rel K g c F env m σ H ∧ d env m Q ∧ ∀ o H' F' m', Rel K g c F' env m' σ H' → Fresh c F H F' H' → Q o m' → Q' o H'
def GO (g : Gp) (X : Cx) (e : Option Expr) (d : DO) : Prop := PO X e (tOd X.K g d)
def cutL {α : Type} (xs : List α) (lo hi : Option Int) : List α := (xs.drop (HT.sIx xs.length 0 lo)).take (HT.sIx xs.length xs.length hi - HT.sIx xs.length 0 lo)
def sliceD : D → Option Int → Option Int → Option D
  | .str z, lo, hi => if z.length ≤ LL then some (.str (cutS z lo hi)) else none
  | .tup ds, lo, hi => some (.tup (cutL ds lo hi))
  | .lst ds, lo, hi => some (.lst (cutL ds lo hi))
  | _, _, _ => none
def dSlice (d : DE) (dl dh : DO) : DE := fun env m Q => d env m fun x m1 => dl env m1 fun lo m2 => dh env m2 fun hi m3 => ∃ z, sliceD x lo hi = some z ∧ Q z m3
section
variable {K : PySem.W.Frag} {g : Gp} {X : Cx} {e : Expr} {d : DE} {lo hi : Option Expr} {dl dh : DO} {pos p2 : Pos}
theorem PO.weak {t t' : TO} (h : PO X lo t) (w : ∀ σ H Q, t' σ H Q → t σ H Q) : PO X lo t' := ⟨fun pins s σ H Q I q => h.run pins s σ H Q I (w σ H Q q)⟩
theorem go_none : GO g X none dNoP := PO.weak po_none fun σ H Q ⟨c, F, env, m, Q1, r, h, k⟩ => k none H F m r (Fresh.refl r.sub r.ck) h
theorem go_some (he : GE g X e d) : GO g X (some e) (dP d) := PO.weak (po_some he) fun σ H Q ⟨c, F, env, m, Q1, r, h, k⟩ => ⟨c, F, env, m, _, r, h, fun v H1 F1 m1 x r1 f1 rp ⟨i, ex, q⟩ => by
  subst ex
  cases rp
  exact ⟨i, rfl, k _ H1 F1 m1 r1 f1 q⟩⟩
theorem RepL.cut {F : Hp} {ds : List D} {xs : List V} (h : RepL K g F ds xs) (lo hi : Option Int) : RepL K g F (cutL ds lo hi) (cutV xs lo hi) := by
  unfold cutL cutV
  rw [h.length]
  exact (h.drop _).take _
theorem cutL_whole {α : Type} {xs : List α} {lo hi : Option Int} (h1 : HT.sIx xs.length 0 lo = 0) (h2 : HT.sIx xs.length xs.length hi = xs.length) : cutL xs lo hi = xs := by
  unfold cutL
  rw [h1, h2, List.drop_zero, Nat.sub_zero, List.take_length]
theorem ge_slice (he : GB g X e d) (hl : GO g X lo dl) (hh : GO g X hi dh) : GE g X (.Subscript e (.Slice lo hi none p2) pos) (dSlice d dl dh) :=
  PE.weak (pe_slice (SlR.or sl_str (SlR.or sl_tupA sl_list)) he hl hh) fun σ H Q ⟨c, F, env, m, Q1, r, h, k⟩ =>
    ⟨c, F, env, m, _, r, h, fun v H1 F1 m1 x r1 f1 rp q1 => ⟨c, F1, env, m1, _, r1, q1, fun l H2 F2 m2 r2 f2 q2 => ⟨c, F2, env, m2, _, r2, q2, fun u H3 F3 m3 r3 f3 ⟨z, hz, q3⟩ => by
      have rp3 := (rp.mono f2).mono f3
      have fr := (f1.trans f2).trans f3
      cases x with
      | str s =>
        simp only [sliceD] at hz
        split at hz
        · rename_i hs
          cases hz
          rw [rp3.str']
          exact .inl ⟨s, rfl, ll hs, k _ H3 F3 m3 _ r3 fr (.str _) q3⟩
        · cases hz
      | tup ds =>
        cases hz
        obtain ⟨a, xs, rfl, h1, h2⟩ := rp3.tup'
        refine .inr (.inl ⟨a, xs, rfl, Evl.ex_t r3.sub h1, fun ⟨w1, w2⟩ => ?_, fun _ p hp => ?_⟩)
        · rw [h2.length] at w1 w2
          rw [cutL_whole w1 w2] at q3
          exact k _ H3 F3 m3 _ r3 fr (.tup h1 h2) q3
        · have n := New.fix (o := .tup (cutV xs l u)) r3.sub hp
          exact k _ _ _ m3 _ (r3.new n) (fr.trans (n.fresh r3.ck)) (.tup (SqT.of upd_same) ((h2.cut l u).mono n.ff)) q3
      | lst ds =>
        cases hz
        obtain ⟨a, xs, rfl, h1, h2, _⟩ := rp3
        refine .inr (.inr ⟨a, xs, rfl, SqL.of h1, fun p hp => ?_⟩)
        have n := New.fix (o := .lst (cutV xs l u)) r3.sub hp
        exact k _ _ _ m3 _ (r3.new n) (fr.trans (n.fresh r3.ck)) (.lst upd_same ((h2.cut l u).mono n.ff)) q3
      | _ => cases hz⟩⟩⟩
theorem ObR.fix {F F' : Hp} {d : D} {u : HO} {p : Addr} (h : ObR K g F p d u) (hp : F' p = some u) (e : Ex F F') : Rep K g F' d (.ref p) := by
  cases d with
  | lst ds => obtain ⟨xs, rfl, h2⟩ := h; exact .lst hp (RepL.mono e h2)
  | dic kds => obtain ⟨kvs, rfl, h2, h3⟩ := h; exact .dic hp h2 (RepL.mono e h3)
  | dit kds => obtain ⟨o, xs, rfl, h1, h2, h3, h4⟩ := h; exact .dit hp h1 h2 (fun x hx => Evl.ex_t e (h3 x hx)) (RepL.mono e h4)
  | _ => exact h.elim
theorem Rel.holdS {c : Option Addr} {F H F' : Hp} {env : Env'} {m : Nat} {σ : St} {i : Nat} {s : Sl} {d : D} {v : V} (r : Rel K g c F env m σ H) (ho : env[i]? = some s) (ex : Ex F F') (sub : Ex F' H) (hF : ∀ a u, F' a = some u → F a = some u ∨ a ∈ s.adr σ[i]?) (hv : σ[i]? = some (some v)) (rp : Rep K g F' d v) :
    Rel K g c F' (env.set i (.val d)) m σ H ∧ Evo c (Own env σ) F H (Own (env.set i (.val d)) σ) F' H := by
  have hi : i < env.length := (List.getElem?_eq_some_iff.mp ho).1
  have sl := r.slot i s ho
  have none' : ∀ {a : Addr}, F a = none → a ∉ s.adr σ[i]? → F' a = none := fun {a} h1 h2 => by
    cases q : F' a with
    | none => rfl
    | some u =>
      rcases hF a u q with z | z
      · rw [h1] at z; cases z
      · exact absurd z h2
  have nc : ∀ a, c = some a → F' a = none := fun a z => none' (r.nc a z) fun y => (sl.at y).2.1 z
  have ne_own : ∀ (j : Nat) (sj : Sl) (a : Addr), (env.set i (.val d))[j]? = some sj → a ∈ sj.adr σ[j]? → i ≠ j ∧ env[j]? = some sj := fun j sj a h hm => by
    by_cases q : i = j
    · subst q; rw [List.getElem?_set_self hi] at h; cases h; simp [Sl.adr] at hm
    · rw [List.getElem?_set_ne q] at h; exact ⟨q, h⟩
  refine ⟨⟨sub, by rw [List.length_set]; exact r.len, fun j sj h => ?_, fun j k sj sk a e1 e2 e3 e4 => r.sep j k sj sk a (ne_own j sj a e1 e3).2 (ne_own k sk a e2 e4).2 e3 e4, ⟨fun a z => ?_, r.ck.tb.mono ex fun p hp => none' (r.ck.tb.nf p hp) fun y => (by
      obtain ⟨_, _, u, h1, h2, _⟩ := sl.at' y
      obtain ⟨ps, h3⟩ := r.ck.tb.at hp
      rw [h1] at h3
      cases h3
      cases h2)⟩⟩, ex, sub, fun a o h _ _ => .of h, fun a o z => ?_, nc, fun a ⟨j, sj, e1, e2⟩ => ?_⟩
  · by_cases q : i = j
    · subst q
      rw [List.getElem?_set_self hi] at h
      cases h
      exact ⟨v, hv, rp⟩
    · rw [List.getElem?_set_ne q] at h
      have w := r.slot j sj h
      exact w.keep ex fun a hm => ⟨none' (w.at hm).1 fun z => q (r.sep i j s sj a ho h z hm), rfl⟩
  · obtain ⟨b1, ys, b2, b3⟩ := r.ck a z
    exact ⟨nc a z, ys, b2, b3⟩
  · rcases hF a o z with y | y
    · exact .inl y
    · exact .inr (.inr ⟨i, s, ho, y⟩)
  · obtain ⟨q, h⟩ := ne_own j sj a e1 e2
    exact ⟨r.ownc a ⟨j, sj, h, e2⟩, .inl ⟨j, sj, h, e2⟩⟩
theorem Rel.freezeW {c : Option Addr} {F H : Hp} {env : Env'} {m : Nat} {σ : St} {i : Nat} {ds : D} (r : Rel K g c F env m σ H) (ho : env[i]? = some (.ow ds)) :
    ∃ F', Rel K g c F' (env.set i (.val ds)) m σ H ∧ Evo c (Own env σ) F H (Own (env.set i (.val ds)) σ) F' H := by
  obtain ⟨p, xs, hs, h1, h2, h3, h4⟩ := r.slot i _ ho
  refine ⟨upd F p xs, r.holdS ho (Evl.Ex.new h1) (fun a o z => ?_) (fun a u z => ?_) hs (h3.fix upd_same (Evl.Ex.new h1))⟩
  · by_cases y : a = p
    · subst y; rw [upd_same] at z; rw [← z]; exact h2
    · rw [upd_ne y] at z; exact r.sub a o z
  · by_cases y : a = p
    · subst y; exact .inr (by rw [hs]; simp [Sl.adr])
    · rw [upd_ne y] at z; exact .inl z
theorem Rel.freeze {c : Option Addr} {F H : Hp} {env : Env'} {m : Nat} {σ : St} {i : Nat} {ds : List D} (r : Rel K g c F env m σ H) (ho : env[i]? = some (.own ds)) :
    ∃ F', Rel K g c F' (env.set i (.val (.lst ds))) m σ H ∧ Evo c (Own env σ) F H (Own (env.set i (.val (.lst ds))) σ) F' H := r.freezeW ho
def dFreeze (i : Nat) (s : DS) : DS := fun env m E => ∃ ds, env[i]? = some (.own ds) ∧ s (env.set i (.val (.lst ds))) m E
theorem fr_weak {i : Nat} {s : DS} : ∀ D σ H, tSD K g (dFreeze i s) D σ H → tSD K g s D σ H := fun D σ H ⟨c, F, env, m, E, r, ⟨ds, ho, h⟩, o⟩ => by
  obtain ⟨F', r', v⟩ := r.freeze ho
  exact ⟨c, F', _, m, E, r', h, o.shift v⟩
theorem gs_freeze (i : Nat) {st : Stmt} {s : DS} (h : GS g X st s) : GS g X st (dFreeze i s) := PS.weak h fr_weak
def dSetI (i : Nat) (dv dk : DE) : DS := fun env m E => dv env m fun x m1 => ∃ ds, env[i]? = some (.own ds) ∧ dk env m1 fun k m2 => ∃ (j : Int) (n : Nat), k = .int j ∧ ixN ds.length j = some n ∧ E.nx (env.set i (.own (ds.set n x))) m2
theorem gs_setI (i : Nat) {x : Str} {v k : Expr} {dv dk : DE} {p1 ps : Pos} (hv' : GE g X v dv) (hk : GE g X k dk) (hN : X.N[i]? = some x := by rfl) (hv : Vis X.env.scope x := by first | exact Or.inl rfl | exact Or.inr (Or.inl rfl) | exact Or.inr (Or.inr rfl)) (hd : (x == ("__debug__" : Str)) = false := by decide)
    (hcd : (x == ("__classdict__" : Str)) = false := by decide) (ha : ∀ w, assign (.Subscript (.Name x p1) k ps) X.env w = (do
      let ov ← holding [w] (eval (.Name x p1) X.env)
      let iv ← holding [w, ov] (eval k X.env)
      standAt ps
      holding [w, ov, iv] (setItem ov iv w)
      release [w, ov, iv] []) := by intro _; rfl) (hs : swapsWithSole [.Subscript (.Name x p1) k ps] v pos.line X.env = pure false := by rfl) (hw : swappedStores [.Subscript (.Name x p1) k ps] v X.env = pure none := by rfl)
    (h1 : (assignEach [.Subscript (.Name x p1) k ps] X.env).map (·.2) = [assign (.Subscript (.Name x p1) k ps) X.env] := by rfl) : GS g X (.Assign [.Subscript (.Name x p1) k ps] v pos) (dSetI i dv dk) :=
  PS.weak (ps_asg hv' (pg_sub (pe_var hN hv hd hcd) hk set_list ha) hs hw h1) fun D σ H ⟨c, F, env, m, E, r, h, o⟩ => ⟨c, F, env, m, _, r, h, fun u H1 F1 m1 y r1 f1 rp ⟨ds, ho, q1⟩ => by
    obtain ⟨p, xs, es, hp, rl, nc⟩ := own_at r1 ho
    refine ⟨.ref p, es, c, F1, env, m1, _, r1, q1, fun iv H2 F2 m2 k' r2 f2 rk ⟨j, n, ek, hj, q2⟩ => ?_⟩
    subst ek
    cases rk
    obtain ⟨p', xs', es', hp', rl', nc'⟩ := own_at r2 ho
    rw [es] at es'
    cases es'
    obtain ⟨r3, v3⟩ := r2.mut ho es (rl'.set (rp.mono f2.ff) n)
    exact ⟨p, xs', j, n, rfl, rfl, hp', by rw [rl'.length]; exact hj, o.nx σ _ F2 _ m2 r3 ((r.evo (f1.trans f2)).trans v3) q2⟩⟩
end
end G
namespace G
open PySem L2
abbrev Calm (A : Around) : Prop := A.guards = some []
structure FnG (P : Program) (w : World) (K : PySem.W.Frag) (mg : Str → Option Value) (base : Heap) (k : Nat) (f : Addr) (fd : FuncData) (ps : List Str) (sp : Sp) : Prop where
  len : ∀ vs H Q E, sp vs H Q E → vs.length = ps.length
  run : ∀ (A : Around) (outer : List Env) (s : Shared) (H : Hp) (args : Args) (us : List Value) (vs : List V) (Q : VK) (E : XK), Room k A → Calm A → Env0 P w K mg base A outer s H → BindsTo s fd args (ps.zip us) → Vals vs us → sp vs H Q E →
    codeAny (model P w) A (.call (.ref f) args) (CR CX0 outer P w H s Q E) s
theorem FnG.of {P : Program} {w : World} {K : PySem.W.Frag} {mg : Str → Option Value} {base : Heap} {k : Nat} {f : Addr} {fd : FuncData} {ps : List Str} {sp : Sp} (F : FnOk P w K mg base CX0 k f fd ps sp) : FnG P w K mg base k f fd ps sp :=
  ⟨F.len, fun A outer s H args us vs Q E hr _ => F.run A outer s H args us vs Q E hr⟩
section
variable {P : Program} {w : World} {K : PySem.W.Frag} {mg : Str → Option Value} {base : Heap} {g : Gp}
theorem fng_ok {x qual : Str} {st : Stmt} {f : Addr} {fd : FuncData} {N ps : List Str} {k : Nat} {sp : Sp} (F : Fun K x qual st f fd) (SC : FnScope N ps (defScope st)) (len : ∀ vs H Q E, sp vs H Q E → vs.length = ps.length)
    (body : ∀ (cdv : Value) (A : Around) (outer : List Env) (s : Shared) (H : Hp) (vs : List V) (Q : VK) (E : XK), Room k (A.deeper (PyProof.Rows.envOfC qual (defScope st) s.heap.objs.size f cdv)) → Calm (A.deeper (PyProof.Rows.envOfC qual (defScope st) s.heap.objs.size f cdv)) → sp vs H Q E →
      ∃ t, PSs (cxOf CX0 P w K mg base N qual (defScope st) f cdv A outer s H E).nox (defBody st) t ∧ t { nx := fun _ H' => Q .non H', rt := Q } (L2.start N vs) H) : FnG P w K mg base (k + 1) f fd ps sp := by
  obtain ⟨oc, od, kV, doc, pm, an, cdv, ct, osl, rfl, lk, hcd⟩ := F.ex
  refine ⟨len, fun A outer s H args us vs Q E room calm env0 bind vals want => ?_⟩
  have l0 := len _ _ _ _ want
  have kin : K.In s.heap := env0.mod.kin.keeps fun b o z => (env0.bs b o z).1
  have nolim : s.heap.NoLimit := env0.mod.nolimit.keeps fun b o z => (env0.bs b o z).1
  have kinds : ∀ y ∈ ps.zip us, (defScope st).names.lookup y.1 = some .local ∨ ((defScope st).names.lookup y.1 = some .cell ∧ ((cellsFrom (s.heap.objs.size + 1) (defScope st).names []).lookup y.1).isSome = true) := by
    rintro ⟨n, v⟩ hy
    exact (SC.par n (List.of_mem_zip hy).1).imp id fun c => ⟨c, PySem.W.cellsFrom_some _ _ _ (.inl c)⟩
  refine codeAny_call_function room.depth (kin _ _ lk) rfl SC.co SC.gen rfl (PySem.W.codeRec_of kin hcd) (bind _ _ _ _ ?_)
  refine wpAny_newFunctionEnv_cells SC.kind kinds fun env he s1 inside => ?_
  subst he
  refine ⟨nolim.keeps inside.toInCall.keep, codeAny_func ?_⟩
  obtain ⟨t, ht, good⟩ := body cdv A outer s H vs Q E (room.deeper _) calm want
  have I0 : Inv (cxOf CX0 P w K mg base N qual (defScope st) f cdv A outer s H E) [] (L2.start N vs) H s1 := inv_start SC room.hd env0 l0 vals inside
  refine wpAny_mono (ht.nox.run [] s1 (L2.start N vs) H _ I0 good) (fun fl s' res => ?_) fun e s' res => res
  cases fl with
  | ret u =>
    obtain ⟨v, σ', H', J, rv, q⟩ := res
    exact ⟨v, H', J.os, J.bare, J.base, J.hok, rv, q⟩
  | next =>
    obtain ⟨σ', H', J, q⟩ := res
    exact ⟨.non, H', J.os, J.bare, J.base, J.hok, rfl, q⟩
  | brk => exact res.choose_spec.choose_spec.2.elim
  | cont => exact res.choose_spec.choose_spec.2.elim
end
end G
namespace G
open PySem L2
theorem law_callG {P : Program} {w : World} {K : PySem.W.Frag} {mg mb : Str → Option Value} {k : Nat} {fa a : Addr} {fd : FuncData} {x : Str} {sp : Sp} {s₁ : Shared} {vs : List Value} {ns : List Int}
    (kin : K.In s₁.heap) (gl : s₁.heap.Ns mainGlobals mg) (bl : s₁.heap.Ns builtinsNs mb) (boot : ∀ x : Str, x ≠ "__name__" → mb x = bootBuiltins x) (lim : s₁.heap.NoLimit) (gens : s₁.gens = #[])
    (scr : s₁.heap.get? a = some { cls := .type "list", data := .seq vs.toArray }) (isI : PyProof.Rows.IntsAre vs ns) (short : ns.length ≤ sizeLine) (room : Room k PySem.callerA)
    (F : ∀ base : Heap, K.In base → base.Ns mainGlobals mg → FnG P w K mg base k fa fd [x] sp) (bind : ∀ (s : Shared) (u : Value), BindsTo s fd ⟨[u], []⟩ [(x, u)])
    (want : ∀ H : Hp, Only H → SqL K H a (ns.map V.int) → sp [.ref a] H (fun v _ => v = .bl true) fun _ _ _ => False) :
    codeAny (model P w) PySem.callerA (.call (.ref fa) ⟨[.ref a], []⟩) (fun r s' => r = .ok (.ret (.bool true)) ∧ OldK s₁.heap s'.heap ∧ s'.os = s₁.os ∧ PyProof.Rows.AllBare s'.gens) s₁ := by
  have isV := vals_ints isI
  have lens := isI.length
  have from' : ∀ H : Hp, Only H → SqL K H a (ns.map V.int) → HOk P w H s₁.heap → (∀ b, H b ≠ none → b = a) → (H a ≠ none → K.lookup a = none) →
      codeAny (model P w) PySem.callerA (.call (.ref fa) ⟨[.ref a], []⟩) (fun r s' => r = .ok (.ret (.bool true)) ∧ OldK s₁.heap s'.heap ∧ s'.os = s₁.os ∧ PyProof.Rows.AllBare s'.gens) s₁ := by
    intro H only sq ok mine notK
    have hid : ∀ {b : Addr} {o : Obj}, s₁.heap.get? b = some o → H b = none → (hidT s₁.heap H).get? b = some o := fun z n => hidT_get z n
    have isA : ∀ {b : Addr} {u : HO}, H b = some u → b = a := fun {b u} z => mine b (by rw [z]; simp)
    have dicts : ∀ {b : Addr} {o : Obj} {es : Array DictEntry} {ep : Nat}, s₁.heap.get? b = some o → o.data = .dict es ep → H b = none := by
      intro b o es ep z d
      cases q : H b with
      | none => rfl
      | some u =>
        have e := isA q
        subst e
        rw [scr] at z
        cases z
        exact absurd d (fun y => nomatch y)
    have names : ∀ {b : Addr} {m : Str → Option Value}, s₁.heap.Ns b m → (hidT s₁.heap H).Ns b m := by
      rintro b m ⟨o, es, ep, z, d, rest⟩
      exact ⟨o, es, ep, hid z (dicts z d), d, rest⟩
    have kinB : K.In (hidT s₁.heap H) := by
      intro b o z
      refine hid (kin b o z) ?_
      cases q : H b with
      | none => rfl
      | some u =>
        have e := isA q
        subst e
        rw [notK (by rw [q]; simp)] at z
        cases z
    have md : Mod K mg (hidT s₁.heap H) := by
      obtain ⟨mc, h1, h2⟩ := lim
      exact ⟨kinB, names gl, ⟨mb, names bl, boot⟩, ⟨mc, names h1, h2⟩⟩
    have env0 : Env0 P w K mg (hidT s₁.heap H) PySem.callerA [] s₁ H := ⟨rfl, md, fun b o z => of_hidT z, Nat.le_of_eq (hidT_size _ _), trivial, (fun b hb => nomatch (show b ∈ ([] : List Addr) from hb)), ok, .of_eq gens⟩
    refine codeAny_mono ((F _ kinB (names gl)).run PySem.callerA [] s₁ H ⟨[.ref a], []⟩ [.ref a] [.ref a] _ _ room rfl env0 (bind s₁ (.ref a)) (.cons rfl .nil) (want H only sq)) fun r s' res => ?_
    cases r with
    | error e => exact res.elim
    | ok fl =>
      cases fl with
      | ret u =>
        obtain ⟨v, H', os, bare, un, ok', rel, q⟩ := res
        have q' : v = .bl true := q
        subst q'
        obtain rfl : u = Value.bool true := rel
        refine ⟨rfl, OldK.of_keep fun b o z => ?_, os, bare⟩
        cases q : H b with
        | none => exact un.keep b o z q (fun y => nomatch (show b ∈ ([] : List Addr) from y)) (by simp)
        | some u =>
          rcases only b with y | ⟨ob, xs, y⟩
          · rw [q] at y; cases y
          · obtain ⟨e1, _⟩ := ok b _ y
            obtain ⟨e2, _⟩ := ok' b _ (un.frzs b ob _ y)
            rw [z] at e1
            cases e1
            exact e2
      | next => exact False.elim res
      | brk => exact False.elim res
      | cont => exact False.elim res
  cases hk : K.lookup a with
  | some o =>
    have z := kin a o hk
    rw [scr] at z
    cases z
    exact from' (fun _ => none) (fun _ => .inl rfl) (.inr ⟨_, vs.toArray, _, hk, rfl, rfl, rfl, by rw [List.size_toArray, lens]; exact short, by simpa using isV⟩) (fun b u y => nomatch (show (none : Option HO) = some u from y)) (fun b y => absurd rfl y) fun y => absurd rfl y
  | none =>
    let H0 : Hp := fun b => if b = a then some (.frz { cls := .type "list", data := .seq vs.toArray } (.lst (ns.map V.int))) else none
    have at' : H0 a = some (.frz { cls := .type "list", data := .seq vs.toArray } (.lst (ns.map V.int))) := if_pos rfl
    have off : ∀ {b : Addr}, b ≠ a → H0 b = none := fun h => if_neg h
    have inA : ∀ {b : Addr}, H0 b ≠ none → b = a := fun {b} h => Classical.byContradiction fun n => h (off n)
    refine from' H0 (fun b => ?_) (.inl (.inr ⟨_, at'⟩)) (fun b u y => ?_) (fun b y => inA y) fun _ => hk
    · by_cases hb : b = a
      · rw [hb]; exact .inr ⟨_, _, at'⟩
      · exact .inl (off hb)
    · have hb : b = a := inA (by rw [y]; simp)
      rw [hb, at'] at y
      cases y
      rw [hb]
      exact ⟨scr, by rw [List.length_map]; exact short, vs, _, isV, scr⟩
end G
namespace G
open PySem L2
theorem walk_ofG {l : PySem.W.OpenLaw} {n k : Nat} {q : Program} {loose : List Str} {XP : (Str → Option Value) → Heap → Prop} {YP : World → Heap → Prop} {d : DefRec} {K : Params → PySem.W.Frag} {sp : World → Sp} {x : Str}
    (most : l.most = some n) (few : n ≤ sizeLine) (nodef : d.params.defaults = []) (room : Room k PySem.callerA) (kin : ∀ (w : World) (h : Heap), YP w h → (K w.params).In h)
    (F : ∀ (w : World) (mg : Str → Option Value) (fa : Addr) (h : Heap), (K w.params).In h → h.Ns mainGlobals mg → mg d.name = some (.ref fa) →
      ∃ fd : FuncData, (∀ (s : Shared) (u : Value), BindsTo s fd ⟨[u], []⟩ [(x, u)]) ∧ ∀ base : Heap, (K w.params).In base → base.Ns mainGlobals mg → FnG l.prog w (K w.params) mg base k fa fd [x] (sp w))
    (want : ∀ (w : World) (H : Hp) (a : Addr) (ns : List Int), ns.length ≤ n → Only H → SqL (K w.params) H a (ns.map V.int) → sp w [.ref a] H (fun v _ => v = .bl true) fun _ _ _ => False) :
    PySem.W.WalkO q loose XP YP l.row.toRowW d [] (fun f vs => PySem.call f vs) := by
  refine Att.attach_call most nodef fun w s₀ s₁ mg mb fa o pm cd doc a vs ns G Y _ _ _ isf obj isI len gens => ?_
  have kx := kin w _ Y
  obtain ⟨fd, bd, ok⟩ := F w mg fa _ kx G.T.g isf
  exact law_callG kx G.T.g G.T.b G.T.builtins G.T.nolimit gens obj isI (Nat.le_trans len few) room ok bd fun H only sq => want w H a ns len only sq
section
variable {g : Gp} {X : Cx} {k : Nat} {f : Addr} {fd : FuncData} {ps : List Str} {S : Spec} {x : Str} {p pos : Pos} {e : Expr} {es : List Expr} {da : DA}
theorem pe_callG {sp : Sp} {t : TA} (F : FnG X.prog X.w X.K X.mg X.base k f fd ps sp) (hr : Room k X.A) (hc : Calm X.A) (hg : Gl X x) (hm : X.mg x = some (.ref f)) (hk : PySem.W.keepIn X.K (.ref f) = true) (hb : Binds X.K fd ps []) (ha : PA X (e :: es) t)
    (hdb : (x == ("__debug__" : Str)) = false := by decide) (he : starEach (e :: es) X.env = (false, eval e X.env) :: starEach es X.env := by rfl) (hpl : (backTo pos (starEach es X.env)).any (·.1) = false := by rfl) :
    PE X (.Call (.Name x p) (e :: es) [] pos) (tCall sp [] E0 t) := by
  refine ⟨fun pins s σ H Q I h => ?_⟩
  refine wpAny_Call_Name_kw (ld_glob I hg hm ?_ hdb)
  refine PySem.W.callWith_K (h₀ := X.base) I.ok.mod.kin hk (thn (ha.run pos pins s σ H _ I h) fun us s1 ⟨vs, H1, I1, rv, q⟩ => ⟨I1.kIn, ?_⟩) he hpl
  have q : sp (vs ++ []) H1 Q E0 := q
  rw [List.append_nil] at q
  have hl : us.length = ps.length := by rw [← rv.length]; exact F.len _ _ _ _ q
  have hb' := hb s1 us I1.kIn (by simpa using hl)
  rw [List.append_nil] at hb'
  refine wpAny_call (codeAny_mono (F.run X.A X.stack s1 H1 ⟨us, []⟩ us vs Q E0 hr hc I1.env0 hb' rv q) fun r s' res => ?_)
  cases r with
  | error z => exact res.elim
  | ok fl =>
    cases fl with
    | ret u => exact I1.after res
    | next => exact False.elim res
    | brk => exact False.elim res
    | cont => exact False.elim res
end
end G
namespace G
open PySem L2
end G
namespace G
open PySem L2
section
variable {P : Program} {w : World} {K : PySem.W.Frag} {mg : Str → Option Value} {base : Heap} {g : Gp}
theorem def_okG {x qual : Str} {st : Stmt} {f : Addr} {fd : FuncData} {N ps : List Str} {k : Nat} {S : Spec} (F : Fun K x qual st f fd) (SC : FnScope N ps (defScope st)) (len : ∀ as m Q, S as m Q → as.length = ps.length)
    (body : ∀ (cdv : Value) (A : Around) (outer : List Env) (s : Shared) (H : Hp) (E : XK), Room k (A.deeper (PyProof.Rows.envOfC qual (defScope st) s.heap.objs.size f cdv)) → Calm (A.deeper (PyProof.Rows.envOfC qual (defScope st) s.heap.objs.size f cdv)) →
      ∃ d, GSs g (cxOf CX0 P w K mg base N qual (defScope st) f cdv A outer s H E).nox (defBody st) d ∧ ∀ as m Q, S as m Q → d (pad N as) m { nx := fun _ m' => Q .non m', rt := Q }) :
    FnG P w K mg base (k + 1) f fd ps (spOf K g S) := by
  refine fng_ok F SC (fun vs H Q E h => ?_) (fun cdv A outer s H vs Q E hr calm h => ?_)
  · obtain ⟨c, F1, as, m, Q', _, ar, _, hs, _⟩ := h
    rw [← ar.length]; exact len as m Q' hs
  · obtain ⟨c, F1, as, m, Q', ex, ar, ck, hs, kk⟩ := h
    obtain ⟨d, gs, hd⟩ := body cdv A outer s H E hr calm
    obtain ⟨rel, no⟩ := start_rel (N := N) ex ar ck
    have toF : ∀ {O' : Addr → Prop} {F' H' : Hp}, Evo c (Own (pad N as) (L2.start N vs)) F1 H O' F' H' → Fresh c F1 H F' H' := fun v => ⟨v.ff, v.fh, fun a o h n => v.hk a o h n (no a), fun a o h => (v.new a o h).imp id fun z => z.elim id fun y => (no a y).elim, v.nc⟩
    refine ⟨_, gs, c, F1, _, m, _, rel, hd as m Q' hs, ⟨fun σ' H' F' env' m' r' v q => kk .non H' F' m' .non (toF v) r'.ck .non q, fun _ _ _ _ _ _ _ q => q.elim, fun _ _ _ _ _ _ _ q => q.elim, fun v H' F' m' y ck' ev rp q => kk v H' F' m' y (toF ev) ck' rp q⟩⟩
end
end G
namespace G
open PySem L2
open PySem.W (dataLe AllAlike Sortable EachIs dataLt alike alikeAll)
open PySem.SeqAt PyProof.Rows in
theorem lt_tups {prog : Program} {w : World} {A : Around} {E : Value → Shared → Prop} {s : Shared} {ks ls : List PyData} {u v : Value} {au av : List Addr} {Q : Bool → Shared → Prop} (ru : Reads s.heap u (.tuple ks) au) (rv : Reads s.heap v (.tuple ls) av)
    (hal : alikeAll ks ls = true) (hroom : A.units + min (PyData.tuple ks).depth (PyData.tuple ls).depth < cLine) (want : Q (dataLt (.tuple ks) (.tuple ls)) s) : wpAny (model prog w) A (oneLt' true u v) Q E s := by
  cases ru with
  | @tuple pu ou ius nu _ _ g1 g2 g3 g4 =>
    cases rv with
    | @tuple pv ov ivs nv _ _ f1 f2 f3 f4 =>
      have lu : ius.size = ks.length := by simpa using ReadsAll.length _ _ _ g4
      have lv : ivs.size = ls.length := by simpa using ReadsAll.length _ _ _ f4
      rw [PySem.W.dataLt_tuple, ← PySem.W.firstLt_toks ks ls hal, ← lu, ← lv] at want
      rw [oneLt'_eq]
      simp only [if_true]
      refine wpAny_bind (wpAny_cRoomFor (room_here hroom) ?_)
      obtain ⟨cu, du, tu, su⟩ := ou
      obtain ⟨cv, dv, tv, sv⟩ := ov
      simp only at g2 g3 f2 f3
      subst g2 g3 f2 f3
      have eqs : ∀ j (h1 : j < ius.size) (h2 : j < ivs.size), EqAt A.in1 s ius[j] ivs[j] (pairEq ks ls j) := fun j j1 j2 => by
        have := PySem.W.eqAt_alikeAll ks ls A.in1 s ius.toList ivs.toList _ _ g4 f4 hal (room_in hroom) j (by simpa using j1) (by simpa using j2)
        simpa using this
      have lts : ∀ j (h1 : j < ius.size) (h2 : j < ivs.size), pairEq ks ls j = false → RcLt A.in1 s ius[j] ivs[j] (dataLt (ks.getD j .none) (ls.getD j .none)) := fun j j1 j2 hj => by
        have := PySem.W.rcLt_alikeAll ks ls A.in1 s ius.toList ivs.toList _ _ g4 f4 hal (room_in hroom) j (by simpa using j1) (by simpa using j2) hj
        simpa using this
      exact wpAny_bind (wpAny_callSpecialIfBound?_slot (T := "tuple") ⟨_, g1, rfl⟩ F.slot_tuple_lt (call_meets F.slot_tuple_lt ⟨_, g1, rfl⟩ F.entry_tuple_lt (F.args_tuple_lt_2 _ _) (tuple_ltAt pu pv ius ivs nu nv du dv su sv _ _) ⟨g1, f1, eqs, lts, wpAny_truthy_bool want⟩))
open PySem.SeqAt PyProof.Rows in
theorem first_looks {prog : Program} {w : World} {A : Around} {E : Value → Shared → Prop} {s : Shared} {v : Value} {ks : List PyData} {au : List Addr} (r : Reads s.heap v (.tuple ks) au) : ∃ o : Option Value, (ks = [] → o = none) ∧ ∀ Q' : Option Value → Shared → Prop, Q' o s → wpAny (model prog w) A (firstOfTuple' v) Q' E s := by
  have lk := PySem.W.looks_reads (M := model prog w) r
  cases r with
  | @tuple p o its n _ _ g1 g2 g3 g4 =>
    have hn : its.size = ks.length := by simpa using ReadsAll.length _ _ _ g4
    refine ⟨its[0]?, fun e => ?_, fun Q' q => ?_⟩
    · subst e
      exact Array.getElem?_eq_none (by rw [hn]; exact Nat.le_refl _)
    · rw [PySem.W.kas_first_eq]
      refine wpAny_bind (lk.here ?_)
      have ht : (PySem.W.dataType (PyData.tuple ks) != Value.type "tuple") = false := by simp [PySem.W.dataType]
      rw [ht, if_neg (by simp)]
      exact wpAny_bind (wpAny_listItems g1 g3 (wpAny_pure q))
open PySem.SeqAt PyProof.Rows in
theorem firsts_go {prog : Program} {w : World} {A : Around} {E : Value → Shared → Prop} {s : Shared} : ∀ {vs : List Value} {ds : List PyData}, EachIs (fun v d => ∃ as, Reads s.heap v d as) vs ds → (∀ d ∈ ds, ∃ ks, d = .tuple ks) →
    ∃ os : List (Option Value), os.length = vs.length ∧ (ds.head? = some (.tuple []) → os.head? = some none) ∧ ∀ Q' : List (Option Value) → Shared → Prop, Q' os s → wpAny (model prog w) A (vs.mapM firstOfTuple') Q' E s
  | _, _, .nil, _ => ⟨[], rfl, fun h => by simp at h, fun Q' q => by rw [List.mapM_nil]; exact wpAny_pure q⟩
  | _, _, .cons (b := d) ⟨as, r⟩ t, h => by
    obtain ⟨ks, e⟩ := h d (by simp)
    subst e
    obtain ⟨os, h1, _, h3⟩ := firsts_go (prog := prog) (w := w) (A := A) (E := E) t fun d' hd => h d' (by simp [hd])
    obtain ⟨o, q1, q2⟩ := first_looks (prog := prog) (w := w) (A := A) (E := E) r
    refine ⟨o :: os, by simp [h1], fun z => ?_, fun Q' q => ?_⟩
    · simp at z
      simp [q1 z]
    · rw [List.mapM_cons]
      exact wpAny_bind (q2 _ (wpAny_bind (h3 _ (wpAny_pure q))))
open PySem.SeqAt PyProof.Rows in
theorem sorts0 {prog : Program} {w : World} {A : Around} {s : Shared} {vs : List Value} {ds : List PyData} (e : EachIs (fun v d => ∃ as, Reads s.heap v d as) vs ds) (hal : AllAlike ds) (ht : ∀ d ∈ ds, ∃ ks, d = .tuple ks) (h0 : ds.head? = some (.tuple []))
    (hu : ∀ d, d ∈ ds → A.units + d.depth < cLine) : PySem.W.SortsAt prog w A s (PySem.W.dataKind s.heap ds) vs := by
  refine ⟨fun v hv => ?_, oneType', fun E x y a b Q ha hb hq => ?_, fun h2 E Q hq => ?_⟩
  · obtain ⟨d, hd, as, r⟩ := e.left v hv
    exact ⟨_, PySem.W.dataKind_some hal hd r⟩
  · obtain ⟨d, as, hd, ra, rfl⟩ := PySem.W.dataKind_inv ha
    obtain ⟨d', as', hd', rb, rfl⟩ := PySem.W.dataKind_inv hb
    have al := hal d hd d' hd'
    have hr := hu d hd
    obtain ⟨ks, rfl⟩ := ht d hd
    obtain ⟨ls, rfl⟩ := ht d' hd'
    rw [keyLt'_oneType]
    exact lt_tups ra rb (by simpa [alike] using al) (by omega) hq
  · obtain ⟨os, n1, n2, n3⟩ := firsts_go (prog := prog) (w := w) (A := A) (E := E) e ht
    rw [keyKind'_eq, List.mapM_toArray, map_eq_pure_bind]
    refine wpAny_bind (wpAny_bind (n3 _ (wpAny_pure ?_)))
    have hh := n2 h0
    have e0 : os.toArray[0]? = some none := by
      cases os with
      | nil => simp at hh
      | cons o r => simp at hh; simp [hh]
    rw [if_neg (by
      cases os with
      | nil => simp at hh
      | cons o r => simp at hh; simp [hh]), e0]
    rw [if_neg (by simp)]
    rw [oneTypeOnly'_eq, List.mapM_toArray, map_eq_pure_bind]
    refine wpAny_bind (wpAny_bind (wpAny_bind (PySem.W.kas_mapM (r := Value.type "tuple") _ (fun v hv Q' q => ?_) (wpAny_pure ?_))))
    · obtain ⟨d, hd, as, r⟩ := e.left v hv
      obtain ⟨ks, rfl⟩ := ht d hd
      exact (PySem.W.looks_reads r).here q
    · obtain ⟨v1, rest, rfl⟩ : ∃ v1 rest, vs = v1 :: rest := by
        cases vs with
        | nil => simp at h2
        | cons a b => exact ⟨a, b, rfl⟩
      have z0 : (List.map (fun _ => Value.type "tuple") (v1 :: rest)).toArray[0]? = some (Value.type "tuple") := by simp
      rw [z0]
      have za : ((List.map (fun _ => Value.type "tuple") (v1 :: rest)).toArray.all fun x => x == Value.type "tuple") = true := by
        simp only [List.all_toArray, List.all_map, List.all_eq_true]
        exact fun _ _ => beq_self_eq_true _
      simp only [za, if_true]
      exact wpAny_pure (wpAny_pure hq)
def rSort0 (K : PySem.W.Frag) : List V → Hp → VK → Prop := fun vs H Q => ∃ (a : Addr) (ps : List (V × PyData)), vs = [.ref a] ∧ SqL K H a (ps.map (·.1)) ∧ (∀ p ∈ ps, Dp K H p.1 p.2 ∧ p.2.depth ≤ 60) ∧ AllAlike (ps.map (·.2)) ∧ (∀ d ∈ ps.map (·.2), ∃ ks, d = .tuple ks) ∧ (ps.map (·.2)).head? = some (.tuple []) ∧ ps.length ≤ LL ∧
  ∀ p, H p = none → Q (.ref p) (upd H p (.lst ((sortV ps).map (·.1))))
theorem cr_sort0 {X : Cx} (hu : X.A.units + 64 < cLine) : CallR X (.builtin "sorted") (rSort0 X.K) := by
  intro pins s σ H vs us Q I r h
  obtain ⟨a, ps, rfl, hs, hd, ha, ht, h0, hl, q⟩ := h
  obtain ⟨its, rv, pl, _⟩ := I.list hs
  rw [Vals.ref1 r]
  have e1 : EachIs (fun u (b : V × PyData) => RelV b.1 u) its ps := each_of_vals (f := fun p : V × PyData => p.1) rv fun b _ u h => h
  have e2 : EachIs (fun u (b : V × PyData) => ∃ as, Reads (PySem.W.sortingHeap (PySem.W.copyHeap s.heap its) (s.heap.objs.size + 1) its) u b.2 as) its ps := each_of_vals (f := fun p : V × PyData => p.1) rv fun b hb u h => by
    obtain ⟨as, ra⟩ := Dp.reads I b.2 b.1 u (hd b hb).1 h
    exact ⟨as, PyProof.Rows.Reads.keeps (fun _ _ => PySem.W.sorting_copy_old) ra⟩
  have S : PySem.W.SortsAt X.prog X.w X.A.in1.in1 { s with heap := PySem.W.sortingHeap (PySem.W.copyHeap s.heap its) (s.heap.objs.size + 1) its } _ its :=
    sorts0 (s := { s with heap := PySem.W.sortingHeap (PySem.W.copyHeap s.heap its) (s.heap.objs.size + 1) its }) (PySem.W.each_map (R := fun v d => ∃ as, Reads (PySem.W.sortingHeap (PySem.W.copyHeap s.heap its) (s.heap.objs.size + 1) its) v d as) (fun p : V × PyData => p.2) e2) ha ht h0 (fun d hd' => by
      obtain ⟨b, hb, rfl⟩ := List.mem_map.mp hd'
      have z := (hd b hb).2
      have y : X.A.in1.in1.units ≤ X.A.units + 2 := by first | exact Nat.le_refl _ | simp [Around.in1]
      omega)
  have hlen : its.length = ps.length := e1.length
  refine PySem.W.sorted_vals pl.isList S (by rw [hlen]; exact ll hl) ?_
  have eo := PySem.W.sortVals_data (enc := fun p : V × PyData => p.2) false e1 e2 ha
  generalize hout : PySem.W.sortVals _ false its its = out at eo
  obtain ⟨ep, he'⟩ := PyProof.Rows.sortedAll_at s.heap its out.toArray
  have hn := I.hok.fresh (Nat.le_succ s.heap.objs.size)
  have hL : ((sortV ps).map (·.1)).length ≤ sizeLine := by
    unfold sortV
    rw [List.length_map, List.length_mergeSort]
    exact ll hl
  exact ⟨.ref _, upd H (s.heap.objs.size + 1) (.lst ((sortV ps).map (·.1))), I.laid (t' := s.toks) (fun _ _ => PyProof.Rows.sortedAll_old) (Nat.le_succ _) ⟨hL, out, ep, vals_of_each (f := fun p : V × PyData => p.1) eo, he'⟩, rfl, q _ hn⟩
def D.isT : D → Bool | .tup _ => true | _ => false
def sortOk0 (ds : List D) : Bool := alikeL ds && ds.all D.isT && (match ds with | .tup [] :: _ => true | _ => false) && ds.all (·.okd 60) && decide (ds.length ≤ LL)
def sorted0D : List D → Option (List D)
  | [.lst ds] => if sortOk0 ds then some (sortL ds) else none
  | _ => none
theorem zip_dp {K : PySem.W.Frag} {g : Gp} {F H : Hp} (e : Ex F H) : ∀ {es : List D} {ys : List V}, RepL K g F es ys → es.all (·.okd 60) = true → ∀ q ∈ ys.zip (es.map D.py), Dp K H q.1 q.2 ∧ q.2.depth ≤ 60
  | _, _, .nil, _, q, hq => by simp at hq
  | d :: r, _, .cons h1 t1, o, q, hq => by
    simp only [List.all_cons, Bool.and_eq_true] at o
    simp only [List.map_cons, List.zip_cons_cons, List.mem_cons] at hq
    rcases hq with rfl | hq
    · exact ⟨rep_dp e d 60 _ o.1 h1, (okd_lay d 60 o.1).2⟩
    · exact zip_dp e t1 o.2 q hq
theorem cn_sorted0 {K : PySem.W.Frag} {g : Gp} : CallN K g (rSort0 K) sorted0D := fun c F H xs ds vs Q' e nc rp hz k => by
  unfold sorted0D at hz
  split at hz
  · rename_i es
    split at hz
    · rename_i ok
      cases hz
      unfold sortOk0 at ok
      simp only [Bool.and_eq_true, decide_eq_true_eq] at ok
      obtain ⟨⟨⟨⟨o1, o2⟩, o5⟩, o3⟩, o4⟩ := ok
      cases rp with
      | cons h t =>
        cases t
        obtain ⟨p, ys, rfl, g1, g2, _⟩ := h
        have hl := g2.length
        have z1 : (ys.zip (es.map D.py)).map (·.1) = ys := List.map_fst_zip (by rw [List.length_map]; omega)
        have z2 : (ys.zip (es.map D.py)).map (·.2) = es.map D.py := List.map_snd_zip (by rw [List.length_map]; omega)
        refine ⟨p, ys.zip (es.map D.py), rfl, by rw [z1]; exact SqL.of g1, zip_dp e g2 o3, ?_, ?_, ?_, ?_, fun l hl' => ?_⟩
        · rw [z2]
          intro d hd d' hd'
          obtain ⟨a, ha, rfl⟩ := List.mem_map.mp hd
          obtain ⟨b, hb, rfl⟩ := List.mem_map.mp hd'
          unfold alikeL at o1
          exact List.all_eq_true.mp (List.all_eq_true.mp o1 a ha) b hb
        · rw [z2]
          intro d hd
          obtain ⟨a, ha, rfl⟩ := List.mem_map.mp hd
          have := List.all_eq_true.mp o2 a ha
          cases a with
          | tup l => exact ⟨pyL l, by simp only [D.py]⟩
          | _ => cases this
        · rw [z2]
          split at o5
          · simp [D.py, pyL]
          · cases o5
        · rw [List.length_zip, List.length_map]; omega
        · exact k l _ F _ (new_lay e hl').1 hl' (new_lay e hl' (ys := (sortV (ys.zip (es.map D.py))).map (·.1))).2.1 upd_same (sort_rep g2)
    · cases hz
  · cases hz
end G
namespace G
open PySem L2
def tNw (K : PySem.W.Frag) (g : Gp) (d : DE) : TE := fun σ H Q' => ∃ c F env m Q, Rel K g c F env m σ H ∧ d env m Q ∧
  ∀ p H' F' m' x u, Rel K g c F' env m' σ H' → Fresh c F H F' H' → H p = none → F' p = none → c ≠ some p → H' p = some u → ObR K g F' p x u → Q x m' → Q' (.ref p) H'
def GNw (g : Gp) (X : Cx) (e : Expr) (d : DE) : Prop := PE X e (tNw X.K g d)
section
variable {g : Gp} {X : Cx} {a b e : Expr} {es : List Expr} {d : DE} {dl : DL} {dr : DA} {pos : Pos}
theorem gnw_n (h : GN g X e dl) : GNw g X e (dNew dl) := PE.weak h fun σ H Q ⟨c, F, env, m, Q1, r, hd, k⟩ => ⟨c, F, env, m, _, r, hd, fun p H' F' m' ds xs r' f h0 hp hc h1 h2 q => k p H' F' m' (.lst ds) _ r' f h0 hp hc h1 (show ObR X.K g F' p (.lst ds) (.lst xs) from ⟨xs, rfl, h2⟩) q⟩
theorem fix_fresh' {K : PySem.W.Frag} {c : Option Addr} {F H F' H' : Hp} {p : Addr} {u : HO} (f : Fresh c F H F' H') (h0 : H p = none) (hp : F' p = none) (hc : c ≠ some p) (h1 : H' p = some u) : Fresh c F H (upd F' p u) H' where
  ff := f.ff.trans (Evl.Ex.new hp)
  fh := fun a o z => by
    by_cases y : a = p
    · subst y; rw [upd_same] at z; rw [← z]; exact h1
    · rw [upd_ne y] at z; exact f.fh a o z
  hk := f.hk
  new := fun a o z => by
    by_cases y : a = p
    · subst y; exact .inr h0
    · rw [upd_ne y] at z; exact f.new a o z
  nc := fun a z => by
    have y : a ≠ p := fun e => hc (by rw [← e]; exact z)
    rw [upd_ne y]; exact f.nc a z
theorem ge_nw (h : GNw g X e d) : GE g X e d := PE.weak h fun σ H Q ⟨c, F, env, m, Q1, r, hd, k⟩ => ⟨c, F, env, m, _, r, hd, fun p H' F' m' x u r' f h0 hp hc h1 h2 q => by
  have f2 := fix_fresh' (K := X.K) f h0 hp hc h1
  refine k (.ref p) H' _ m' x (r.fresh f2 ⟨fun a z => ?_, r'.ck.tb.fix h1 hp h2.nt⟩) f2 (h2.fix upd_same (Evl.Ex.new hp)) q
  obtain ⟨b1, ys, b2, b3⟩ := r'.ck a z
  exact ⟨f2.nc a z, ys, b2, b3⟩⟩
def dAsgW (i : Nat) (d : DE) : DS := fun env m E => d env m fun x m1 => E.nx (env.set i (.ow x)) m1
theorem gs_setW {i : Nat} {x : Str} {pos' : Pos} (hN : X.N.Nodup) (hi : X.N[i]? = some x) (hx : Loc X.env.scope x) (he : GNw g X e d) (hs : swapsWith e (some (.Name x pos')) pos.line X.env = pure false := by rfl)
    (hf : X.fn x = true ∨ X.env.scope.names.lookup x = some .local := by first | exact .inl rfl | exact .inr rfl | assumption) : GS g X (.Assign [.Name x pos'] e pos) (dAsgW i d) :=
  PS.weak (ps_set hN hi hx he hs hf) fun D σ H ⟨c, F, env, m, E, r, h, o⟩ => ⟨c, F, env, m, _, r, h, fun p H' F' m' y u r' f h0 hp hc h1 h2 q => by
    refine o.nx _ H' F' _ m' (r'.setOw hp h1 h2 hc (not_own r h0)) ?_ q
    have v := r.evo f
    refine ⟨v.ff, v.fh, v.hk, v.new, v.nc, fun a z => ?_⟩
    rcases own_setO r.len z with rfl | y
    · exact ⟨hc, .inr h0⟩
    · exact v.own a y⟩
def ownA : List Sl → List V → List Addr
  | s :: ss, v :: vs => s.adr (some (some v)) ++ ownA ss vs
  | _, _ => []
inductive ItR (K : PySem.W.Frag) (g : Gp) (c : Option Addr) (H0 F H : Hp) : List Sl → List V → Prop
  | nil : ItR K g c H0 F H [] []
  | cons {s : Sl} {v : V} {ss : List Sl} {vs : List V} : SlR K g c F H s (some (some v)) → (∀ a ∈ s.adr (some (some v)), H0 a = none ∧ a ∉ ownA ss vs) → ItR K g c H0 F H ss vs → ItR K g c H0 F H (s :: ss) (v :: vs)
theorem ItR.own {K : PySem.W.Frag} {c : Option Addr} {H0 F H : Hp} : ∀ {ss : List Sl} {vs : List V}, ItR K g c H0 F H ss vs → ∀ p ∈ ownA ss vs, H0 p = none ∧ c ≠ some p
  | _, _, .nil, p, h => by simp [ownA] at h
  | _, _, .cons h1 h2 t, p, h => by
    simp only [ownA, List.mem_append] at h
    rcases h with h | h
    · exact ⟨(h2 p h).1, (h1.at h).2.1⟩
    · exact t.own p h
theorem ItR.length {K : PySem.W.Frag} {c : Option Addr} {H0 F H : Hp} : ∀ {ss : List Sl} {vs : List V}, ItR K g c H0 F H ss vs → vs.length = ss.length
  | _, _, .nil => rfl
  | _, _, .cons _ _ t => by rw [List.length_cons, List.length_cons, t.length]
theorem len2 {α : Type} {l : List α} (h : l.length = 2) : ∃ a b, l = [a, b] := by
  match l, h with
  | [a, b], _ => exact ⟨a, b, rfl⟩
theorem ItR.lower {K : PySem.W.Frag} {c : Option Addr} {H0 H1 F H : Hp} (k : ∀ p, H1 p = none → c ≠ some p → H0 p = none) : ∀ {ss : List Sl} {vs : List V}, ItR K g c H1 F H ss vs → ItR K g c H0 F H ss vs
  | _, _, .nil => .nil
  | _, _, .cons h1 h2 t => .cons h1 (fun a ha => ⟨k a (h2 a ha).1 (h1.at ha).2.1, (h2 a ha).2⟩) (t.lower k)
theorem ItR.up {K : PySem.W.Frag} {c : Option Addr} {H0 F H H' : Hp} (e : Ex H H') : ∀ {ss : List Sl} {vs : List V}, ItR K g c H0 F H ss vs → ItR K g c H0 F H' ss vs
  | _, _, .nil => .nil
  | _, _, .cons h1 h2 t => .cons (h1.keep (fun _ _ z => z) fun a ha => by
      obtain ⟨q1, _, u, q2⟩ := h1.at ha
      exact ⟨q1, by rw [q2, e a u q2]⟩) h2 (t.up e)
def tMx (K : PySem.W.Frag) (g : Gp) (d : DA) : TA := fun σ H Q' => ∃ c F env m Q, Rel K g c F env m σ H ∧ d env m Q ∧
  ∀ vs H' F' m' ss, Rel K g c F' env m' σ H' → Fresh c F H F' H' → ItR K g c H F' H' ss vs → Q ss m' → Q' vs H'
def GMx (g : Gp) (X : Cx) (es : List Expr) (d : DA) : Prop := PA X es (tMx X.K g d)
def dConsW (d : DE) (r : DA) : DA := fun env m Q => d env m fun x m1 => r env m1 fun as m2 => Q (.ow x :: as) m2
theorem fresh_back {c : Option Addr} {F H F' H' : Hp} (f : Fresh c F H F' H') : ∀ p, H' p = none → c ≠ some p → H p = none := fun p h hc => by
  cases y : H p with
  | none => rfl
  | some u => exact (f.sm y hc h).elim
theorem gmx_nil : GMx g X [] dNilA := PA.weak pa_nil fun σ H Q ⟨c, F, env, m, Q1, rl, hd, k⟩ => k [] H F m [] rl (Fresh.refl rl.sub rl.ck) .nil hd
theorem gmx_val (ha : GE g X e d) (hr : GMx g X es dr) (hs : starEach (e :: es) X.env = (false, eval e X.env) :: starEach es X.env := by rfl) : GMx g X (e :: es) (dConsA d dr) := PA.weak (pa_cons ha hr hs) fun σ H Q ⟨c, F, env, m, Q1, rl, hd, k⟩ =>
  ⟨c, F, env, m, _, rl, hd, fun v H1 F1 m1 x r1 f1 rp q1 => ⟨c, F1, env, m1, _, r1, q1, fun vs H2 F2 m2 as r2 f2 it q2 => k _ H2 F2 m2 _ r2 (f1.trans f2) (.cons (s := .val x) ⟨v, rfl, rp.mono f2.ff⟩ (fun a ha => by simp [Sl.adr] at ha) (it.lower (fresh_back f1))) q2⟩⟩
theorem gmx_new (ha : GNw g X e d) (hr : GMx g X es dr) (hs : starEach (e :: es) X.env = (false, eval e X.env) :: starEach es X.env := by rfl) : GMx g X (e :: es) (dConsW d dr) := PA.weak (pa_cons ha hr hs) fun σ H Q ⟨c, F, env, m, Q1, rl, hd, k⟩ =>
  ⟨c, F, env, m, _, rl, hd, fun p H1 F1 m1 x u r1 f1 h0 hp hc hu ob q1 => ⟨c, F1, env, m1, _, r1, q1, fun vs H2 F2 m2 as r2 f2 it q2 => by
    have nF : F2 p = none := by
      cases z : F2 p with
      | none => rfl
      | some o =>
        rcases f2.new p o z with y | y
        · rw [hp] at y; cases y
        · rw [hu] at y; cases y
    exact k _ H2 F2 m2 _ r2 (f1.trans f2) (.cons (s := .ow x) ⟨p, u, rfl, nF, f2.hh _ _ hu hc ob.nt, ob.mono f2.ff, hc⟩ (fun a ha => by
      rw [show (Sl.ow x).adr (some (some (.ref p))) = [p] from rfl, List.mem_singleton] at ha
      subst ha
      exact ⟨h0, fun z => by rw [(it.own a z).1] at hu; cases hu⟩) (it.lower (fresh_back f1))) q2⟩⟩
def setE : Env' → List Nat → List Sl → Env'
  | env, i :: is, s :: ss => setE (env.set i s) is ss
  | env, _, _ => env
def setS : St → List Nat → List V → St
  | σ, i :: is, v :: vs => setS (σ.set i (some v)) is vs
  | σ, _, _ => σ
theorem items_set {K : PySem.W.Frag} {c : Option Addr} {H0 F H : Hp} {m : Nat} : ∀ {ss : List Sl} {vs : List V} (is : List Nat) {env : Env'} {σ : St}, ItR K g c H0 F H ss vs → Rel K g c F env m σ H → (∀ p ∈ ownA ss vs, ¬ Own env σ p) →
    Rel K g c F (setE env is ss) m (setS σ is vs) H ∧ ∀ a, Own (setE env is ss) (setS σ is vs) a → Own env σ a ∨ a ∈ ownA ss vs
  | _, _, [], env, σ, it, r, _ => by
    cases it <;> exact ⟨by simpa [setE, setS] using r, fun a h => .inl (by simpa [setE, setS] using h)⟩
  | _, _, i :: is, env, σ, .nil, r, _ => ⟨r, fun a h => .inl h⟩
  | _, _, i :: is, env, σ, .cons hs h2 t, r, no => by
    have r1 := r.setS (i := i) (fun a ha => no a (by simp [ownA, ha])) hs
    obtain ⟨h1, h3⟩ := items_set is t r1 fun q hq z => by
      rcases own_set1 r.len z with z | z
      · exact (h2 q z).2 hq
      · exact no q (by simp [ownA, hq]) z
    refine ⟨h1, fun a h => ?_⟩
    rcases h3 a h with z | z
    · rcases own_set1 r.len z with z | z
      · exact .inr (by simp [ownA, z])
      · exact .inl z
    · exact .inr (by simp [ownA, z])
theorem items_end {K : PySem.W.Frag} {c : Option Addr} {F H F1 H1 : Hp} {m m1 : Nat} {env : Env'} {σ : St} {ss : List Sl} {vs : List V} (is : List Nat) (r : Rel K g c F env m σ H) (r1 : Rel K g c F1 env m1 σ H1) (f1 : Fresh c F H F1 H1) (it : ItR K g c H F1 H1 ss vs) :
    Rel K g c F1 (setE env is ss) m1 (setS σ is vs) H1 ∧ Evo c (Own env σ) F H (Own (setE env is ss) (setS σ is vs)) F1 H1 := by
  obtain ⟨h1, h2⟩ := items_set is it r1 fun p hp => not_own r (it.own p hp).1
  have v := r.evo f1
  refine ⟨h1, v.ff, v.fh, v.hk, v.new, v.nc, fun a z => ?_⟩
  rcases h2 a z with y | y
  · exact v.own a y
  · exact ⟨(it.own a y).2, .inr (it.own a y).1⟩
def dMix (is : List Nat) (d : DA) : DS := fun env m E => d env m fun ss m1 => ss.length = is.length ∧ E.nx (setE env is ss) m1
theorem gs_mix2 {i j : Nat} {x y : Str} {px py pt : Pos} {kt k2 pt2} (hc : X.calm = true) (hN : X.N.Nodup) (hi : X.N[i]? = some x) (hj : X.N[j]? = some y) (hij : i ≠ j)
    (hx : X.env.scope.names.lookup x = some .local) (hy : X.env.scope.names.lookup y = some .local) (ha : GMx g X [a, b] dr)
    (hw : swappedStores [.Tuple [.Name x px, .Name y py] kt pt] (.Tuple [a, b] k2 pt2) X.env = pure (some [x, y]))
    (hs : swapsWithSole [.Tuple [.Name x px, .Name y py] kt pt] (.Tuple [a, b] k2 pt2) pos.line X.env = pure false := by rfl) :
    GS g X (.Assign [.Tuple [.Name x px, .Name y py] kt pt] (.Tuple [a, b] k2 pt2) pos) (dMix [i, j] dr) := PS.weak (ps_par hc hN hi hj hij hx hy ha hw hs) fun D σ H ⟨c, F, env, m, E, r, h, o⟩ =>
  ⟨c, F, env, m, _, r, h, fun vs H1 F1 m1 ss r1 f1 it ⟨hl, q⟩ => by
    obtain ⟨ra, ev⟩ := items_end [i, j] r r1 f1 it
    obtain ⟨v1, v2, rfl⟩ := len2 (it.length.trans hl)
    obtain ⟨s1, s2, rfl⟩ := len2 hl
    exact ⟨v1, v2, rfl, o.nx _ H1 F1 _ m1 ra ev q⟩⟩
theorem gs_mixT2 {i j : Nat} {x y : Str} {px py pt : Pos} {kt k2 pt2} (hc : X.calm = true) (hN : X.N.Nodup) (hi : X.N[i]? = some x) (hj : X.N[j]? = some y)
    (hx : Loc X.env.scope x) (hy : Loc X.env.scope y) (ha : GMx g X [a, b] dr)
    (hs : swapsWithSole [.Tuple [.Name x px, .Name y py] kt pt] (.Tuple [a, b] k2 pt2) pos.line X.env = pure false := by rfl) (hw : swappedStores [.Tuple [.Name x px, .Name y py] kt pt] (.Tuple [a, b] k2 pt2) X.env = pure none := by rfl)
    (hh : (assignEach [.Tuple [.Name x px, .Name y py] kt pt] X.env).map (·.2) = [assign (.Tuple [.Name x px, .Name y py] kt pt) X.env] := by rfl)
    (hf : X.fn x = true ∨ X.env.scope.names.lookup x = some .local := by first | exact .inl rfl | exact .inr rfl | assumption) (hf2 : X.fn y = true ∨ X.env.scope.names.lookup y = some .local := by first | exact .inl rfl | exact .inr rfl | assumption)
    (hn : (assignEach [.Name x px, .Name y py] X.env).length = 2 := by rfl) (hst : (assignEach [.Name x px, .Name y py] X.env).findIdx? (·.1) = none := by rfl)
    (he1 : (assignEach [.Name x px, .Name y py] X.env).map (·.2) = assign (.Name x px) X.env :: (assignEach [.Name y py] X.env).map (·.2) := by rfl) (he2 : (assignEach [.Name y py] X.env).map (·.2) = assign (.Name y py) X.env :: (assignEach [] X.env).map (·.2) := by rfl) :
    GS g X (.Assign [.Tuple [.Name x px, .Name y py] kt pt] (.Tuple [a, b] k2 pt2) pos) (dMix [i, j] dr) :=
  PS.weak (ps_asg (pe_tup ha) (pg_tup hc (pgs_cons (pg_name hN hi hx hf) (pgs_cons (pg_name hN hj hy hf2) pgs_nil he2) he1) hn hst) hs hw hh) fun D σ H ⟨c, F, env, m, E, r, h, o⟩ =>
  ⟨c, F, env, m, _, r, h, fun vs H1 F1 m1 ss r1 f1 it ⟨hl, q⟩ => by
    obtain ⟨v1, v2, rfl⟩ := len2 (it.length.trans hl)
    refine ⟨ll (show 2 ≤ LL by decide), fun t ht => ⟨t, _, rfl, SqT.of upd_same, rfl, v1, _, rfl, v2, _, rfl, rfl, ?_⟩⟩
    have n := New.lay (F := F1) (o := .tup [v1, v2]) r1.sub ht
    have it2 : ItR X.K g c H F1 (upd H1 t (.tup [v1, v2])) ss [v1, v2] := it.up n.hh
    obtain ⟨ra, ev⟩ := items_end [i, j] r (r1.new n) (f1.trans (n.fresh r1.ck)) it2
    obtain ⟨s1, s2, rfl⟩ := len2 hl
    exact o.nx _ _ F1 _ m1 ra ev q⟩
end
end G
namespace G
open PySem L2
def kvGet (kds : List (Key × D)) (k : Key) : Option D := (kds.find? fun kv => decide (kv.1 = k)).map (·.2)
def kvPut (kds : List (Key × D)) (k : Key) (d : D) : List (Key × D) := if (kds.any fun kv => decide (kv.1 = k)) = true then kds.map (fun kv => if kv.1 = k then (kv.1, d) else kv) else kds ++ [(k, d)]
inductive KvR (K : PySem.W.Frag) (g : Gp) (F : Hp) : List (Key × D) → List (Key × V) → Prop
  | nil : KvR K g F [] []
  | cons {k : Key} {d : D} {v : V} {kds : List (Key × D)} {kvs : List (Key × V)} : Rep K g F d v → KvR K g F kds kvs → KvR K g F ((k, d) :: kds) ((k, v) :: kvs)
section
variable {K : PySem.W.Frag} {g : Gp} {F F' H : Hp}
theorem KvR.of : ∀ {kds : List (Key × D)} {kvs : List (Key × V)}, kvs.map (·.1) = kds.map (·.1) → RepL K g F (kds.map (·.2)) (kvs.map (·.2)) → KvR K g F kds kvs
  | [], [], _, _ => .nil
  | [], _ :: _, h, _ => by simp at h
  | _ :: _, [], h, _ => by simp at h
  | (k, d) :: kds, (k', v) :: kvs, h, r => by
    simp only [List.map_cons, List.cons.injEq] at h
    obtain ⟨rfl, h⟩ := h
    cases r with
    | cons r t => exact .cons r (KvR.of h t)
theorem KvR.to : ∀ {kds : List (Key × D)} {kvs : List (Key × V)}, KvR K g F kds kvs → kvs.map (·.1) = kds.map (·.1) ∧ RepL K g F (kds.map (·.2)) (kvs.map (·.2))
  | _, _, .nil => ⟨rfl, .nil⟩
  | _, _, .cons r t => ⟨by simp [t.to.1], .cons r t.to.2⟩
theorem KvR.length {kds : List (Key × D)} {kvs : List (Key × V)} (h : KvR K g F kds kvs) : kvs.length = kds.length := by
  have := congrArg List.length h.to.1
  simpa using this
theorem KvR.mono (e : Ex F F') : ∀ {kds : List (Key × D)} {kvs : List (Key × V)}, KvR K g F kds kvs → KvR K g F' kds kvs
  | _, _, .nil => .nil
  | _, _, .cons r t => .cons (r.mono e) (t.mono e)
theorem KvR.get {k : Key} {d : D} : ∀ {kds : List (Key × D)} {kvs : List (Key × V)}, KvR K g F kds kvs → kvGet kds k = some d → ∃ v, valV kvs k = some v ∧ Rep K g F d v
  | _, _, .nil, h => by simp [kvGet] at h
  | (k', d') :: kds, (_, v') :: kvs, .cons r t, h => by
    by_cases e : k' = k
    · subst e
      simp [kvGet, List.find?_cons] at h
      subst h
      exact ⟨v', valV_pos rfl, r⟩
    · have h' : kvGet kds k = some d := by simpa [kvGet, List.find?_cons, e] using h
      obtain ⟨v, h1, h2⟩ := t.get h'
      exact ⟨v, by rw [valV_neg e]; exact h1, h2⟩
theorem KvR.any (k : Key) : ∀ {kds : List (Key × D)} {kvs : List (Key × V)}, KvR K g F kds kvs → (kvs.any fun kv => decide (kv.1 = k)) = kds.any fun kv => decide (kv.1 = k)
  | _, _, .nil => rfl
  | _, _, .cons _ t => by simp only [List.any_cons, t.any k]
theorem KvR.snoc {k : Key} {d : D} {v : V} (r : Rep K g F d v) : ∀ {kds : List (Key × D)} {kvs : List (Key × V)}, KvR K g F kds kvs → KvR K g F (kds ++ [(k, d)]) (kvs ++ [(k, v)])
  | _, _, .nil => .cons r .nil
  | _, _, .cons r' t => .cons r' (t.snoc r)
theorem KvR.repl {k : Key} {d : D} {v : V} (r : Rep K g F d v) : ∀ {kds : List (Key × D)} {kvs : List (Key × V)}, KvR K g F kds kvs → KvR K g F (kds.map fun kv => if kv.1 = k then (kv.1, d) else kv) (kvs.map fun kv => if kv.1 = k then (kv.1, v) else kv)
  | _, _, .nil => .nil
  | (k', d') :: _, _, .cons r' t => by
    simp only [List.map_cons]
    by_cases e : k' = k
    · rw [if_pos e, if_pos e]; exact .cons r (t.repl r)
    · rw [if_neg e, if_neg e]; exact .cons r' (t.repl r)
theorem KvR.put {k : Key} {d : D} {v : V} (r : Rep K g F d v) {kds : List (Key × D)} {kvs : List (Key × V)} (h : KvR K g F kds kvs) : KvR K g F (kvPut kds k d) (putK kvs k v) := by
  unfold kvPut putK
  rw [h.any k]
  split
  · exact h.repl r
  · exact h.snoc r
def kvMerge (kds more : List (Key × D)) : List (Key × D) := more.foldl (fun acc kv => kvPut acc kv.1 kv.2) kds
theorem KvR.merge : ∀ {more : List (Key × D)} {moreV : List (Key × V)} {kds : List (Key × D)} {kvs : List (Key × V)}, KvR K g F more moreV → KvR K g F kds kvs → KvR K g F (kvMerge kds more) (mergeK kvs moreV)
  | _, _, _, _, .nil, h => h
  | _, _, _, _, .cons r t, h => by
    unfold kvMerge mergeK
    simp only [List.foldl_cons]
    exact KvR.merge t (h.put r)
end
section
variable {g : Gp} {X : Cx} {a b e : Expr} {es : List Expr} {d da db dv dk : DE} {dl : DL} {dr : DA} {pos : Pos}
def dixD : D → D → Option D
  | .dic kds, k => k.key.bind (kvGet kds)
  | _, _ => none
theorem ge_dix (hu : X.A.units + 64 < cLine) (ha : GB g X a da) (hb : GE g X b db) (hs : NoSl b := by exact fun _ _ => rfl) : GE g X (.Subscript a b pos) (dOp dixD da db) := PE.weak (pe_dget (by omega) ha hb hs) fun σ H Q ⟨c, F, env, m, Q1, rl, hd, k⟩ =>
  ⟨c, F, env, m, _, rl, hd, fun v H1 F1 m1 x r1 f1 rp1 q1 => ⟨c, F1, env, m1, _, r1, q1, fun w H2 F2 m2 y r2 f2 rp2 ⟨z, hz, q2⟩ => by
    cases x with
    | dic kds =>
      obtain ⟨key, hk, hg⟩ := Option.bind_eq_some_iff.mp hz
      obtain ⟨p, kvs, rfl, h1, h2, h3, h4⟩ := (rp1.mono f2).dic'
      obtain ⟨v', e1, e2⟩ := (KvR.of h2 h3).get hg
      rw [key_rep hk rp2]
      exact ⟨p, v', rfl, by rw [← e1]; exact DGet.k h1, k v' H2 F2 m2 z r2 (f1.trans f2) e2 q2⟩
    | _ => exact nomatch (show (none : Option D) = some z from hz)⟩⟩
def prs : List D → Option (List (Key × D))
  | [] => some []
  | .tup [k, d] :: r => k.key.bind fun key => (prs r).map fun l => (key, d) :: l
  | _ => none
def dDictP (d : DE) : DE := fun env m Q => d env m fun x m1 => ∃ ds ps, x = .lst ds ∧ prs ds = some ps ∧ Q (.dic (kvMerge [] ps)) m1
theorem prs_rep {K : PySem.W.Frag} {F H : Hp} (e : Ex F H) : ∀ {ds : List D} {vs : List V} {ps : List (Key × D)}, RepL K g F ds vs → prs ds = some ps → ∃ (as : List Addr) (kvs : List (Key × V)), vs = as.map V.ref ∧ Paired (fun p (kv : Key × V) => SqT K H p [kV kv.1, kv.2]) as kvs ∧ KvR K g F ps kvs
  | _, _, _, .nil, h => by
    simp [prs] at h
    subst h
    exact ⟨[], [], rfl, .nil, .nil⟩
  | d :: r, _, ps, .cons h1 t1, h => by
    unfold prs at h
    split at h
    · rename_i z; cases z
    · rename_i k d' r' z
      cases z
      obtain ⟨key, hk, h⟩ := Option.bind_eq_some_iff.mp h
      obtain ⟨l, hl, rfl⟩ := Option.map_eq_some_iff.mp h
      obtain ⟨as, kvs, h2, h3, h4⟩ := prs_rep e t1 hl
      cases h1 with
      | @tup p xs _ hs rl =>
        cases rl with
        | cons ra rl =>
          cases rl with
          | cons rb rl =>
            cases rl
            have := key_rep hk ra
            subst this
            exact ⟨p :: as, (key, _) :: kvs, by rw [h2]; rfl, .cons (Evl.ex_t e hs) h3, .cons rb h4⟩
    · cases h
theorem gnw_dictP {p : Pos} (hc : X.calm = true) (hg : Gl X "dict") (hm : X.mg "dict" = none) (he : GB g X e d) (hs : starEach [e] X.env = (false, eval e X.env) :: starEach [] X.env := by rfl) : GNw g X (.Call (.Name "dict" p) [e] [] pos) (dDictP d) :=
  PE.weak (pe_callTy (call_dictP hc) hg hm (by decide +kernel) (pa_cons he pa_nil hs) (by decide) (by decide) hs rfl) fun σ H Q ⟨c, F, env, m, Q1, rl, hd, k⟩ =>
  ⟨c, F, env, m, _, rl, hd, fun v H1 F1 m1 x r1 f1 rp1 ⟨ds, ps, ex, hp, q⟩ => by
    subst ex
    obtain ⟨a, xs, rfl, h1, h2, h3⟩ := rp1
    obtain ⟨as, kvs, e1, e2, e3⟩ := prs_rep r1.sub h2 hp
    subst e1
    refine ⟨a, as, kvs, rfl, SqL.of h1, e2, fun q0 hq => ?_⟩
    have n := New.lay (F := F1) (o := .dK (mergeK [] kvs)) r1.sub hq
    have hc' : c ≠ some q0 := fun z => by obtain ⟨_, _, y, _⟩ := r1.ck q0 z; rw [y] at hq; cases hq
    exact k q0 _ F1 m1 _ _ (r1.new n) (f1.trans (n.fresh r1.ck)) (fresh_back f1 q0 hq hc') (ex_none r1.sub hq) hc' upd_same (show ObR X.K g F1 _ (.dic _) (.dK _) from ⟨_, rfl, (KvR.merge e3 .nil).to⟩) q⟩
end
end G
namespace G
open PySem L2
end G
namespace G
open PySem L2
theorem pyL_map (ds : List D) : pyL ds = ds.map D.py := by
  induction ds with
  | nil => simp [pyL]
  | cons d r ih => simp [pyL, ih]
def showD : D → Bool := fun d => d.okd 60 && d.py.showable && !d.py.hasDict
def reprD : List D → Option D
  | [.lst ds] => if showD (.lst ds) = true ∧ (D.lst ds).py.shown.length ≤ LL then some (.str (D.lst ds).py.shown) else none
  | [.tup ds] => if showD (.tup ds) = true ∧ (D.tup ds).py.shown.length ≤ LL then some (.str (D.tup ds).py.shown) else none
  | _ => none
def dTupRg (d : DE) : DE := fun env m Q => d env m fun x m1 => ∃ n : Nat, x = .int (n : Nat) ∧ n ≤ LL ∧ Q (.tup (rangeD 0 (n : Nat))) m1
theorem rg_rep {K : PySem.W.Frag} {g : Gp} {F : Hp} (a b : Int) : RepL K g F (rangeD a b) (rgV a b) := by
  unfold rangeD rgV
  induction List.range (b - a).toNat with
  | nil => exact .nil
  | cons i r ih => exact .cons (.int _) ih
theorem ge_tupRg {g : Gp} {X : Cx} {e : Expr} {d : DE} {p p2 pos pos2 : Pos} (hc : X.calm = true) (hg : Gl X "tuple") (hm : X.mg "tuple" = none) (hg2 : Gl X "range") (hm2 : X.mg "range" = none) (he : GE g X e d) (na : starEach [e] X.env = (false, eval e X.env) :: starEach [] X.env := by rfl)
    (nb : starEach [.Call (.Name "range" p2) [e] [] pos2] X.env = (false, eval (.Call (.Name "range" p2) [e] [] pos2) X.env) :: starEach [] X.env := by rfl) : GE g X (.Call (.Name "tuple" p) [.Call (.Name "range" p2) [e] [] pos2] [] pos) (dTupRg d) :=
  PE.weak (pe_tupRg hc hg hm (prg_1 hg2 hm2 he na) nb) fun σ H Q ⟨c, F, env, m, Q1, rl, hd, k⟩ => ⟨c, F, env, m, _, rl, hd, fun v H1 F1 m1 x r1 f1 rp ⟨n, ex, hn, q⟩ => by
    subst ex
    cases rp
    have hn' : n ≤ 100000 := hn
    refine ⟨(n : Nat), rfl, RgOk.of_le (by omega) (by omega) (by omega) (by omega), fun p0 hp => ?_⟩
    have n1 := New.fix (F := F1) (o := .tup (rgV 0 (n : Nat))) r1.sub hp
    exact k _ _ _ m1 _ (r1.new n1) (f1.trans (n1.fresh r1.ck)) (.tup (SqT.of upd_same) (rg_rep 0 _)) q⟩
end G
namespace G
open PySem L2
open PySem.W (dataLe AllAlike Sortable EachIs dataLt alike alikeAll)
def rSortTp (K : PySem.W.Frag) : List V → Hp → VK → Prop := fun vs H Q => ∃ (a : Addr) (ps : List (V × PyData)), vs = [.ref a] ∧ SqT K H a (ps.map (·.1)) ∧ (∀ p ∈ ps, Dp K H p.1 p.2 ∧ p.2.depth ≤ 60) ∧ AllAlike (ps.map (·.2)) ∧ Sortable (ps.map (·.2)) ∧ ps.length ≤ LL ∧
  ∀ p, H p = none → Q (.ref p) (upd H p (.lst ((sortV ps).map (·.1))))
theorem cr_sortTp {X : Cx} (hu : X.A.units + 64 < cLine) : CallR X (.builtin "sorted") (rSortTp X.K) := by
  intro pins s σ H vs us Q I r h
  obtain ⟨a, ps, rfl, hs, hd, ha, hk2, hl, q⟩ := h
  obtain ⟨its, rv, pl, _⟩ := I.tuple hs
  rw [Vals.ref1 r]
  have lp : its.length = ps.length := by rw [← rv.length, List.length_map]
  have hlen : its.length ≤ sizeLine := by rw [lp]; exact ll hl
  obtain ⟨ob, hob, hcl, n0, hdat⟩ := id pl
  refine PySem.Calls.call_function_entry PyProof.Rows.kind_sorted PyProof.Rows.plain_sorted PyProof.Rows.entry_sorted (PyProof.Rows.args_sorted1 _) ?_
  unfold Builtin.«sorted»
  refine wpAny_bind (m := checkCount "sorted" 1 1 _) (wpAny_pure ?_)
  refine wpAny_bind (wpAny_collect_seq (A := X.A.in1) a (T := "tuple") (.inr rfl) hob hcl hdat (fun h' hk => ?_) (by simpa using hlen))
  show wpAny _ _ (newList its.toArray.toList >>= _) _ _ _
  rw [List.toList_toArray]
  refine wpAny_bind (wpAny_newList ?_ hlen)
  have e1 : EachIs (fun u (b : V × PyData) => RelV b.1 u) its ps := each_of_vals (f := fun p : V × PyData => p.1) rv fun b _ u h => h
  have er0 : ∀ h2 : Heap, (∀ b o, s.heap.get? b = some o → h2.get? b = some o) → EachIs (fun u (b : V × PyData) => ∃ as, Reads h2 u b.2 as) its ps := fun h2 k2 => each_of_vals (f := fun p : V × PyData => p.1) rv fun b hb u h => by
    obtain ⟨as, ra⟩ := Dp.reads I b.2 b.1 u (hd b hb).1 h
    exact ⟨as, PyProof.Rows.Reads.keeps k2 ra⟩
  have hdp : ∀ d ∈ ps.map (·.2), X.A.in1.in1.units + d.depth < cLine := fun d hd' => by
    obtain ⟨b, hb, rfl⟩ := List.mem_map.mp hd'
    have z := (hd b hb).2
    show X.A.units + 1 + 1 + b.2.depth < cLine
    omega
  let sB : Shared := { s with heap := h'.push { cls := .type "list", data := .seq its.toArray } }
  have oa : sB.heap.get? h'.objs.size = some (PyProof.Rows.seqObj "list" its.toArray 0) := Heap.get?_push_size _ rfl
  have kB : ∀ b o, s.heap.get? b = some o → (PySem.W.sortingHeap sB.heap h'.objs.size its).get? b = some o := fun b o e => by
    have e' := hk b o e
    exact PySem.W.sortingHeap_old (Nat.ne_of_lt (Heap.lt_size e')) (Heap.get?_push_of_some _ e')
  refine wpAny_bind (wpAny_holding (wpAny_call_entry PyProof.Rows.slot_list_sort ⟨_, oa, rfl⟩ PyProof.Rows.entry_list_sort ?body (PyProof.Rows.args_list_sort _)))
  case body =>
    refine PySem.W.list_sort_vals oa (PySem.W.SortsAt.data (PySem.W.each_map (R := fun v d => ∃ as, Reads _ v d as) (fun p : V × PyData => p.2) (er0 _ kB)) ha hk2 hdp) hlen ?_
    refine ⟨_, rfl, wpAny_pure ⟨_, rfl, ?_⟩⟩
    have eo := PySem.W.sortVals_data (h' := PySem.W.sortingHeap sB.heap h'.objs.size its) (enc := fun p : V × PyData => p.2) false e1 (er0 _ kB) ha
    generalize hout : PySem.W.sortVals (PySem.W.dataKind (PySem.W.sortingHeap sB.heap h'.objs.size its) (ps.map (·.2))) false its its = out at eo
    obtain ⟨ep, he⟩ := PyProof.Rows.sortedHeap_at (out := out.toArray) oa
    have old : ∀ b o, s.heap.get? b = some o → (PyProof.Rows.sortedHeap sB.heap h'.objs.size its out.toArray).get? b = some o := fun b o e => by
      have e' := hk b o e
      have hlt := Heap.lt_size e'
      rw [PyProof.Rows.sortedHeap_old (Nat.ne_of_lt hlt) (by show b < (h'.push _).objs.size; rw [Heap.size_push]; exact Nat.lt_succ_of_lt hlt)]
      exact Heap.get?_push_of_some _ e'
    have hp : ∀ u, s.heap.get? h'.objs.size ≠ some u := fun u e => absurd (Heap.lt_size (hk _ u e)) (Nat.lt_irrefl _)
    have hL : ((sortV ps).map (·.1)).length ≤ sizeLine := by
      unfold sortV
      rw [List.length_map, List.length_mergeSort, ← lp]
      exact hlen
    obtain ⟨hn, J⟩ := laidN (o := .lst ((sortV ps).map (·.1))) (t' := s.toks) (g' := s.gens) (d' := s.drawn) I old hp I.bare ⟨hL, _, ep, vals_of_each (f := fun p : V × PyData => p.1) eo, he⟩
    exact ⟨.ref _, _, J, rfl, q _ hn⟩
theorem sortable_of {es : List D} (o2 : es.all D.neT = true ∨ es.all D.noT = true) : Sortable (es.map D.py) := by
  rcases o2 with o2 | o2
  · refine .inl fun d hd => ?_
    obtain ⟨a, ha, rfl⟩ := List.mem_map.mp hd
    have := List.all_eq_true.mp o2 a ha
    cases a with
    | tup l => cases l with
      | nil => cases this
      | cons x r => exact ⟨x.py, pyL r, by simp only [D.py, pyL]⟩
    | _ => cases this
  · refine .inr fun d hd => ?_
    obtain ⟨a, ha, rfl⟩ := List.mem_map.mp hd
    have := List.all_eq_true.mp o2 a ha
    cases a with
    | non => cases this
    | tup l => cases this
    | dic l => cases this
    | web a b => cases this
    | fn a => cases this
    | exc _ _ _ => cases this
    | dit _ => cases this
    | _ => simp only [D.py]; exact ⟨(fun z => nomatch z), fun _ z => nomatch z⟩
def sortedTD : List D → Option (List D)
  | [.tup ds] => if sortOk ds then some (sortL ds) else none
  | _ => none
theorem cn_sortedT {K : PySem.W.Frag} {g : Gp} : CallN K g (rSortTp K) sortedTD := fun c F H xs ds vs Q' e nc rp hz k => by
  unfold sortedTD at hz
  split at hz
  · rename_i es
    split at hz
    · rename_i ok
      cases hz
      unfold sortOk at ok
      simp only [Bool.and_eq_true, Bool.or_eq_true, decide_eq_true_eq] at ok
      obtain ⟨⟨⟨o1, o2⟩, o3⟩, o4⟩ := ok
      cases rp with
      | cons h t =>
        cases t
        obtain ⟨p, ys, rfl, g1, g2⟩ := RepT.tup' h
        have hl := g2.length
        have z1 : (ys.zip (es.map D.py)).map (·.1) = ys := List.map_fst_zip (by rw [List.length_map]; omega)
        have z2 : (ys.zip (es.map D.py)).map (·.2) = es.map D.py := List.map_snd_zip (by rw [List.length_map]; omega)
        refine ⟨p, ys.zip (es.map D.py), rfl, by rw [z1]; exact Evl.ex_t e g1, zip_dp e g2 o3, ?_, ?_, ?_, fun l hl' => ?_⟩
        · rw [z2]
          intro d hd d' hd'
          obtain ⟨a, ha, rfl⟩ := List.mem_map.mp hd
          obtain ⟨b, hb, rfl⟩ := List.mem_map.mp hd'
          unfold alikeL at o1
          exact List.all_eq_true.mp (List.all_eq_true.mp o1 a ha) b hb
        · rw [z2]
          exact sortable_of o2
        · rw [List.length_zip, List.length_map]; omega
        · exact k l _ F _ (new_lay e hl').1 hl' (new_lay e hl' (ys := (sortV (ys.zip (es.map D.py))).map (·.1))).2.1 upd_same (sort_rep g2)
    · cases hz
  · cases hz
end G
namespace G
open PySem L2
theorem units65 {k : Nat} {A : Around} (r : Room k A) : A.units + 65 < cLine := by have := r.un; omega
def inDp (x y : D) : Option Bool := match y with
  | .lst ds => if x.okd 60 && (D.lst ds).okd 60 then some (ds.any fun z => PyData.eqv z.py x.py) else none
  | _ => none
def inDpD (x y : D) : Option D := (inDp x y).map .bl
theorem FnG.imp {P : Program} {w : World} {K : PySem.W.Frag} {mg : Str → Option Value} {base : Heap} {k : Nat} {f : Addr} {fd : FuncData} {ps : List Str} {sp sp' : Sp} (F : FnG P w K mg base k f fd ps sp) (h : ∀ vs H Q E, sp' vs H Q E → sp vs H Q E) : FnG P w K mg base k f fd ps sp' :=
  ⟨fun vs H Q E q => F.len vs H Q E (h vs H Q E q), fun A outer s H args us vs Q E hr c e b v q => F.run A outer s H args us vs Q E hr c e b v (h vs H Q E q)⟩
end G
namespace G
open PySem L2
section
variable {g : Gp} {X : Cx} {a b e : Expr} {es : List Expr} {d da db dv dk : DE} {dl : DL} {pos p1 : Pos} {K : PySem.W.Frag}
theorem cr_sumT (hc : X.calm = true) : CallR X (.builtin "sum") (fun vs H Q => ∃ (a : Addr) (ns : List Int), vs = [V.ref a] ∧ SqT X.K H a (ns.map V.int) ∧ Q (.int ns.sum) H) := by
  intro pins s σ H vs us Q I r h
  obtain ⟨a, ns, rfl, hs, q⟩ := h
  obtain ⟨its, rv, pl, _⟩ := I.tuple hs
  rw [Vals.ref1 r]
  obtain ⟨ob, hob, hcl, n0, hdat⟩ := id pl
  have hlt : a < s.heap.objs.size := Heap.lt_size hob
  have vals : ∀ (i : Nat) (v : Value), its.toArray[i]? = some v → ∃ t, v = .int (ns.getD i 0) t := fun i v hv => by
    have hv' : its[i]? = some v := by simpa using hv
    have hi : i < ns.length := by
      have h1 := (List.getElem?_eq_some_iff.mp hv').1
      rw [← rv.length, List.length_map] at h1
      exact h1
    obtain ⟨u, hu, ru⟩ := Vals.get rv (i := i) (x := .int (ns.getD i 0)) (by rw [List.getElem?_map, List.getD_eq_getElem?_getD, List.getElem?_eq_getElem hi]; rfl)
    rw [hv'] at hu
    cases hu
    exact ru
  have sums : ∀ k, k ≤ ns.length → preSum (fun i => ns.getD i 0) k = (ns.take k).sum := by
    intro k
    induction k with
    | zero => intro _; simp [preSum]
    | succ k ih =>
      intro hk
      unfold preSum
      rw [ih (by omega), List.take_succ_eq_append_getElem (by omega), List.sum_append, List.getD_eq_getElem?_getD, List.getElem?_eq_getElem (by omega)]
      simp
  have hlen : its.toArray.size = ns.length := by rw [List.size_toArray, ← rv.length, List.length_map]
  refine call_sum_walkG (wpAny_pyIter_tuple pl ⟨_, _, _, _, _, _, fun i => ns.getD i 0, rfl, Walks.tuple (A := X.A.in1) (I.ok.hd hc) _ a (Nat.ne_of_lt hlt) its.toArray, ⟨⟨_, Heap.get?_push_size _ rfl, rfl, rfl⟩, pl.push _⟩, fun b hb => ?_, vals, fun h' tk t' hk => ?_⟩)
  · show b < (s.heap.push _).objs.size
    rw [Heap.size_push]
    simp only [List.mem_cons, List.not_mem_nil, or_false] at hb
    rcases hb with rfl | rfl
    · exact Nat.lt_succ_self _
    · exact Nat.lt_succ_of_lt hlt
  · rw [hlen, sums _ (Nat.le_refl _), List.take_length]
    refine ⟨.int ns.sum, H, I.kept (t' := tk) fun b o e => hk b o (fun hm => ?_) (Heap.get?_push_of_some _ e), ⟨t', rfl⟩, q⟩
    have e1 : b = s.heap.objs.size := List.mem_singleton.mp hm
    have e2 := Heap.lt_size e
    rw [e1] at e2
    exact absurd e2 (Nat.lt_irrefl _)
def sumD : List D → Option D
  | [.lst ds] => (intsD ds).map fun ns => .int ns.sum
  | [.tup ds] => (intsD ds).map fun ns => .int ns.sum
  | _ => none
def rSumG (K : PySem.W.Frag) : List V → Hp → VK → Prop := fun vs H Q => rSum K vs H Q ∨ ∃ (a : Addr) (ns : List Int), vs = [V.ref a] ∧ SqT K H a (ns.map V.int) ∧ Q (.int ns.sum) H
theorem cr_sumG (hc : X.calm = true) : CallR X (.builtin "sum") (rSumG X.K) := (cr_sum hc).or (cr_sumT hc)
theorem cd_sum : CallD K g (rSumG K) sumD := fun c F H xs z vs Q' e nc rp hz k => by
  unfold sumD at hz
  split at hz
  · obtain ⟨ns, h1, rfl⟩ := Option.map_eq_some_iff.mp hz
    have := intsD_map h1
    subst this
    cases rp with
    | cons h t =>
      cases t
      obtain ⟨p, ys, rfl, g1, g2, _⟩ := h
      have := repL_ints g2
      subst this
      exact .inl ⟨p, ns, rfl, SqL.of g1, k _ H F (New.refl e) (.int _)⟩
  · obtain ⟨ns, h1, rfl⟩ := Option.map_eq_some_iff.mp hz
    have := intsD_map h1
    subst this
    cases rp with
    | cons h t =>
      cases t
      obtain ⟨p, ys, rfl, g1, g2⟩ := RepT.tup' h
      have := repL_ints g2
      subst this
      exact .inr ⟨p, ns, rfl, Evl.ex_t e g1, k _ H F (New.refl e) (.int _)⟩
  · cases hz
end
open PySem.StrLaws in
theorem occ_sound (s sub : Str) (hi limit : Nat) (R : Nat → Prop) (hR : ∀ i, i + sub.length ≤ hi → Builtin.Str.subAt s sub i = true → R i) : ∀ (l : List Nat) (st : Array Nat × Nat), (∀ i ∈ st.fst.toList, R i) → ∀ i ∈ (forIn l st (occBody s sub hi limit)).run.fst.toList, R i
  | [], st, h => h
  | j :: l, st, h => by
    rw [List.forIn_cons]
    unfold occBody
    split
    · rename_i hc
      refine occ_sound s sub hi limit R hR l _ fun i hi' => ?_
      simp only [Array.toList_push, List.mem_append, List.mem_singleton] at hi'
      rcases hi' with z | rfl
      · exact h i z
      · exact hR i hc.1.2 hc.2
    · exact occ_sound s sub hi limit R hR l _ h
open PySem.StrLaws in
theorem occ_one {x : Str} {c : Nat} (h : c ∈ x.cps.toList) : ∃ i rest, Builtin.Str.occurrences x ⟨#[c]⟩ 0 x.length 1 = i :: rest ∧ x.cps.toList[i]? = some c := by
  have h1 := found_one x c
  rw [decide_eq_true h] at h1
  cases e : Builtin.Str.occurrences x ⟨#[c]⟩ 0 x.length 1 with
  | nil => rw [e] at h1; simp at h1
  | cons i rest =>
    refine ⟨i, rest, rfl, ?_⟩
    have := occ_sound x ⟨#[c]⟩ x.length 1 (fun i => x.cps.toList[i]? = some c) (fun i h1 h2 => (subAt_one x c i).mp ⟨h1, h2⟩) (List.range' 0 (x.length + 1 - 0)) (#[], 0) (fun i hi => by simp at hi)
    rw [← occ_eq, e] at this
    exact this i (by simp)
section
variable {g : Gp} {X : Cx} {K : PySem.W.Frag}
def sindexD : D → List D → Option D
  | .str x, [.str y] => (match y.cps.toList with | [c] => (if c ∈ x.cps.toList then (Builtin.Str.occurrences x y 0 x.length 1).head?.map (fun (i : Nat) => D.int i) else none) | _ => none)
  | _, _ => none
theorem md_sindex : MtD K g (fun x xs H Q => ∃ a b i rest, x = .str a ∧ xs = [.str b] ∧ Builtin.Str.occurrences a b 0 a.length 1 = i :: rest ∧ Q (.int (i : Nat)) H) sindexD := fun c F H x xs z v vs Q' e nc rx rs hz k => by
  unfold sindexD at hz
  split at hz
  · rename_i x y
    split at hz
    · split at hz
      · obtain ⟨i, hi, rfl⟩ := Option.map_eq_some_iff.mp hz
        obtain ⟨rest, er⟩ : ∃ rest, Builtin.Str.occurrences x y 0 x.length 1 = i :: rest := by
          cases h : Builtin.Str.occurrences x y 0 x.length 1 with
          | nil => rw [h] at hi; cases hi
          | cons j r => rw [h] at hi; cases hi; exact ⟨r, rfl⟩
        cases rs with
        | cons r1 rt =>
          cases rt
          rw [rx.str', r1.str']
          exact ⟨x, y, i, rest, rfl, rfl, er, k _ H F (New.refl e) (.int _)⟩
      · cases hz
    · cases hz
  · cases hz
end
end G
namespace G
open PySem L2
section
variable {g : Gp} {X : Cx} {a b e : Expr} {es : List Expr} {d da db dv dk : DE} {dl : DL} {pos p1 : Pos} {K : PySem.W.Frag}
theorem get_listN : PGet X (fun x y H Q => ∃ (p : Addr) (xs : List V) (n : Nat) (v : V), x = .ref p ∧ y = .int (n : Nat) ∧ SqL X.K H p xs ∧ xs[n]? = some v ∧ Q v H) := by
  intro pins s σ H o i ov iv Q I ro ri h
  obtain ⟨p, xs, n, v, rfl, rfl, hs, hv, q⟩ := h
  cases ro
  obtain ⟨t, rfl⟩ := ri
  obtain ⟨its, r, pl, hz⟩ := I.list hs
  obtain ⟨u, hu, ru⟩ := r.get hv
  have hn : n < its.length := (List.getElem?_eq_some_iff.mp hu).1
  have hl := r.length
  have h63 := line63
  exact wpAny_getItem_list pl.isList (by omega) (by omega) (by simpa using hu) ⟨v, H, I, ru, q⟩
def dAugL (i : Nat) (dk dv : DE) : DS := fun env m E => ∃ ds, env[i]? = some (.own ds) ∧ dk env m fun k m1 => ∃ (n : Nat) (a : Int), k = .int (n : Nat) ∧ ds[n]? = some (.int a) ∧ dv env m1 fun x m2 => ∃ b : Int, x = .int b ∧ E.nx (env.set i (.own (ds.set n (.int (a + b))))) m2
theorem gs_augL (i : Nat) {x : Str} {k v : Expr} {tpos : Pos} (hk : GE g X k dk) (hv' : GE g X v dv) (hN : X.N[i]? = some x := by rfl) (hv : Vis X.env.scope x := by first | exact Or.inl rfl | exact Or.inr (Or.inl rfl) | exact Or.inr (Or.inr rfl)) (hd : (x == ("__debug__" : Str)) = false := by decide)
    (hcd : (x == ("__classdict__" : Str)) = false := by decide) (ha : ∀ ov iv new, augStore k ov iv new = (do holding [new, ov, iv] (setItem ov iv new); release [new, ov, iv] []; pure .next) := by intros; rfl) : GS g X (.AugAssign (.Subscript (.Name x p1) k tpos) .Add v pos) (dAugL i dk dv) :=
  PS.weak (ps_augS (pe_var hN hv hd hcd) hk get_listN hv' ip_add set_list ha) fun D σ H ⟨c, F, env, m, E, r, ⟨ds, ho, h⟩, o⟩ => by
    obtain ⟨p, xs, es, hp, rl, nc⟩ := own_at r ho
    refine ⟨.ref p, es, c, F, env, m, _, r, h, fun kv H1 F1 m1 y r1 f1 rp ⟨n, a, ek, hn, q1⟩ => ?_⟩
    subst ek
    cases rp
    obtain ⟨p1, xs1, es1, hp1, rl1, nc1⟩ := own_at r1 ho
    rw [es] at es1
    cases es1
    obtain ⟨w, hw, rw1⟩ := rl1.get hn
    cases rw1
    refine ⟨p, xs1, n, .int a, rfl, rfl, SqL.of hp1, hw, c, F1, env, m1, _, r1, q1, fun vv H2 F2 m2 z r2 f2 rp2 ⟨b, ez, q2⟩ => ?_⟩
    subst ez
    cases rp2
    refine ⟨a, b, rfl, rfl, ?_⟩
    obtain ⟨p2, xs2, es2, hp2, rl2, nc2⟩ := own_at r2 ho
    rw [es] at es2
    cases es2
    obtain ⟨r3, v3⟩ := r2.mut ho es (rl2.set (.int (a + b)) n)
    have hlt : n < ds.length := (List.getElem?_eq_some_iff.mp hn).1
    have hix : ixN xs2.length (n : Nat) = some n := by
      have := rl2.length
      unfold ixN
      rw [if_pos (by omega), if_pos (by omega), Int.toNat_natCast]
    exact ⟨p, xs2, (n : Nat), n, rfl, rfl, hp2, hix, o.nx σ _ F2 _ m2 r3 ((r.evo (f1.trans f2)).trans v3) q2⟩
end
end G
namespace G
open PySem L2 PySem.Spec PyProof.Rows
section
variable {g : Gp} {X : Cx} {a b e : Expr} {es : List Expr} {d da db dv dk : DE} {dl : DL} {pos p1 : Pos} {K : PySem.W.Frag}
def dRepL (da db : DE) : DL := fun env m Q => da env m fun x m1 => db env m1 fun y m2 => ∃ ds k, x = .lst ds ∧ y = .int k ∧ 0 ≤ k ∧ k ≤ 1000 ∧ ds.length * k.toNat ≤ LL ∧ Q (List.replicate k.toNat ds).flatten m2
theorem gn_repL (ha : GE g X a da) (hb : GE g X b db) : GN g X (.BinOp a .Mult b pos) (dRepL da db) :=
  PE.weak (pe_op op_rep ha hb) fun σ H Q ⟨c, F, env, m, Q1, r, hd, k⟩ => ⟨c, F, env, m, _, r, hd, fun v H1 F1 m1 x r1 f1 rp q1 => ⟨c, F1, env, m1, _, r1, q1, fun w H2 F2 m2 y r2 f2 rp2 ⟨ds, j, ex, ey, h0, h1, h2, q⟩ => by
    subst ex ey
    cases rp2
    have rp' := rp.mono f2.ff
    cases rp' with
    | lst hp rl =>
      rename_i p xs
      refine ⟨p, j, xs, rfl, rfl, r2.sub _ _ hp, by omega, by omega, ll (by rw [rl.length]; exact h2), fun t ht => ?_⟩
      have n := New.lay (F := F2) (o := .lst (List.replicate j.toNat xs).flatten) r2.sub ht
      have f3 := (f1.trans f2)
      refine k t _ _ m2 _ _ (r2.new n) (f3.trans (n.fresh r2.ck)) ?_ (ex_none r2.sub ht) (fun z => ?_) upd_same (rl.rep _) q
      · cases q : H t with
        | none => rfl
        | some o =>
          by_cases z : c = some t
          · obtain ⟨_, _, e, _⟩ := r2.ck t z; rw [e] at ht; cases ht
          · exact (f3.sm q z ht).elim
      · obtain ⟨_, _, e, _⟩ := r2.ck t z; rw [e] at ht; cases ht⟩⟩
end
end G
namespace G
open PySem L2
abbrev DR := Env' → Nat → (List (List D) → Nat → Prop) → Prop
structure TabNew (K : PySem.W.Frag) (g : Gp) (c : Option Addr) (H F' H' : Hp) (p : Addr) (qs : List Addr) (rows : List (List D)) : Prop where
  p0 : H p = none
  pF : F' p = none
  pc : c ≠ some p
  pH : H' p = some (.lst (qs.map V.ref))
  pq : p ∉ qs
  nd : qs.Nodup
  rs : RowsR K g c F' H' rows qs
  q0 : ∀ q ∈ qs, H q = none
theorem TabNew.slr {K : PySem.W.Frag} {g : Gp} {c : Option Addr} {H F' H' : Hp} {p : Addr} {qs : List Addr} {rows : List (List D)} (t : TabNew K g c H F' H' p qs rows) : SlR K g c F' H' (.tb qs rows) (some (some (.ref p))) := ⟨p, rfl, t.pF, t.pc, t.pH, t.pq, t.nd, t.rs⟩
theorem TabNew.zero {K : PySem.W.Frag} {g : Gp} {c : Option Addr} {H F' H' : Hp} {p : Addr} {qs : List Addr} {rows : List (List D)} (t : TabNew K g c H F' H' p qs rows) : ∀ a ∈ (Sl.tb qs rows).adr (some (some (.ref p))), H a = none := fun a ha => by
  rw [show (Sl.tb qs rows).adr (some (some (.ref p))) = p :: qs from rfl] at ha
  rcases List.mem_cons.mp ha with rfl | ha
  · exact t.p0
  · exact t.q0 a ha
def tNt (K : PySem.W.Frag) (g : Gp) (d : DR) : TE := fun σ H Q' => ∃ c F env m Q, Rel K g c F env m σ H ∧ d env m Q ∧
  ∀ p qs rows H' F' m', Rel K g c F' env m' σ H' → Fresh c F H F' H' → TabNew K g c H F' H' p qs rows → Q rows m' → Q' (.ref p) H'
def GNt (g : Gp) (X : Cx) (e : Expr) (d : DR) : Prop := PE X e (tNt X.K g d)
def LtR (f : D → Env' → Option Env') (de : DL) (env : Env') : List D → Nat → (List (List D) → Nat → Prop) → Prop
  | [], m, Q => Q [] m
  | d :: ds, m, Q => ∃ env2, f d env = some env2 ∧ de env2 m fun row m2 => LtR f de env ds m2 fun rows m3 => Q (row :: rows) m3
def dLt (di : DL) (f : D → Env' → Option Env') (de : DL) (vs : List Nat) : DR := fun env m Q => di env m fun its m1 => its.length ≤ LL ∧ LtR f de (wipeE env vs) its m1 Q
theorem Fresh.stay {c : Option Addr} {F H F' H' : Hp} {a : Addr} {u : HO} (f : Fresh c F H F' H') (h1 : F a = none) (h2 : c ≠ some a) (h3 : H a = some u) (ht : isT u = false := by rfl) : F' a = none ∧ H' a = some u := by
  refine ⟨?_, f.hh a u h3 h2 ht⟩
  cases q : F' a with
  | none => rfl
  | some o =>
    rcases f.new a o q with z | z
    · rw [h1] at z; cases z
    · rw [h3] at z; cases z
theorem RowsR.length {K : PySem.W.Frag} {g : Gp} {c : Option Addr} {F H : Hp} : ∀ {rows : List (List D)} {qs : List Addr}, RowsR K g c F H rows qs → qs.length = rows.length
  | _, _, .nil => rfl
  | _, _, .cons _ _ _ _ t => by rw [List.length_cons, List.length_cons, t.length]
theorem RowsR.at2 {K : PySem.W.Frag} {g : Gp} {c : Option Addr} {F H : Hp} : ∀ {rows : List (List D)} {qs : List Addr} {a : Addr}, RowsR K g c F H rows qs → a ∈ qs → F a = none ∧ c ≠ some a ∧ ∃ u, H a = some u ∧ isT u = false
  | _, _, a, .nil, h => by simp at h
  | _, _, a, .cons h1 h2 h3 _ t, h => by
    rcases List.mem_cons.mp h with rfl | h
    · exact ⟨h1, h2, _, h3, rfl⟩
    · exact t.at2 h
theorem RowsR.mono {K : PySem.W.Frag} {g : Gp} {c : Option Addr} {F H F' H' : Hp} (f : Fresh c F H F' H') {rows : List (List D)} {qs : List Addr} (h : RowsR K g c F H rows qs) : RowsR K g c F' H' rows qs := h.keep f.ff fun a ha => by
  obtain ⟨h1, h2, u, h3, h4⟩ := h.at2 ha
  have := f.stay h1 h2 h3 h4
  exact ⟨this.1, by rw [this.2, h3]⟩
theorem RowsR.snoc {K : PySem.W.Frag} {g : Gp} {c : Option Addr} {F H : Hp} {row : List D} {q : Addr} {xs : List V} (h1 : F q = none) (h2 : c ≠ some q) (h3 : H q = some (.lst xs)) (h4 : RepL K g F row xs) : ∀ {rows : List (List D)} {qs : List Addr}, RowsR K g c F H rows qs → RowsR K g c F H (rows ++ [row]) (qs ++ [q])
  | _, _, .nil => .cons h1 h2 h3 h4 .nil
  | _, _, .cons a1 a2 a3 a4 t => .cons a1 a2 a3 a4 (t.snoc h1 h2 h3 h4)
section
variable {g : Gp} {X : Cx} {elt tg iter : Expr} {ifs : List Expr} {scope : Scope} {own : List (Str × Nat)} {pos : Pos} {di : DL} {T : TG} {f : D → Env' → Option Env'} {js : List Nat} {de : DL}
theorem lct_weak (vs : List Nat) (hj : ∀ j ∈ js, j ∈ vs) (hg : ∀ (c : Option Addr) (F : Hp) (env : Env') (m : Nat) (σ : St) (H : Hp) (d : D) (v : V) (env2 : Env') (Q : St → Hp → Prop), Rel X.K g c F env m σ H → Rep X.K g F d v → f d env = some env2 →
    (∀ σ2, Rel X.K g c F env2 m σ2 H → (∀ a, Own env2 σ2 a → Own env σ a) → σ2.length = σ.length → (∀ i, i ∉ js → σ2[i]? = σ[i]?) → Q σ2 H) → T v σ H Q) :
    ∀ σ H Q, tNt X.K g (dLt di f de vs) σ H Q → tLc (tI X.K g true di) T (tT X.K g dYes) (tN X.K g de) vs σ H Q := fun σ H Q ⟨c, F, env, m, Q1, r, h, k⟩ =>
  ⟨c, F, env, m, _, r, h, fun J H1 F1 m1 its lk r1 f1 _ hk w ⟨hz, q⟩ => fun Dl hD => by
    have nD : F1 Dl = none := ex_none r1.sub hD
    have cD : c ≠ some Dl := fun z => by obtain ⟨_, xs, e, _⟩ := r1.ck Dl z; rw [hD] at e; cases e
    have hD0 : H Dl = none := by
      cases z : H Dl with
      | none => rfl
      | some o => exact (f1.sm z cD hD).elim
    have lay := New.lay (F := F1) (o := .lst []) r1.sub hD
    refine ⟨fun i kk H' => ∃ F' m' qs rows, kk = its.length - i ∧ i ≤ its.length ∧ Fresh c F1 H1 F' H' ∧ Ck g c m' F' H' ∧ F' Dl = none ∧ H' Dl = some (.lst (qs.map V.ref)) ∧ RowsR X.K g c F' H' rows qs ∧ qs.Nodup ∧ Dl ∉ qs ∧ (∀ q ∈ qs, H1 q = none) ∧ rows.length ≤ i ∧ LtR f de (wipeE env vs) (its.drop i) m' (fun ys m3 => Q1 (rows ++ ys) m3),
      ⟨its.length, F1, m1, [], [], rfl, Nat.zero_le _, lay.fresh r1.ck, r1.ck.new lay, nD, upd_same, .nil, List.nodup_nil, by simp, by simp, by simp, by simpa using q⟩, ?_⟩
    rintro i kk H' ⟨F', m', qs, rows, rfl, hi, fr, ck, nF, hA, rA, nd, nDq, q0, lA, q'⟩
    have r' := r1.fresh fr ck
    have lk' : ∀ p ∈ lk, H' p.1 = some p.2 := fun p hp => fr.hh p.1 p.2 (hk p hp).1 (hk p hp).2.1 (hk p hp).2.2
    obtain ⟨go, stop⟩ := w i F' H' fr.ff r'.sub lk'
    by_cases hlt : i < its.length
    · have hd : its[i]? = some its[i] := List.getElem?_eq_getElem hlt
      rw [List.drop_eq_getElem_cons hlt] at q'
      obtain ⟨g1, g2⟩ := go _ hd
      obtain ⟨env2, e2, q2⟩ := q'
      refine .inr ⟨g1, fun H2 => ∃ F2 m2 qs2 rows2, Fresh c F1 H1 F2 H2 ∧ Ck g c m2 F2 H2 ∧ F2 Dl = none ∧ H2 Dl = some (.lst (qs2.map V.ref)) ∧ RowsR X.K g c F2 H2 rows2 qs2 ∧ qs2.Nodup ∧ Dl ∉ qs2 ∧ (∀ q ∈ qs2, H1 q = none) ∧ rows2.length ≤ i + 1 ∧ LtR f de (wipeE env vs) (its.drop (i + 1)) m2 (fun ys m3 => Q1 (rows2 ++ ys) m3), fun H2 ⟨F2, m2, qs2, rows2, a1, a2, a3, a4, a5, a6, a7, a8, a9, a10⟩ => ⟨its.length - (i + 1), by omega, F2, m2, qs2, rows2, rfl, by omega, a1, a2, a3, a4, a5, a6, a7, a8, a9, a10⟩, fun x H3 y => ?_⟩
      obtain ⟨F3, n3, rp3⟩ := g2 x H3 y
      have r3 := (r'.wipe vs).new n3
      have fr3 := fr.trans (n3.fresh ck)
      have ck3 := ck.new n3
      refine hg c F3 _ m' _ H3 _ x env2 _ r3 rp3 e2 fun σ4 r4 o4 l4 a4 => ⟨?_, ?_⟩
      · refine Eq.trans (wipe_same l4 fun j hj' => a4 j fun z => hj' (hj j z)) (wipe_wipe σ vs)
      · refine ⟨c, F3, env2, m', fun b m1 => b = true ∧ m1 = m', r4, ⟨rfl, rfl⟩, fun b H5 F5 m5 r5 f5 ⟨hb, hm⟩ => ?_⟩
        subst hb hm
        refine ⟨c, F5, env2, _, _, r5, q2, fun p H6 F6 m6 row xs r6 f6 p0 pF pc pH prep q6 => ?_⟩
        have f7 : Fresh c F' H' F6 H6 := ((n3.fresh ck).trans f5).trans f6
        have fr6 : Fresh c F1 H1 F6 H6 := fr.trans f7
        obtain ⟨k1, k2⟩ := f7.stay nF cD hA
        have hp' : H' p = none := by
          cases z : H' p with
          | none => rfl
          | some o => exact (f5.sm (n3.hh p o z) pc p0).elim
        have pD : p ≠ Dl := fun e => by rw [e, hA] at hp'; cases hp'
        have pq : p ∉ qs := fun e => by obtain ⟨_, _, u, z⟩ := rA.at e; rw [z] at hp'; cases hp'
        have hp1 : H1 p = none := by
          cases z : H1 p with
          | none => rfl
          | some o => exact (fr.sm z pc hp').elim
        have rA6 := rA.mono f7
        have lq : qs.length = rows.length := rA.length
        refine ⟨qs.map V.ref, k2, ll' (by rw [List.length_map]; omega), F6, m6, qs ++ [p], rows ++ [row], ⟨fr6.ff, fun a o z => ?_, fun a o z n => ?_, fr6.new, fr6.nc⟩, ⟨fun a z => ?_, TabF.upd r6.ck.tb k2 rfl no_code⟩, k1, ?_, ?_, ?_, ?_, ?_, ?_, ?_⟩
        · have : a ≠ Dl := fun e => by subst e; rw [k1] at z; cases z
          rw [upd_ne this]; exact fr6.fh a o z
        · have : a ≠ Dl := fun e => by subst e; rw [hD] at z; cases z
          rw [upd_ne this]; exact fr6.hk a o z n
        · have : a ≠ Dl := fun e => by subst e; exact cD z
          obtain ⟨b1, xs, b2, b3⟩ := r6.ck a z
          exact ⟨b1, xs, by rw [upd_ne this]; exact b2, b3⟩
        · rw [upd_same, List.map_append]; rfl
        · refine RowsR.snoc pF pc (by rw [upd_ne pD]; exact pH) prep (rA6.keep (fun _ _ z => z) fun a ha => ⟨(rA6.at ha).1, ?_⟩)
          exact upd_ne fun e => nDq (by rw [← e]; exact ha)
        · exact List.nodup_append.mpr ⟨nd, List.nodup_cons.mpr ⟨by simp, List.nodup_nil⟩, fun a ha b hb e => pq (by rw [List.mem_singleton] at hb; rw [← hb, ← e]; exact ha)⟩
        · rw [List.mem_append, List.mem_singleton]
          rintro (z | z)
          · exact nDq z
          · exact pD z.symm
        · intro q hq
          rcases List.mem_append.mp hq with hq | hq
          · exact q0 q hq
          · rw [List.mem_singleton] at hq; rw [hq]; exact hp1
        · rw [List.length_append, List.length_singleton]; omega
        · have : (fun ys m3 => Q1 (rows ++ [row] ++ ys) m3) = fun ys m3 => Q1 (rows ++ row :: ys) m3 := by funext ys m3; rw [List.append_assoc]; rfl
          rw [this]; exact q6
    · have hi' : i = its.length := by omega
      refine .inl ⟨stop hi', ?_⟩
      rw [List.drop_eq_nil_of_le (by omega)] at q'
      have q'' : Q1 (rows ++ []) m' := q'
      rw [List.append_nil] at q''
      have f2 := f1.trans fr
      refine k Dl qs rows H' F' m' r' f2 ⟨hD0, nF, cD, hA, nDq, nd, rA, fun q hq => ?_⟩ q''
      have h1 := q0 q hq
      cases z : H q with
      | none => rfl
      | some o => exact (f1.sm z (rA.at hq).2.1 h1).elim⟩
abbrev AllB' (X : Cx) (scope : Scope) (Z : Cx → Prop) : Prop := ∀ (s : Shared) (H : Hp) (C : Addr) (cl : List (Str × Addr)) (fp : List Addr), Z (X.blk s H scope (compEnvC scope cl C X.env) fp)
theorem gnt_lc {vs : List Nat} (hc : X.calm = true) (hN : X.N.Nodup) (hi : GI true g X tg iter di) (ok : BlkOk X.N X.env.scope scope own) (hg : AllB' X scope fun Y => GG g Y tg T f js) (he : AllB' X scope fun Y => GN g Y elt de)
    (hv : own.map (·.2) = vs := by rfl) (hj : ∀ j ∈ js, j ∈ own.map (·.2) := by decide) (hs : ∀ x, foldedSetIterable iter X.env x = pure x := by intro _; rfl) : GNt g X (.ListComp elt [⟨tg, iter, [], 0⟩] scope pos) (dLt di f de vs) := by
  subst hv
  exact ⟨fun pins s σ H Q I q => (pe_lc (wi := tI X.K g true di) (g := T) (tt := tT X.K g dYes) (te := tN X.K g de) hc hN hi ok (fun s H C cl fp => (hg s H C cl fp).pg) (fun s H C cl fp => gts_nil) (fun s H C cl fp => he s H C cl fp) hs).run pins s σ H Q I (lct_weak (T := T) _ hj (hg s H 0 [] []).ok σ H Q q)⟩
def dConsT (d : DR) (r : DA) : DA := fun env m Q => d env m fun rows m1 => r env m1 fun as m2 => ∀ qs, Q (.tb qs rows :: as) m2
theorem gmx_tab {e : Expr} {es : List Expr} {d : DR} {dr : DA} (ha : GNt g X e d) (hr : GMx g X es dr) (hs : starEach (e :: es) X.env = (false, eval e X.env) :: starEach es X.env := by rfl) : GMx g X (e :: es) (dConsT d dr) := PA.weak (pa_cons ha hr hs) fun σ H Q ⟨c, F, env, m, Q1, rl, hd, k⟩ =>
  ⟨c, F, env, m, _, rl, hd, fun p qs rows H1 F1 m1 r1 f1 t q1 => ⟨c, F1, env, m1, _, r1, q1, fun vs H2 F2 m2 as r2 f2 it q2 => by
    refine k _ H2 F2 m2 _ r2 (f1.trans f2) (.cons (s := .tb qs rows) (t.slr.mono f2) (fun a ha => ⟨t.zero a ha, fun z => ?_⟩) (it.lower (fresh_back f1))) (q2 qs)
    obtain ⟨_, _, u, hu⟩ := t.slr.at ha
    rw [(it.own a z).1] at hu; cases hu⟩⟩
def dAugT (op : Int → Int → Int) (i : Nat) (d1 d2 d3 : DE) : DS := fun env m E => ∃ qs rows, env[i]? = some (.tb qs rows) ∧ d1 env m fun x m1 => ∃ (a : Nat) (row : List D), x = .int (a : Nat) ∧ rows[a]? = some row ∧ d2 env m1 fun y m2 => ∃ (b : Nat) (v : Int), y = .int (b : Nat) ∧ row[b]? = some (.int v) ∧
  d3 env m2 fun z m3 => ∃ w : Int, z = .int w ∧ E.nx (env.set i (.tb qs (rows.set a (row.set b (.int (op v w)))))) m3
theorem tab_at {K : PySem.W.Frag} {c : Option Addr} {F H : Hp} {env : Env'} {m : Nat} {σ : St} {i : Nat} {qs : List Addr} {rows : List (List D)} (r : Rel K g c F env m σ H) (ho : env[i]? = some (.tb qs rows)) :
    ∃ p, σ[i]? = some (some (.ref p)) ∧ F p = none ∧ c ≠ some p ∧ H p = some (.lst (qs.map V.ref)) ∧ p ∉ qs ∧ qs.Nodup ∧ RowsR K g c F H rows qs := r.slot i _ ho
theorem RowsR.get {K : PySem.W.Frag} {c : Option Addr} {F H : Hp} : ∀ {rows : List (List D)} {qs : List Addr} {a : Nat} {row : List D}, RowsR K g c F H rows qs → rows[a]? = some row → ∃ q xs, qs[a]? = some q ∧ H q = some (.lst xs) ∧ RepL K g F row xs
  | _, _, _, _, .nil, h => by simp at h
  | _, _, 0, _, .cons _ _ h3 h4 _, h => by simp at h; subst h; exact ⟨_, _, rfl, h3, h4⟩
  | _, _, a + 1, _, .cons _ _ _ _ t, h => by
    obtain ⟨q, xs, h1, h2, h3⟩ := t.get (a := a) (by simpa using h)
    exact ⟨q, xs, by simpa using h1, h2, h3⟩
theorem RowsR.set {K : PySem.W.Frag} {c : Option Addr} {F H : Hp} {q : Addr} {row : List D} {xs : List V} (rl : RepL K g F row xs) : ∀ {rows : List (List D)} {qs : List Addr} {a : Nat}, RowsR K g c F H rows qs → qs.Nodup → qs[a]? = some q → RowsR K g c F (upd H q (.lst xs)) (rows.set a row) qs
  | _, _, _, .nil, _, h => by simp at h
  | _, _, 0, .cons h1 h2 h3 h4 t, nd, h => by
    simp at h; subst h
    refine .cons h1 h2 upd_same rl (t.keep (fun _ _ z => z) fun a ha => ⟨(t.at ha).1, ?_⟩)
    exact upd_ne fun e => (List.nodup_cons.mp nd).1 (by rw [← e]; exact ha)
  | _, _, a + 1, .cons h1 h2 h3 h4 t, nd, h => by
    rw [List.getElem?_cons_succ] at h
    refine .cons h1 h2 ?_ h4 (t.set rl (a := a) (List.nodup_cons.mp nd).2 h)
    rw [upd_ne fun e => (List.nodup_cons.mp nd).1 (by rw [e]; exact List.mem_of_getElem? h)]; exact h3
theorem Rel.mutT {K : PySem.W.Frag} {c : Option Addr} {F H : Hp} {env : Env'} {m : Nat} {σ : St} {i a : Nat} {q : Addr} {qs : List Addr} {rows : List (List D)} {row : List D} {xs : List V} (r : Rel K g c F env m σ H) (ho : env[i]? = some (.tb qs rows)) (hq : qs[a]? = some q) (rl : RepL K g F row xs) :
    Rel K g c F (env.set i (.tb qs (rows.set a row))) m σ (upd H q (.lst xs)) ∧ Evo c (Own env σ) F H (Own (env.set i (.tb qs (rows.set a row))) σ) F (upd H q (.lst xs)) := by
  obtain ⟨p, hs, h1, h2, h3, h4, h5, h6⟩ := tab_at r ho
  have mq := List.mem_of_getElem? hq
  refine r.mutS ho (fun a => by rw [hs]; rfl) (fun a ha => ?_) ?_
  · rw [hs, show (Sl.tb qs rows).adr (some (some (.ref p))) = p :: qs from rfl] at ha
    exact upd_ne fun e => ha (by rw [e]; exact List.mem_cons_of_mem _ mq)
  · rw [hs]
    exact ⟨p, rfl, h1, h2, by rw [upd_ne fun e => h4 (by rw [e]; exact mq)]; exact h3, h4, h5, h6.set rl h5 hq⟩
theorem gs_augT {op : Operator} {fo : Int → Int → Int} (i : Nat) {x : Str} {e1 e2 e3 : Expr} {d1 d2 d3 : DE} {p1 tpos spos : Pos} (hip : PIp X op (ipI fo)) (h1 : GE g X e1 d1) (h2 : GE g X e2 d2) (h3 : GE g X e3 d3) (hN : X.N[i]? = some x := by rfl) (hv : Vis X.env.scope x := by first | exact Or.inl rfl | exact Or.inr (Or.inl rfl) | exact Or.inr (Or.inr rfl)) (hd : (x == ("__debug__" : Str)) = false := by decide)
    (hcd : (x == ("__classdict__" : Str)) = false := by decide) (hpl : PlainIx e1 := by intro _ _; rfl) (ha : ∀ ov iv new, augStore e2 ov iv new = (do holding [new, ov, iv] (setItem ov iv new); release [new, ov, iv] []; pure .next) := by intros; rfl) : GS g X (.AugAssign (.Subscript (.Subscript (.Name x p1) e1 spos) e2 tpos) op e3 pos) (dAugT fo i d1 d2 d3) :=
  PS.weak (ps_augS (pe_ix ix_list (pe_var hN hv hd hcd) h1 hpl) h2 get_listN h3 hip set_list ha) fun D σ H ⟨c, F, env, m, E, r, ⟨qs, rows, ho, h⟩, o⟩ => by
    obtain ⟨p, hs, _, _, hp, _⟩ := tab_at r ho
    refine ⟨.ref p, hs, c, F, env, m, _, r, h, fun kv H1 F1 m1 y r1 f1 rp ⟨a, row, ek, hrow, q1⟩ => ?_⟩
    subst ek
    cases rp
    obtain ⟨p1, hs1, _, _, hp1, _, _, rs1⟩ := tab_at r1 ho
    rw [hs] at hs1
    cases hs1
    obtain ⟨q, xs, hq, hH, rl⟩ := rs1.get hrow
    refine ⟨p, qs.map V.ref, (a : Nat), .ref q, rfl, rfl, SqL.of hp1, atI_nat (by rw [List.getElem?_map, hq]; rfl), c, F1, env, m1, _, r1, q1, fun kv2 H2 F2 m2 y2 r2 f2 rp2 ⟨b, v, ek2, hv2, q2⟩ => ?_⟩
    subst ek2
    cases rp2
    obtain ⟨p2, hs2, _, _, hp2, _, _, rs2⟩ := tab_at r2 ho
    obtain ⟨q', xs2, hq2, hH2, rl2⟩ := rs2.get hrow
    rw [hq] at hq2
    cases hq2
    obtain ⟨w, hw, rw1⟩ := rl2.get hv2
    cases rw1
    refine ⟨q, xs2, b, .int v, rfl, rfl, SqL.of hH2, hw, c, F2, env, m2, _, r2, q2, fun vv H3 F3 m3 z r3 f3 rp3 ⟨u, ez, q3⟩ => ?_⟩
    subst ez
    cases rp3
    refine ⟨v, u, rfl, rfl, ?_⟩
    obtain ⟨p3, hs3, _, _, hp3, _, _, rs3⟩ := tab_at r3 ho
    obtain ⟨q', xs3, hq3, hH3, rl3⟩ := rs3.get hrow
    rw [hq] at hq3
    cases hq3
    obtain ⟨r4, v4⟩ := r3.mutT ho hq (rl3.set (.int (fo v u)) b)
    have hlt : b < row.length := (List.getElem?_eq_some_iff.mp hv2).1
    have hix : ixN xs3.length (b : Nat) = some b := by
      have := rl3.length
      unfold ixN
      rw [if_pos (by omega), if_pos (by omega), Int.toNat_natCast]
    exact ⟨q, xs3, (b : Nat), b, rfl, rfl, hH3, hix, o.nx σ _ F3 _ m3 r4 ((r.evo ((f1.trans f2).trans f3)).trans v4) q3⟩
end
end G
namespace G
open PySem L2
section
variable {g : Gp} {K : PySem.W.Frag}
theorem rows_rep {c : Option Addr} {F H F' : Hp} (ex : Ex F F') : ∀ {rows : List (List D)} {qs : List Addr}, RowsR K g c F H rows qs → (∀ q ∈ qs, F' q = H q) → RepL K g F' (rows.map D.lst) (qs.map V.ref)
  | _, _, .nil, _ => .nil
  | _, _, .cons h1 h2 h3 h4 t, k => .cons (.lst (by rw [k _ (by simp)]; exact h3) (RepL.mono ex h4)) (rows_rep ex t fun q hq => k q (by simp [hq]))
open Classical in
theorem Rel.freezeT {c : Option Addr} {F H : Hp} {env : Env'} {m : Nat} {σ : St} {i : Nat} {qs : List Addr} {rows : List (List D)} (r : Rel K g c F env m σ H) (ho : env[i]? = some (.tb qs rows)) :
    ∃ F', Rel K g c F' (env.set i (.val (.lst (rows.map D.lst)))) m σ H ∧ Evo c (Own env σ) F H (Own (env.set i (.val (.lst (rows.map D.lst)))) σ) F' H := by
  obtain ⟨p, hs, h1, h2, h3, h4, h5, h6⟩ := tab_at r ho
  let F' : Hp := fun a => if a = p ∨ a ∈ qs then H a else F a
  have F'y : ∀ a, (a = p ∨ a ∈ qs) → F' a = H a := fun a h => if_pos h
  have F'n : ∀ a, ¬ (a = p ∨ a ∈ qs) → F' a = F a := fun a h => if_neg h
  have ex : Ex F F' := fun a o h => by
    rw [F'n a]
    · exact h
    · rintro (z | z)
      · rw [z, h1] at h; cases h
      · rw [(h6.at z).1] at h; cases h
  refine ⟨F', r.holdS ho ex (fun a o z => ?_) (fun a u z => ?_) hs (.lst (by rw [F'y p (.inl rfl)]; exact h3) (rows_rep ex h6 fun q hq => F'y q (.inr hq)))⟩
  · by_cases y : a = p ∨ a ∈ qs
    · rw [F'y a y] at z; exact z
    · rw [F'n a y] at z; exact r.sub a o z
  · by_cases y : a = p ∨ a ∈ qs
    · right
      rw [hs, show (Sl.tb qs rows).adr (some (some (.ref p))) = p :: qs from rfl]
      rcases y with rfl | y
      · simp
      · exact List.mem_cons_of_mem _ y
    · rw [F'n a y] at z; exact .inl z
def dFreezeT (i : Nat) (s : DS) : DS := fun env m E => ∃ qs rows, env[i]? = some (.tb qs rows) ∧ s (env.set i (.val (.lst (rows.map D.lst)))) m E
theorem frT_weak {i : Nat} {s : DS} : ∀ D σ H, tSD K g (dFreezeT i s) D σ H → tSD K g s D σ H := fun D σ H ⟨c, F, env, m, E, r, ⟨qs, rows, ho, h⟩, o⟩ => by
  obtain ⟨F', r', v⟩ := r.freezeT ho
  exact ⟨c, F', _, m, E, r', h, o.shift v⟩
theorem gs_freezeT {X : Cx} (i : Nat) {st : Stmt} {s : DS} (h : GS g X st s) : GS g X st (dFreezeT i s) := PS.weak h frT_weak
end
abbrev SpecT := List Sl → Nat → (List (List D) → Nat → Prop) → Prop
def spOfT (K : PySem.W.Frag) (g : Gp) (S : SpecT) : Sp := fun vs H Q _ => ∃ c F as m Q', Ex F H ∧ ArgsR K g c F as vs ∧ Ck g c m F H ∧ S as m Q' ∧
  ∀ p qs rows H' F' m', Fresh c F H F' H' → Ck g c m' F' H' → TabNew K g c H F' H' p qs rows → Q' rows m' → Q (.ref p) H'
def dCallT (S : SpecT) (da : DA) : DR := fun env m Q => da env m fun as m1 => S as m1 Q
theorem TabNew.lower {K : PySem.W.Frag} {g : Gp} {c : Option Addr} {H0 H F' H' : Hp} {p : Addr} {qs : List Addr} {rows : List (List D)} (k : ∀ a, H a = none → c ≠ some a → H0 a = none) (t : TabNew K g c H F' H' p qs rows) : TabNew K g c H0 F' H' p qs rows :=
  ⟨k p t.p0 t.pc, t.pF, t.pc, t.pH, t.pq, t.nd, t.rs, fun q hq => k q (t.q0 q hq) (t.rs.at hq).2.1⟩
section
variable {g : Gp} {X : Cx} {k : Nat} {f : Addr} {fd : FuncData} {ps : List Str} {S : SpecT} {x : Str} {p pos : Pos} {e : Expr} {es : List Expr} {da : DA}
theorem callT_weak : ∀ σ H Q, tNt X.K g (dCallT S da) σ H Q → tCall (spOfT X.K g S) [] E0 (tAr X.K g da) σ H Q := fun σ H Q ⟨c, F, env, m, Q1, r, h, kk⟩ =>
  ⟨c, F, env, m, _, r, h, fun vs H1 F1 m1 as r1 f1 ar q => by
    refine ⟨c, F1, as, m1, Q1, r1.sub, by rw [List.append_nil]; exact ar, r1.ck, q, fun p qs rows H' F' m' f' ck' t q' => kk p qs rows H' F' m' (r1.fresh f' ck') (f1.trans f') (t.lower (fresh_back f1)) q'⟩⟩
theorem gnt_call (F : FnOk X.prog X.w X.K X.mg X.base CX0 k f fd ps (spOfT X.K g S)) (hr : Room k X.A) (hg : Gl X x) (hm : X.mg x = some (.ref f)) (hk : PySem.W.keepIn X.K (.ref f) = true) (hb : Binds X.K fd ps [])
    (ha : GA g X (e :: es) da) (hdb : (x == ("__debug__" : Str)) = false := by decide) (he : starEach (e :: es) X.env = (false, eval e X.env) :: starEach es X.env := by rfl) (hpl : (backTo pos (starEach es X.env)).any (·.1) = false := by rfl) :
    GNt g X (.Call (.Name x p) (e :: es) [] pos) (dCallT S da) := PE.weak (pe_call F hr hg hm hk hb .nil pass0 ha hdb he hpl) callT_weak
end
section
variable {P : Program} {w : World} {K : PySem.W.Frag} {mg : Str → Option Value} {base : Heap} {g : Gp}
theorem def_okT {x qual : Str} {st : Stmt} {f : Addr} {fd : FuncData} {N ps : List Str} {k : Nat} {S : SpecT} (F : Fun K x qual st f fd) (SC : FnScope N ps (defScope st)) (len : ∀ as m Q, S as m Q → as.length = ps.length) {s1 : Stmt} {e : Expr} {pos : Pos} (hbd : defBody st = [s1, .Return (some e) pos])
    (hbody : ∀ (cdv : Value) (A : Around) (outer : List Env) (s : Shared) (H : Hp) (E : XK), Room k (A.deeper (PyProof.Rows.envOfC qual (defScope st) s.heap.objs.size f cdv)) →
      ∃ d1 d2, GS g (cxOf CX0 P w K mg base N qual (defScope st) f cdv A outer s H E).nox s1 d1 ∧ GNt g (cxOf CX0 P w K mg base N qual (defScope st) f cdv A outer s H E).nox e d2 ∧ ∀ as m Q, S as m Q → d1 (pad N as) m { nx := fun env' m' => d2 env' m' Q, rt := fun _ _ => False }) :
    FnOk P w K mg base CX0 (k + 1) f fd ps (spOfT K g S) := by
  refine F.ok SC (fun vs H Q E h => ?_) (fun cdv A outer s H vs Q E hr h => ?_)
  · obtain ⟨c, F, as, m, Q', _, ar, _, hs, _⟩ := h
    rw [← ar.length]; exact len as m Q' hs
  · obtain ⟨c, F, as, m, Q', e1, ar, ck, hs, kk⟩ := h
    obtain ⟨d1, d2, g1, g2, hd⟩ := hbody cdv A outer s H E hr
    obtain ⟨rel, no⟩ := start_rel (N := N) e1 ar ck
    have toF : ∀ {O' : Addr → Prop} {F' H' : Hp}, Evo c (Own (pad N as) (L2.start N vs)) F H O' F' H' → Fresh c F H F' H' := fun v => ⟨v.ff, v.fh, fun a o h n => v.hk a o h n (no a), fun a o h => (v.new a o h).imp id fun z => z.elim id fun y => (no a y).elim, v.nc⟩
    rw [hbd]
    refine ⟨_, pss_cons g1 (pss_one (ps_ret g2)), c, F, _, m, _, rel, hd as m Q' hs, ⟨fun σ' H' F' env' m' r' v q => ?_, fun _ _ _ _ _ _ _ q => q.elim, fun _ _ _ _ _ _ _ q => q.elim, fun v H' F' m' y ck' ev rp q => q.elim⟩⟩
    refine ⟨c, F', env', m', _, r', q, fun p qs rows H2 F2 m2 r2 f2 t q2 => ?_⟩
    have f1 := toF v
    exact kk p qs rows H2 F2 m2 (f1.trans f2) r2.ck (t.lower (fresh_back f1)) q2
end
end G
namespace G
open PySem L2
section
variable {g : Gp} {X : Cx} {e e1 e2 e3 : Expr} {d1 d2 d3 : DE} {pos p1 spos tpos : Pos} {K : PySem.W.Frag}
end
end G
namespace G
open PySem L2
section
variable {K : PySem.W.Frag} {g : Gp} {X : Cx}
end
section
variable {g : Gp} {X : Cx} {kx vx tg iter : Expr} {scope : Scope} {own : List (Str × Nat)} {pos p dpos : Pos} {di : DL} {T : TG} {f : D → Env' → Option Env'} {js : List Nat} {dk dv : DE}
end
section
variable {g : Gp} {X : Cx} {e : Expr} {d : DE} {pos : Pos}
def dCatPop (i j : Nat) (d : DE) : DS := fun env m E => ∃ (a : Str) (es : List D), env[i]? = some (.val (.str a)) ∧ env[j]? = some (.own es) ∧ i ≠ j ∧ d env m fun x m1 => ∃ (k : Nat) (b : Str), x = .int k ∧ es[k]? = some (.str b) ∧ es.length ≤ LL ∧ a.length + b.length ≤ LL ∧ E.nx ((env.set j (.own (es.eraseIdx k))).set i (.val (.str (a ++ b)))) m1
theorem gs_catPop (i j : Nat) {x y : Str} {p0 p1 p2 q1 q2 q3 : Pos} (hnd : X.N.Nodup) (hl : Loc X.env.scope x) (he : GE g X e d) (hN : X.N[i]? = some x := by rfl) (hv : Vis X.env.scope x := by first | exact Or.inl rfl | exact Or.inr (Or.inl rfl) | exact Or.inr (Or.inr rfl)) (hd : (x == ("__debug__" : Str)) = false := by decide)
    (hcd : (x == ("__classdict__" : Str)) = false := by decide) (hN2 : X.N[j]? = some y := by rfl) (hv2 : Vis X.env.scope y := by first | exact Or.inl rfl | exact Or.inr (Or.inl rfl) | exact Or.inr (Or.inr rfl)) (hd2 : (y == ("__debug__" : Str)) = false := by decide)
    (hcd2 : (y == ("__classdict__" : Str)) = false := by decide) (hs : starEach [e] X.env = (false, eval e X.env) :: starEach [] X.env := by rfl)
    (hb2 : attributeBase (.Name y q1) "pop" X.env (eval (.Name y q1) X.env) = eval (.Name y q1) X.env := by rfl) (hl2 : (q2.endLine == q3.line) = true := by rfl)
    (hf2 : ((backTo q3 (starEach [e] X.env)).all (fun x => !x.1) && (backToKw q3 (keywordEach [] X.env)).all (fun x => x.1.isSome) && decide ([e].length + ([] : List Keyword).length + (if ([] : List Keyword).isEmpty then 0 else 1) < 30)) = true := by rfl)
    (hsw : swapsWith (.BinOp (.Name x p1) .Add (.Call (.Attribute (.Name y q1) "pop" q2) [e] [] q3) p2) (some (.Name x p0)) pos.line X.env = pure false := by rfl)
    (hf : X.fn x = true ∨ X.env.scope.names.lookup x = some .local := by first | exact .inl rfl | exact .inr rfl | assumption) :
    GS g X (.Assign [.Name x p0] (.BinOp (.Name x p1) .Add (.Call (.Attribute (.Name y q1) "pop" q2) [e] [] q3) p2) pos) (dCatPop i j d) :=
  PS.weak (ps_set hnd hN hl (pe_op op_add_str (pe_var hN hv hd hcd) (pe_bm PySem.F.plainAttrs_list PySem.F.slot_list_pop PySem.F.type_list_pop mt_popAt (pe_var hN2 hv2 hd2 hcd2) (pa_cons he pa_nil hs) hb2 hf2 hl2 hs rfl)) hsw hf) fun D σ H ⟨c, F, env, m, E, r, ⟨a, es, ho, ho2, hij, q⟩, o⟩ => by
    obtain ⟨v0, e1, rv0⟩ := r.slot i _ ho
    cases rv0
    obtain ⟨p', xs', e2, hp', rl', nc'⟩ := own_at r ho2
    refine ⟨.str a, e1, .ref p', e2, .inl ⟨rfl, xs', SqL.of hp'⟩, c, F, env, m, _, r, q, fun v H1 F1 m1 w r1 f1 rp ⟨k, b, ew, hy, hl, hl2, q1⟩ => ?_⟩
    subst ew
    cases rp
    obtain ⟨pa, xa, ea, ha, ra, na⟩ := own_at r1 ho2
    rw [e2] at ea
    cases ea
    obtain ⟨u, hu, ru⟩ := ra.get hy
    cases ru
    have hk : k < xa.length := (List.getElem?_eq_some_iff.mp hu).1
    have hxl : xa.length ≤ LL := by rw [ra.length]; exact hl
    obtain ⟨r2, v2⟩ := r1.mut ho2 e2 (ra.eraseIdx k)
    have hk2 : (k : Int) < 2 ^ 63 := by
      have : k < 100000 := Nat.lt_of_lt_of_le hk hxl
      omega
    refine ⟨p', xa, (k : Int), k, .str b, rfl, rfl, ha, by omega, hk2, PySem.seqIndex_of (by omega) (by omega), hu, a, b, rfl, rfl, ll hl2, o.nx _ _ F1 _ m1 (r2.setV (.str (a ++ b))) (((r.evo f1).trans v2).trans (evo_setV r2 (Fresh.refl r2.sub r2.ck))) q1⟩
end
end G
namespace HT
open PySem PyProof.Rows
section
variable {prog : Program} {w : World} {A : Around} {E : Value → Shared → Prop} {s : Shared}
end
end HT
namespace G
open PySem L2
section
variable {X : Cx}
end
section
variable {g : Gp} {X : Cx} {e : Expr} {d : DE} {pos : Pos}
end
end G
namespace G
open PySem L2
section
variable {K : PySem.W.Frag} {g : Gp} {X : Cx}
end
end G
namespace G
open PySem L2
section
variable {K : PySem.W.Frag} {g : Gp}
end
section
variable {g : Gp} {X : Cx} {kx vx tg : Expr} {scope : Scope} {own : List (Str × Nat)} {pos p dpos : Pos} {T : TG} {f : D → Env' → Option Env'} {js : List Nat} {dk dv : DE}
theorem KvR.at {K : PySem.W.Frag} {F : Hp} : ∀ {kds : List (Key × D)} {kvs : List (Key × V)} {i : Nat} {k : Key} {v : V}, KvR K g F kds kvs → kvs[i]? = some (k, v) → ∃ d, kds[i]? = some (k, d) ∧ Rep K g F d v
  | kds, kvs, i, k, v, h, e => by
    obtain ⟨h1, h2⟩ := h.to
    have hl := h.length
    have hi : i < kds.length := by have := (List.getElem?_eq_some_iff.mp e).1; omega
    refine ⟨kds[i].2, ?_, ?_⟩
    · have e1 : (kvs.map (·.1))[i]? = some k := by rw [List.getElem?_map, e]; rfl
      rw [h1, List.getElem?_map, List.getElem?_eq_getElem hi] at e1
      rw [List.getElem?_eq_getElem hi]
      have : kds[i].1 = k := Option.some.inj e1
      rw [← this]
    · obtain ⟨w, a, b⟩ := h2.get (i := i) (d := kds[i].2) (by rw [List.getElem?_map, List.getElem?_eq_getElem hi]; rfl)
      rw [List.getElem?_map, e] at a
      cases a
      exact b
end
section
variable {g : Gp} {X : Cx} {pos : Pos}
end
end G
namespace G
open PySem L2
def reprID : List D → Option D
  | [.int i] => if i.natAbs.log2 < 1920 then some (.str (toString i)) else none
  | ds => reprD ds
end G
namespace L2
open PySem PySem.Spec PyProof.Rows
section
variable {X : Cx}
end
end L2
namespace G
open PySem L2
section
variable {g : Gp} {X : Cx} {kx vx tg iter : Expr} {scope : Scope} {own : List (Str × Nat)} {vs : List Nat} {pos p dpos spos : Pos} {di : DL} {T : TG} {f : D → Env' → Option Env'} {js : List Nat} {dk dv d : DE}
end
end G
namespace G
open PySem L2
section
variable {K : PySem.W.Frag} {g : Gp} {X : Cx} {e : Expr} {d : DE} {pos : Pos}
def fdivWD : D → D → Option D
  | .int i, .int j => if 0 < j ∧ j.natAbs.log2 < 9000 then some (.int (i / j)) else none
  | _, _ => none
end
end G
namespace G
open PySem L2
section
variable {X : Cx}
end
open PySem.W (dataLe AllAlike Sortable EachIs dataLt alike alikeAll)
section
variable {K : PySem.W.Frag} {g : Gp}
end
section
variable {g : Gp} {X : Cx} {kx vx tg iter : Expr} {scope : Scope} {own : List (Str × Nat)} {pos p dpos : Pos} {di : DL} {T : TG} {f : D → Env' → Option Env'} {js : List Nat} {dk dv : DE}
end
end G
namespace G
open PySem L2
section
variable {g : Gp} {X : Cx} {K : PySem.W.Frag}
def scountD : D → List D → Option D
  | .str x, [.str y] => some (.int (Txt.count x y))
  | _, _ => none
theorem md_scount : MtD K g (fun x xs H Q => ∃ a b, x = .str a ∧ xs = [.str b] ∧ Q (.int (Txt.count a b)) H) scountD := fun c F H x xs z v vs Q' e nc rx rs hz k => by
  unfold scountD at hz
  split at hz
  · rename_i x y
    cases hz
    cases rs with
    | cons r1 rt =>
      cases rt
      rw [rx.str', r1.str']
      exact ⟨x, y, rfl, rfl, k _ H F (New.refl e) (.int _)⟩
  · cases hz
def dLstRg (d : DE) : DL := fun env m Q => d env m fun x m1 => ∃ n : Nat, x = .int n ∧ n ≤ LL ∧ Q (rangeD 0 (n : Nat)) m1
end
end G
namespace G
open PySem L2
section
variable {K : PySem.W.Frag} {g : Gp}
def oneShlD : D → D → Option D
  | .int i, .int j => if i = 1 ∧ 0 ≤ j ∧ j ≤ 1000 then some (.int (2 ^ j.toNat)) else none
  | _, _ => none
end
section
variable {X : Cx}
end
section
variable {g : Gp} {X : Cx} {iter e1 ek : Expr} {di : DL} {d1 dk : DE}
end
end G
namespace G
open PySem L2
section
variable {f : D → Env' → Option Env'} {dt : DT} {de : DE} {env : Env'}
theorem lcR_fm {α : Type} (e : α → D) (p : α → Bool) (v : α → D) : ∀ (xs : List α) (m : Nat) (Q : List D → Nat → Prop), (∀ a ∈ xs, ∃ env2, f (e a) env = some env2 ∧ (∀ m Q, Q (p a) m → dt env2 m Q) ∧ (p a = true → ∀ m Q, Q (v a) m → de env2 m Q)) →
    Q ((xs.filter p).map v) m → LcR f dt de env (xs.map e) m Q
  | [], m, Q, _, q => q
  | a :: r, m, Q, h, q => by
    obtain ⟨env2, e1, h1, h2⟩ := h a (by simp)
    refine ⟨env2, e1, h1 m _ ?_⟩
    have hr := fun (Q' : List D → Nat → Prop) (q' : Q' ((r.filter p).map v) m) => lcR_fm e p v r m Q' (fun b hb => h b (by simp [hb])) q'
    cases hp : p a with
    | true =>
      rw [if_pos rfl]
      refine h2 hp m _ (hr _ ?_)
      rw [List.filter_cons_of_pos hp] at q
      exact q
    | false =>
      rw [if_neg (by decide)]
      refine hr _ ?_
      rw [List.filter_cons_of_neg (by rw [hp]; decide)] at q
      exact q
theorem lcR_m {α : Type} (e : α → D) (v : α → D) (xs : List α) (m : Nat) (Q : List D → Nat → Prop) (h : ∀ a ∈ xs, ∃ env2, f (e a) env = some env2 ∧ (∀ m Q, Q (v a) m → de env2 m Q)) (q : Q (xs.map v) m) : LcR f dYes de env (xs.map e) m Q :=
  lcR_fm e (fun _ => true) v xs m Q (fun a ha => by obtain ⟨env2, h1, h2⟩ := h a ha; exact ⟨env2, h1, fun _ _ q => q, fun _ => h2⟩) (by rw [List.filter_eq_self.mpr (fun _ _ => rfl)]; exact q)
end
theorem forR_ind {f : D → Env' → Option Env'} {body : DS} {E : DEnds} (I : List D → Env' → Nat → Prop) (h0 : ∀ env m, I [] env m → E.nx env m)
    (hs : ∀ d ds env m, I (d :: ds) env m → ∃ env2, f d env = some env2 ∧ ∀ K : Env' → Nat → Prop, (∀ e' m', I ds e' m' → K e' m') → body env2 m { E with nx := K, ct := K, bk := E.nx }) :
    ∀ its env m, I its env m → ForR f body its env m E
  | [], env, m, h => h0 env m h
  | d :: ds, env, m, h => by
    obtain ⟨env2, e, hb⟩ := hs d ds env m h
    exact ⟨env2, e, hb _ fun e' m' hi => forR_ind I h0 hs ds e' m' hi⟩
theorem rangeD_nat (n : Nat) : rangeD 0 (n : Int) = (List.range n).map fun i => D.int (i : Nat) := by
  unfold rangeD
  simp
theorem eqB_str (a b : Str) : eqB (.str a) (.str b) = some (decide (a = b)) := rfl
theorem eqB_int (a b : Int) : eqB (.int a) (.int b) = some (decide (a = b)) := rfl
theorem eqD_str (a b : Str) : eqD (.str a) (.str b) = some (.bl (decide (a = b))) := rfl
theorem eqD_int (a b : Int) : eqD (.int a) (.int b) = some (.bl (decide (a = b))) := rfl
theorem okdL_ints (n : Nat) : ∀ l : List Nat, okdL (l.map fun i => D.int (i : Nat)) n = true
  | [] => rfl
  | a :: r => by rw [List.map_cons]; unfold okdL; rw [okdL_ints n r]; rfl
theorem eqvL_ints : ∀ (a b : List Nat), PyData.eqvAll (pyL (a.map fun i => D.int (i : Nat))) (pyL (b.map fun i => D.int (i : Nat))) = decide (a = b) := by
  intro a
  induction a with
  | nil => intro b; cases b <;> simp [pyL, PyData.eqvAll]
  | cons x r ih =>
    intro b
    cases b with
    | nil => simp [pyL, PyData.eqvAll]
    | cons y t =>
      simp only [List.map_cons, pyL, D.py, PyData.eqvAll, ih]
      have e : PyData.eqv (.int (x : Int)) (.int (y : Int)) = decide (x = y) := by
        unfold PyData.eqv
        by_cases h : x = y
        · subst h; simp
        · have : ¬ (x : Int) = (y : Int) := fun z => h (by omega)
          simp [h, this]
      rw [e]
      by_cases h1 : x = y <;> by_cases h2 : r = t <;> simp [h1, h2]
end G
namespace T
inductive Conn (E : List (Nat × Nat)) : Nat → Nat → Prop
  | refl (a : Nat) : Conn E a a
  | tie {p : Nat × Nat} : p ∈ E → Conn E p.1 p.2
  | symm {a b : Nat} : Conn E a b → Conn E b a
  | trans {a b c : Nat} : Conn E a b → Conn E b c → Conn E a c
theorem Conn.mono {E F : List (Nat × Nat)} (h : ∀ p ∈ E, Conn F p.1 p.2) {a b : Nat} (c : Conn E a b) : Conn F a b := by
  induction c with
  | refl a => exact .refl a
  | tie m => exact h _ m
  | symm _ ih => exact ih.symm
  | trans _ _ i1 i2 => exact i1.trans i2
theorem Conn.sub {E F : List (Nat × Nat)} (h : ∀ p ∈ E, p ∈ F) {a b : Nat} (c : Conn E a b) : Conn F a b := c.mono fun p m => .tie (h p m)
theorem Conn.nil {a b : Nat} (c : Conn [] a b) : a = b := by
  induction c with
  | refl a => rfl
  | tie m => cases m
  | symm _ ih => exact ih.symm
  | trans _ _ i1 i2 => exact i1.trans i2
theorem conn_add {E : List (Nat × Nat)} {u v a b : Nat} (c : Conn (E ++ [(u, v)]) a b) : Conn E a b ∨ (Conn E a u ∧ Conn E v b) ∨ (Conn E a v ∧ Conn E u b) := by
  induction c with
  | refl a => exact .inl (.refl a)
  | @tie p m =>
    rcases List.mem_append.mp m with m | m
    · exact .inl (.tie m)
    · rw [List.mem_singleton] at m
      subst m
      exact .inr (.inl ⟨.refl _, .refl _⟩)
  | symm _ ih =>
    rcases ih with h | ⟨h1, h2⟩ | ⟨h1, h2⟩
    · exact .inl h.symm
    · exact .inr (.inr ⟨h2.symm, h1.symm⟩)
    · exact .inr (.inl ⟨h2.symm, h1.symm⟩)
  | trans _ _ i1 i2 =>
    rcases i1 with h | ⟨h1, h2⟩ | ⟨h1, h2⟩ <;> rcases i2 with k | ⟨k1, k2⟩ | ⟨k1, k2⟩
    · exact .inl (h.trans k)
    · exact .inr (.inl ⟨h.trans k1, k2⟩)
    · exact .inr (.inr ⟨h.trans k1, k2⟩)
    · exact .inr (.inl ⟨h1, h2.trans k⟩)
    · exact .inr (.inl ⟨h1, k2⟩)
    · exact .inl (h1.trans k2)
    · exact .inr (.inr ⟨h1, h2.trans k⟩)
    · exact .inl (h1.trans k2)
    · exact .inr (.inr ⟨h1, k2⟩)
theorem conn_of_add {E : List (Nat × Nat)} {u v a b : Nat} (h : Conn E a b ∨ (Conn E a u ∧ Conn E v b) ∨ (Conn E a v ∧ Conn E u b)) : Conn (E ++ [(u, v)]) a b := by
  have up : ∀ {x y : Nat}, Conn E x y → Conn (E ++ [(u, v)]) x y := fun c => c.sub fun p m => List.mem_append_left _ m
  have uv : Conn (E ++ [(u, v)]) u v := .tie (p := (u, v)) (by simp)
  rcases h with h | ⟨h1, h2⟩ | ⟨h1, h2⟩
  · exact up h
  · exact (up h1).trans (uv.trans (up h2))
  · exact (up h1).trans (uv.symm.trans (up h2))
theorem conn_skip {E : List (Nat × Nat)} {u v a b : Nat} (c : Conn E u v) : Conn (E ++ [(u, v)]) a b ↔ Conn E a b := by
  constructor
  · intro h
    rcases conn_add h with h | ⟨h1, h2⟩ | ⟨h1, h2⟩
    · exact h
    · exact h1.trans (c.trans h2)
    · exact h1.trans (c.symm.trans h2)
  · exact fun h => conn_of_add (.inl h)
theorem len_le_of_sub {α : Type} [DecidableEq α] : ∀ {l m : List α}, l.Nodup → (∀ a ∈ l, a ∈ m) → l.length ≤ m.length
  | [], _, _, _ => Nat.zero_le _
  | a :: r, m, nd, h => by
    obtain ⟨n1, n2⟩ := List.nodup_cons.mp nd
    have hm := h a (by simp)
    have ih := len_le_of_sub (l := r) (m := m.erase a) n2 fun b hb => (List.mem_erase_of_ne (fun z => n1 (by rw [← z]; exact hb))).mpr (h b (by simp [hb]))
    rw [List.length_erase_of_mem hm] at ih
    have := List.length_pos_of_mem hm
    rw [List.length_cons]
    omega
theorem len_eq_of_same {α : Type} [DecidableEq α] {l m : List α} (h1 : l.Nodup) (h2 : m.Nodup) (h : ∀ a, a ∈ l ↔ a ∈ m) : l.length = m.length :=
  Nat.le_antisymm (len_le_of_sub h1 fun a ha => (h a).mp ha) (len_le_of_sub h2 fun a ha => (h a).mpr ha)
open Classical in
noncomputable def leasts (P : List Nat) (E : List (Nat × Nat)) : List Nat := P.filter fun a => decide (∀ b ∈ P, b < a → ¬ Conn E a b)
noncomputable def nc (P : List Nat) (E : List (Nat × Nat)) : Nat := (leasts P E).length
open Classical in
theorem mem_leasts {P : List Nat} {E : List (Nat × Nat)} {a : Nat} : a ∈ leasts P E ↔ a ∈ P ∧ ∀ b ∈ P, b < a → ¬ Conn E a b := by
  unfold leasts
  rw [List.mem_filter]
  constructor
  · exact fun h => ⟨h.1, of_decide_eq_true h.2⟩
  · exact fun h => ⟨h.1, decide_eq_true h.2⟩
theorem leasts_nd {P : List Nat} {E : List (Nat × Nat)} (h : P.Nodup) : (leasts P E).Nodup := h.filter _
theorem least_of {P : List Nat} {E : List (Nat × Nat)} : ∀ (n a : Nat), a ≤ n → a ∈ P → ∃ l ∈ leasts P E, Conn E a l
  | n, a, hn, ha => by
    by_cases h : ∀ b ∈ P, b < a → ¬ Conn E a b
    · exact ⟨a, mem_leasts.mpr ⟨ha, h⟩, .refl a⟩
    · obtain ⟨b, hb⟩ := Classical.not_forall.mp h
      obtain ⟨h1, hb⟩ := Classical.not_imp.mp hb
      obtain ⟨h2, h3⟩ := Classical.not_imp.mp hb
      have h3 := Classical.not_not.mp h3
      match n with
      | 0 => omega
      | n + 1 =>
        obtain ⟨l, l1, l2⟩ := least_of n b (by omega) h1
        exact ⟨l, l1, h3.trans l2⟩
theorem least_one {P : List Nat} {E : List (Nat × Nat)} {a b : Nat} (ha : a ∈ leasts P E) (hb : b ∈ leasts P E) (c : Conn E a b) : a = b := by
  obtain ⟨a1, a2⟩ := mem_leasts.mp ha
  obtain ⟨b1, b2⟩ := mem_leasts.mp hb
  rcases Nat.lt_trichotomy a b with h | h | h
  · exact absurd c.symm (b2 a a1 h)
  · exact h
  · exact absurd c (a2 b b1 h)
theorem nc_of {β : Type} [DecidableEq β] {P : List Nat} {E : List (Nat × Nat)} (nd : P.Nodup) (f : Nat → β) (hf : ∀ a ∈ P, ∀ b ∈ P, f a = f b ↔ Conn E a b) {vs : List β} (hv : vs.Nodup) (hm : ∀ x, x ∈ vs ↔ ∃ a ∈ P, f a = x) : vs.length = nc P E := by
  unfold nc
  rw [← List.length_map (f := f) (as := leasts P E)]
  refine len_eq_of_same hv ?_ fun x => ?_
  · rw [List.Nodup, List.pairwise_map]
    refine (leasts_nd nd).imp_of_mem fun {a b} ha hb hne e => hne ?_
    exact least_one ha hb ((hf a (mem_leasts.mp ha).1 b (mem_leasts.mp hb).1).mp e)
  · rw [hm, List.mem_map]
    constructor
    · rintro ⟨a, ha, rfl⟩
      obtain ⟨l, l1, l2⟩ := least_of (E := E) a a (Nat.le_refl _) ha
      exact ⟨l, l1, ((hf a ha l (mem_leasts.mp l1).1).mpr l2).symm⟩
    · rintro ⟨a, ha, rfl⟩
      exact ⟨a, (mem_leasts.mp ha).1, rfl⟩
open Classical in
theorem nc_congr {P : List Nat} {E F : List (Nat × Nat)} (h : ∀ a b, Conn E a b ↔ Conn F a b) : nc P E = nc P F := by
  unfold nc leasts
  congr 1
  apply List.filter_congr
  intro a _
  have e : (∀ b ∈ P, b < a → ¬ Conn E a b) ↔ ∀ b ∈ P, b < a → ¬ Conn F a b := ⟨fun k b hb lt c => k b hb lt ((h a b).mpr c), fun k b hb lt c => k b hb lt ((h a b).mp c)⟩
  by_cases q : ∀ b ∈ P, b < a → ¬ Conn E a b
  · rw [decide_eq_true q, decide_eq_true (e.mp q)]
  · rw [decide_eq_false q, decide_eq_false fun z => q (e.mpr z)]
theorem nc_mono {P : List Nat} {E F : List (Nat × Nat)} (nd : P.Nodup) (h : ∀ a b, Conn E a b → Conn F a b) : nc P F ≤ nc P E := by
  refine len_le_of_sub (leasts_nd nd) fun a ha => ?_
  obtain ⟨a1, a2⟩ := mem_leasts.mp ha
  exact mem_leasts.mpr ⟨a1, fun b hb lt c => a2 b hb lt (h a b c)⟩
theorem nc_le (P : List Nat) (E : List (Nat × Nat)) : nc P E ≤ P.length := List.length_filter_le _ _
open Classical in
theorem nc_nil (P : List Nat) : nc P [] = P.length := by
  unfold nc leasts
  rw [List.filter_eq_self.mpr]
  intro a _
  exact decide_eq_true fun b _ lt c => by have := c.nil; omega
theorem nc_join {P : List Nat} {E : List (Nat × Nat)} {u v : Nat} (nd : P.Nodup) (hu : u ∈ P) (hv : v ∈ P) (h : ¬ Conn E u v) : nc P (E ++ [(u, v)]) + 1 = nc P E := by
  obtain ⟨lu, u1, u2⟩ := least_of (E := E) u u (Nat.le_refl _) hu
  obtain ⟨lv, v1, v2⟩ := least_of (E := E) v v (Nat.le_refl _) hv
  have ne : lu ≠ lv := fun e => h (u2.trans (e ▸ v2.symm))
  have key : ∀ x y, x ∈ leasts P E → y ∈ leasts P E → x < y → (∀ a b, Conn (E ++ [(u, v)]) a b ↔ Conn E a b ∨ (Conn E a x ∧ Conn E y b) ∨ (Conn E a y ∧ Conn E x b)) → nc P (E ++ [(u, v)]) + 1 = nc P E := by
    intro x y hx hy lt cc
    obtain ⟨x1, x2⟩ := mem_leasts.mp hx
    obtain ⟨y1, y2⟩ := mem_leasts.mp hy
    have hlen : (leasts P E).length = (y :: leasts P (E ++ [(u, v)])).length := by
      refine len_eq_of_same (leasts_nd nd) (List.nodup_cons.mpr ⟨fun z => ?_, leasts_nd nd⟩) fun a => ?_
      · exact (mem_leasts.mp z).2 x x1 lt ((cc y x).mpr (.inr (.inr ⟨.refl _, .refl _⟩)))
      · rw [List.mem_cons]
        constructor
        · intro ha
          by_cases e : a = y
          · exact .inl e
          · refine .inr (mem_leasts.mpr ⟨(mem_leasts.mp ha).1, fun b hb l2 c => ?_⟩)
            rcases (cc a b).mp c with c | ⟨c1, c2⟩ | ⟨c1, c2⟩
            · exact (mem_leasts.mp ha).2 b hb l2 c
            · have := least_one ha hx c1
              subst this
              exact y2 b hb (by omega) c2
            · exact e (least_one ha hy c1)
        · rintro (rfl | ha)
          · exact hy
          · obtain ⟨a1, a2⟩ := mem_leasts.mp ha
            exact mem_leasts.mpr ⟨a1, fun b hb l2 c => a2 b hb l2 ((cc a b).mpr (.inl c))⟩
    unfold nc
    rw [hlen, List.length_cons]
  rcases Nat.lt_or_gt_of_ne ne with lt | lt
  · refine key lu lv u1 v1 lt fun a b => ⟨fun c => ?_, fun c => conn_of_add ?_⟩
    · rcases conn_add c with c | ⟨c1, c2⟩ | ⟨c1, c2⟩
      · exact .inl c
      · exact .inr (.inl ⟨c1.trans u2, v2.symm.trans c2⟩)
      · exact .inr (.inr ⟨c1.trans v2, u2.symm.trans c2⟩)
    · rcases c with c | ⟨c1, c2⟩ | ⟨c1, c2⟩
      · exact .inl c
      · exact .inr (.inl ⟨c1.trans u2.symm, v2.trans c2⟩)
      · exact .inr (.inr ⟨c1.trans v2.symm, u2.trans c2⟩)
  · refine key lv lu v1 u1 lt fun a b => ⟨fun c => ?_, fun c => conn_of_add ?_⟩
    · rcases conn_add c with c | ⟨c1, c2⟩ | ⟨c1, c2⟩
      · exact .inl c
      · exact .inr (.inr ⟨c1.trans u2, v2.symm.trans c2⟩)
      · exact .inr (.inl ⟨c1.trans v2, u2.symm.trans c2⟩)
    · rcases c with c | ⟨c1, c2⟩ | ⟨c1, c2⟩
      · exact .inl c
      · exact .inr (.inr ⟨c1.trans v2.symm, u2.trans c2⟩)
      · exact .inr (.inl ⟨c1.trans u2.symm, v2.trans c2⟩)
theorem nc_add {P : List Nat} {E : List (Nat × Nat)} {u v : Nat} (nd : P.Nodup) (hu : u ∈ P) (hv : v ∈ P) : nc P E ≤ nc P (E ++ [(u, v)]) + 1 := by
  by_cases h : Conn E u v
  · rw [nc_congr fun a b => conn_skip h]; omega
  · rw [nc_join nd hu hv h]; exact Nat.le_refl _
end T
namespace T
noncomputable def rk (P : List Nat) (E : List (Nat × Nat)) : Nat := P.length - nc P E
def Ok (P : List Nat) (E : List (Nat × Nat)) : Prop := ∀ p ∈ E, p.1 ∈ P ∧ p.2 ∈ P
theorem nc_same {P : List Nat} {E F : List (Nat × Nat)} (h : ∀ p, p ∈ E ↔ p ∈ F) : nc P E = nc P F :=
  nc_congr fun a b => ⟨fun c => c.sub fun p => (h p).mp, fun c => c.sub fun p => (h p).mpr⟩
theorem rk_same {P : List Nat} {E F : List (Nat × Nat)} (h : ∀ p, p ∈ E ↔ p ∈ F) : rk P E = rk P F := by unfold rk; rw [nc_same h]
theorem rk_mono {P : List Nat} {E F : List (Nat × Nat)} (nd : P.Nodup) (h : ∀ p ∈ E, Conn F p.1 p.2) : rk P E ≤ rk P F := by
  have := nc_mono (P := P) nd fun a b (c : Conn E a b) => c.mono h
  unfold rk; omega
theorem rk_nil (P : List Nat) : rk P [] = 0 := by unfold rk; rw [nc_nil]; omega
theorem rk_add {P : List Nat} {E : List (Nat × Nat)} {u v : Nat} (nd : P.Nodup) (hu : u ∈ P) (hv : v ∈ P) : rk P (E ++ [(u, v)]) ≤ rk P E + 1 := by
  have h1 := nc_add (P := P) (E := E) nd hu hv
  have h2 := nc_le P E
  have h3 := nc_le P (E ++ [(u, v)])
  unfold rk; omega
theorem rk_join {P : List Nat} {E : List (Nat × Nat)} {u v : Nat} (nd : P.Nodup) (hu : u ∈ P) (hv : v ∈ P) (h : ¬ Conn E u v) : rk P (E ++ [(u, v)]) = rk P E + 1 := by
  have h1 := nc_join (P := P) (E := E) nd hu hv h
  have h2 := nc_le P E
  unfold rk; omega
theorem rk_size {P : List Nat} (nd : P.Nodup) : ∀ (E : List (Nat × Nat)), Ok P E → rk P E ≤ E.length := by
  have : ∀ (F E : List (Nat × Nat)), Ok P F → rk P (E ++ F) ≤ rk P E + F.length := by
    intro F
    induction F with
    | nil => intro E _; rw [List.append_nil]; exact Nat.le_refl _
    | cons p r ih =>
      intro E h
      have h1 := ih (E ++ [p]) fun q hq => h q (by simp [hq])
      have h2 := rk_add (E := E) nd (h p (by simp)).1 (h p (by simp)).2
      rw [List.append_assoc] at h1
      have e : [p] ++ r = p :: r := rfl
      rw [e] at h1
      rw [List.length_cons]
      have h3 : rk P (E ++ [p]) ≤ rk P E + 1 := h2
      omega
  intro E h
  have := this E [] h
  rw [rk_nil, List.nil_append] at this
  omega
def tl (T : List (Nat × Nat)) (L : List Nat) : List (Nat × Nat) := L.map fun i => T.getD i (0, 0)
theorem tl_ok {P : List Nat} {T : List (Nat × Nat)} {L : List Nat} (h : Ok P T) (hL : ∀ i ∈ L, i < T.length) : Ok P (tl T L) := fun p hp => by
  obtain ⟨i, hi, rfl⟩ := List.mem_map.mp hp
  have := hL i hi
  rw [List.getD_eq_getElem?_getD, List.getElem?_eq_getElem this]
  exact h _ (List.getElem_mem this)
theorem tl_mem {T : List (Nat × Nat)} {L : List Nat} (hL : ∀ i ∈ L, i < T.length) : ∀ p ∈ tl T L, p ∈ T := fun p hp => by
  obtain ⟨i, hi, rfl⟩ := List.mem_map.mp hp
  rw [List.getD_eq_getElem?_getD, List.getElem?_eq_getElem (hL i hi)]
  exact List.getElem_mem _
structure Lot (n : Nat) (L : List Nat) : Prop where
  inc : L.Pairwise (· < ·)
  inb : ∀ i ∈ L, i < n
structure Tree (P : List Nat) (T : List (Nat × Nat)) (L : List Nat) : Prop where
  lot : Lot T.length L
  size : L.length = rk P T
  full : rk P (tl T L) = rk P T
def srt (l : List Nat) : List Nat := l.mergeSort fun a b => decide (a ≤ b)
theorem srt_perm (l : List Nat) : (srt l).Perm l := List.mergeSort_perm l _
theorem srt_mem {l : List Nat} {a : Nat} : a ∈ srt l ↔ a ∈ l := (srt_perm l).mem_iff
theorem srt_len (l : List Nat) : (srt l).length = l.length := (srt_perm l).length_eq
theorem srt_inc {l : List Nat} (nd : l.Nodup) : (srt l).Pairwise (· < ·) := by
  have h1 : (srt l).Pairwise fun a b => decide (a ≤ b) = true := List.pairwise_mergeSort (fun a b c h1 h2 => by simp at *; omega) (fun a b => by simp; omega) l
  have h2 : (srt l).Nodup := (srt_perm l).nodup_iff.mpr nd
  have h3 := h1.and h2
  exact h3.imp fun {a b} h => by
    have := of_decide_eq_true h.1
    have := h.2
    omega
def out (L : List Nat) (o : Nat) : List Nat := L.filter fun k => decide (k ≠ o)
def put (L : List Nat) (o i : Nat) : List Nat := srt (out L o ++ [i])
theorem mem_out {L : List Nat} {o a : Nat} : a ∈ out L o ↔ a ∈ L ∧ a ≠ o := by unfold out; rw [List.mem_filter, decide_eq_true_eq]
theorem Lot.nd {n : Nat} {L : List Nat} (h : Lot n L) : L.Nodup := h.inc.imp fun a => Nat.ne_of_lt a
theorem out_len : ∀ {L : List Nat} {o : Nat}, L.Nodup → o ∈ L → (out L o).length + 1 = L.length
  | [], _, _, h => by cases h
  | a :: r, o, nd, h => by
    obtain ⟨n1, n2⟩ := List.nodup_cons.mp nd
    unfold out
    by_cases e : a = o
    · subst e
      rw [List.filter_cons_of_neg (by simp), List.filter_eq_self.mpr, List.length_cons]
      intro b hb
      exact decide_eq_true fun z => n1 (z ▸ hb)
    · rw [List.filter_cons_of_pos (by simp [e]), List.length_cons, List.length_cons]
      have := out_len n2 (o := o) (by rcases List.mem_cons.mp h with z | z; exact absurd z.symm e; exact z)
      unfold out at this
      omega
theorem tl_len (T : List (Nat × Nat)) (L : List Nat) : (tl T L).length = L.length := by unfold tl; rw [List.length_map]
theorem lot_eq : ∀ {A B : List Nat}, A.Pairwise (· < ·) → B.Pairwise (· < ·) → (∀ a, a ∈ A ↔ a ∈ B) → A = B
  | [], [], _, _, _ => rfl
  | [], b :: _, _, _, h => absurd ((h b).mpr (by simp)) (by simp)
  | a :: _, [], _, _, h => absurd ((h a).mp (by simp)) (by simp)
  | a :: A, b :: B, hA, hB, h => by
    obtain ⟨a1, a2⟩ := List.pairwise_cons.mp hA
    obtain ⟨b1, b2⟩ := List.pairwise_cons.mp hB
    have e : a = b := by
      rcases List.mem_cons.mp ((h a).mp (by simp)) with z | z
      · exact z
      · rcases List.mem_cons.mp ((h b).mpr (by simp)) with y | y
        · exact y.symm
        · have := b1 a z; have := a1 b y; omega
    subst e
    rw [lot_eq a2 b2 fun x => ?_]
    have := h x
    simp only [List.mem_cons] at this
    constructor
    · intro hx
      rcases this.mp (.inr hx) with z | z
      · subst z; exact absurd (a1 x hx) (Nat.lt_irrefl _)
      · exact z
    · intro hx
      rcases this.mpr (.inr hx) with z | z
      · subst z; exact absurd (b1 x hx) (Nat.lt_irrefl _)
      · exact z
end T
namespace T
open PySem L2 G
def c1 (a : Nat) : Str := ⟨#[a]⟩
def tS (p : Nat × Nat) : Str := ⟨#[p.1, p.2]⟩
def plS (P : List Nat) : Str := ⟨P.toArray⟩
abbrev plD (P : List Nat) : D := .str (plS P)
def wayD (p : Nat × Nat) : D := .str (tS p)
def natD (i : Nat) : D := .int (i : Nat)
def lotD (l : List Nat) : D := .tup (l.map natD)
def webD (P : List Nat) (T : List (Nat × Nat)) : D := .web (plS P) (T.map tS)
structure PlOk (P : List Nat) : Prop where
  inc : P.Pairwise (· < ·)
  let8 : ∀ a ∈ P, 97 ≤ a ∧ a ≤ 104
  pos : 0 < P.length
  few : P.length ≤ 7
structure WbOk (P : List Nat) (T : List (Nat × Nat)) : Prop where
  pl : PlOk P
  few : T.length ≤ 11
  ties : ∀ p ∈ T, p.1 ∈ P ∧ p.2 ∈ P ∧ p.1 ≤ p.2
theorem WbOk.ok {P : List Nat} {T : List (Nat × Nat)} (h : WbOk P T) : Ok P T := fun p hp => ⟨(h.ties p hp).1, (h.ties p hp).2.1⟩
theorem PlOk.nd {P : List Nat} (h : PlOk P) : P.Nodup := h.inc.imp fun a => Nat.ne_of_lt a
structure Herds (P : List Nat) (E : List (Nat × Nat)) (hs : List (List Nat)) : Prop where
  nd : hs.Nodup
  ne : ∀ h ∈ hs, h ≠ []
  inc : ∀ h ∈ hs, h.Pairwise (· < ·)
  cov : ∀ a ∈ P, ∃ h ∈ hs, a ∈ h
  inP : ∀ h ∈ hs, ∀ a ∈ h, a ∈ P
  cls : ∀ h ∈ hs, ∀ a ∈ h, ∀ b ∈ P, b ∈ h ↔ Conn E a b
def sortH (hs : List (List Nat)) : List (List Nat) := hs.mergeSort fun a b => !D.lt (plD b) (plD a)
def SrtH (hs : List (List Nat)) : Prop := ∃ ks, hs = sortH ks
def S_are_letters : G.Spec := fun as m Q => ∃ P, PlOk P ∧ as = [.val (plD P)] ∧ Q (.bl true) m
def S_are_places : G.Spec := S_are_letters
def S_is_tie : G.Spec := fun as m Q => ∃ (P : List Nat) (p : Nat × Nat), P.length ≤ 100 ∧ p.1 ∈ P ∧ p.2 ∈ P ∧ p.1 ≤ p.2 ∧ as = [.val (plD P), .val (wayD p)] ∧ Q (.bl true) m
def S_wrong_tie : G.Spec := fun as m Q => ∃ P T, WbOk P T ∧ as = [.val (plD P), .val (.tup (T.map wayD))] ∧ Q .non m
def S_check_web : G.Spec := fun as m Q => ∃ P T, as = [.val (webD P T)] ∧ Q .non m
def S_herds_of : G.Spec := fun as m Q => ∃ P E x, PlOk P ∧ Ok P E ∧ E.length ≤ 100 ∧ (x = .lst (E.map wayD) ∨ x = .tup (E.map wayD)) ∧ as = [.val (plD P), .val x] ∧ ∀ hs, Herds P E hs → SrtH hs → Q (.lst (hs.map plD)) m
def S_every_tie : G.Spec := fun as m Q => ∃ P T, T.length ≤ 11 ∧ as = [.val (webD P T)] ∧ Q (lotD (List.range T.length)) m
def S_ties_of : G.Spec := fun as m Q => ∃ P T L x, L.length ≤ 100 ∧ (∀ i ∈ L, i < T.length) ∧ (x = lotD L ∨ x = .lst (L.map natD)) ∧ as = [.val (webD P T), .val x] ∧ Q (.lst ((tl T L).map wayD)) m
def S_pieces_of : G.Spec := fun as m Q => ∃ P T L, WbOk P T ∧ L.length ≤ 100 ∧ (∀ i ∈ L, i < T.length) ∧ as = [.val (webD P T), .val (lotD L)] ∧ ∀ hs, Herds P (tl T L) hs → SrtH hs → Q (.lst (hs.map plD)) m
def S_rank_of : G.Spec := fun as m Q => ∃ P T L, WbOk P T ∧ L.length ≤ 100 ∧ (∀ i ∈ L, i < T.length) ∧ as = [.val (webD P T), .val (lotD L)] ∧ Q (natD (rk P (tl T L))) m
def S_spare_of : G.Spec := fun as m Q => ∃ P T L, WbOk P T ∧ L.length ≤ 100 ∧ (∀ i ∈ L, i < T.length) ∧ as = [.val (webD P T), .val (lotD L)] ∧ Q (.int ((L.length : Nat) - (rk P (tl T L) : Nat) : Int)) m
def S_without : G.Spec := fun as m Q => ∃ (L : List Nat) (k : Nat), L.length ≤ 100 ∧ as = [.val (lotD L), .val (natD k)] ∧ Q (lotD (out L k)) m
def S_is_free_lot : G.Spec := fun as m Q => ∃ P T L, WbOk P T ∧ L.length ≤ 100 ∧ (∀ i ∈ L, i < T.length) ∧ as = [.val (webD P T), .val (lotD L)] ∧ Q (.bl (decide (L.length = rk P (tl T L)))) m
def Exc (P : List Nat) (T : List (Nat × Nat)) (L : List Nat) (k j : Nat) : Prop := (k ∈ L ∧ j ∉ L ∧ Tree P T (put L k j)) ∨ (k ∉ L ∧ j ∈ L ∧ Tree P T (put L j k))
def S_law_dip : G.Spec := fun as m Q => ∃ n : Int, 0 < n ∧ n < 4294967296 ∧ as = [.cask, .val (.int n)] ∧ ∀ d : Nat, (d : Int) < n → Q (.int d) m
def S_law_parts : G.Spec := fun as m Q => as = [.cask, .val (.int 4), .val (.int 6)] ∧ ∀ P T, WbOk P T → P.length ≤ 4 → T.length ≤ 6 → Q (.tup [plD P, .tup (T.map wayD)]) m
def gen : Nat → List (List Nat)
  | 0 => [[]]
  | n + 1 => gen n ++ (gen n).map fun l => l ++ [n]
def lots (n : Nat) : List (List Nat) := (gen n).mergeSort fun a b => !D.lt (lotD b) (lotD a)
def S_law_lots : G.Spec := fun as m Q => ∃ n : Nat, n ≤ 11 ∧ as = [.val (natD n)] ∧ Q (.lst ((lots n).map lotD)) m
open Classical in
noncomputable def trees (P : List Nat) (T : List (Nat × Nat)) : List (List Nat) := (lots T.length).filter fun L => decide (Tree P T L)
def S_law_trees : G.Spec := fun as m Q => ∃ P T, WbOk P T ∧ as = [.val (plD P), .val (.tup (T.map wayD))] ∧ Q (.lst ((trees P T).map lotD)) m
def ckOk : Nat → List V → Prop := fun _ xs => ∃ f s t : Int, xs = [.int f, .int s, .int t] ∧ 0 ≤ f ∧ 0 ≤ s ∧ s < 2147483629 ∧ 0 ≤ t ∧ t < 2147480009
def dMake (da : DA) : DE := fun env m Q => da env m fun as m1 => ∃ P T, WbOk P T ∧ as = [.val (plD P), .val (.tup (T.map wayD))] ∧ Q (webD P T) m1
theorem S_are_letters_len : ∀ as m Q, S_are_letters as m Q → as.length = 1 := by rintro as m Q ⟨_, _, rfl, _⟩; rfl
theorem S_are_places_len : ∀ as m Q, S_are_places as m Q → as.length = 1 := S_are_letters_len
theorem S_is_tie_len : ∀ as m Q, S_is_tie as m Q → as.length = 2 := by rintro as m Q ⟨_, _, _, _, _, _, rfl, _⟩; rfl
theorem S_wrong_tie_len : ∀ as m Q, S_wrong_tie as m Q → as.length = 2 := by rintro as m Q ⟨_, _, _, rfl, _⟩; rfl
theorem S_check_web_len : ∀ as m Q, S_check_web as m Q → as.length = 1 := by rintro as m Q ⟨_, _, rfl, _⟩; rfl
theorem S_herds_of_len : ∀ as m Q, S_herds_of as m Q → as.length = 2 := by rintro as m Q ⟨_, _, _, _, _, _, _, rfl, _⟩; rfl
theorem S_every_tie_len : ∀ as m Q, S_every_tie as m Q → as.length = 1 := by rintro as m Q ⟨_, _, _, rfl, _⟩; rfl
theorem S_ties_of_len : ∀ as m Q, S_ties_of as m Q → as.length = 2 := by rintro as m Q ⟨_, _, _, _, _, _, _, rfl, _⟩; rfl
theorem S_pieces_of_len : ∀ as m Q, S_pieces_of as m Q → as.length = 2 := by rintro as m Q ⟨_, _, _, _, _, _, rfl, _⟩; rfl
theorem S_rank_of_len : ∀ as m Q, S_rank_of as m Q → as.length = 2 := by rintro as m Q ⟨_, _, _, _, _, _, rfl, _⟩; rfl
theorem S_spare_of_len : ∀ as m Q, S_spare_of as m Q → as.length = 2 := by rintro as m Q ⟨_, _, _, _, _, _, rfl, _⟩; rfl
theorem S_without_len : ∀ as m Q, S_without as m Q → as.length = 2 := by rintro as m Q ⟨_, _, _, rfl, _⟩; rfl
theorem S_is_free_lot_len : ∀ as m Q, S_is_free_lot as m Q → as.length = 2 := by rintro as m Q ⟨_, _, _, _, _, _, rfl, _⟩; rfl
theorem S_law_dip_len : ∀ as m Q, S_law_dip as m Q → as.length = 2 := by rintro as m Q ⟨_, _, _, rfl, _⟩; rfl
abbrev padn (n : Nat) (as : List Sl) : Env' := as ++ List.replicate (n - as.length) .no
abbrev fin (Q : D → Nat → Prop) : DEnds := { nx := fun _ m => Q .non m, rt := Q }
end T
namespace T
open PySem L2 G
def d_are_letters : DS := (dSeq (dIf (dOr (dNot (dTest (dIsi isStrD (dVarB 0)))) (dTest (dOp neD (dLenDc (dISrc (dVarB 0)) (tgN 1) (dVar 1) (dC (.bl true)) [1]) (dCallB lenD0 (dConsL (dVarB 0) dNilL))))) (dRet (dC (.bl false))) dNext)
  (dRet (dCallB allD (dConsL (dNew (dLc (dISrc (dVarB 0)) (tgN 1) dYes (dOp inD (dVarB 1) (dC (.str "abcdefgh"))) [1])) dNilL))))
abbrev n_are_letters : Nat := 2
def d_are_places : DS := (dRet (dAndV (dCall S_are_letters (dConsA (dVar 0) dNilA)) (dAndV (dChain ltD leD (dC (.int 0)) (dCallB lenD0 (dConsL (dVarB 0) dNilL)) (dC (.int 7))) (dOp eqD (dNew (dCallN listD (dConsL (dVarB 0) dNilL))) (dNew (dCallN sortedD (dConsL (dVarB 0) dNilL)))))))
abbrev n_are_places : Nat := 1
def d_is_tie : DS := (dSeq (dIf (dOr (dNot (dTest (dIsi isStrD (dVarB 1)))) (dTest (dOp neD (dCallB lenD0 (dConsL (dVarB 1) dNilL)) (dC (.int 2))))) (dRet (dC (.bl false))) dNext)
  (dRet (dAndV (dOp inD (dOp ixD (dVarB 1) (dC (.int 0))) (dVarB 0)) (dAndV (dOp inD (dOp ixD (dVarB 1) (dC (.int 1))) (dVarB 0)) (dOp leD (dOp ixD (dVarB 1) (dC (.int 0))) (dOp ixD (dVarB 1) (dC (.int 1))))))))
abbrev n_is_tie : Nat := 2
def d_wrong_tie : DS := (dSeq (dFor (dIEnum (dVar 1)) (tgT (tgCons (tgN 2) (tgCons (tgN 3) tgNil)) 2) (dIf (dOr (dTest (dOp eqD (dVarB 2) (dC (.int 11)))) (dNot (dTest (dCall S_is_tie (dConsA (dVar 0) (dConsA (dVar 3) dNilA)))))) (dRet (dVar 2)) dNext))
  (dRet (dC .non)))
abbrev n_wrong_tie : Nat := 4
def d_check_web : DS := (dIf (dNot (dTest (dIsi isWebD (dVarB 0)))) dNever dNext)
abbrev n_check_web : Nat := 1
def d_herds_of : DS := (dSeq (dAsg 2 (dNew (dCallN listD (dConsL (dVarB 0) dNilL))))
  (dSeq (dFor (dISrc (dVar 1)) (tgTS (tgCons (tgN 3) (tgCons (tgN 4) tgNil)) 2) (dSeq (dAsg 5 (dNew (dLc (dISrc (dVarB 2)) (tgN 7) (dOr (dTest (dOp inD (dVarB 3) (dVarB 7))) (dTest (dOp inD (dVarB 4) (dVarB 7)))) (dVar 7) [7])))
  (dSeq (dAsg 6 (dMt D.isS joinD (dC (.str "")) (dConsL (dNew (dCallN sortedD (dConsL (dMt D.isS joinD (dC (.str "")) (dConsL (dVarB 5) dNilL)) dNilL))) dNilL)))
  (dAsg 2 (dOp addD (dNew (dLst (dConsL (dVar 6) dNilL))) (dNew (dLc (dISrc (dVarB 2)) (tgN 7) (dTest (dOp notInD (dVarB 7) (dVarB 5))) (dVar 7) [7])))))))
  (dRet (dNew (dCallN sortedD (dConsL (dVarB 2) dNilL))))))
abbrev n_herds_of : Nat := 8
def d_every_tie : DS := (dRet (dTupRg (dCallB lenD (dConsL (dVarB 0) dNilL))))
abbrev n_every_tie : Nat := 1
def d_ties_of : DS := (dRet (dNew (dLc (dISrc (dVarB 1)) (tgN 2) dYes (dOp ixD (dTs (dVar 0)) (dVarB 2)) [2])))
abbrev n_ties_of : Nat := 3
def d_pieces_of : DS := (dRet (dCall S_herds_of (dConsA (dPl (dVar 0)) (dConsA (dCall S_ties_of (dConsA (dVar 0) (dConsA (dVar 1) dNilA))) dNilA))))
abbrev n_pieces_of : Nat := 2
def d_rank_of : DS := (dRet (dOp subD (dCallB lenD0 (dConsL (dPl (dVar 0)) dNilL)) (dCallB lenD0 (dConsL (dCall S_pieces_of (dConsA (dVar 0) (dConsA (dVar 1) dNilA))) dNilL))))
abbrev n_rank_of : Nat := 2
def d_spare_of : DS := (dRet (dOp subD (dCallB lenD0 (dConsL (dVarB 1) dNilL)) (dCall S_rank_of (dConsA (dVar 0) (dConsA (dVar 1) dNilA)))))
abbrev n_spare_of : Nat := 2
def d_without : DS := (dRet (dCallB tupleD (dConsL (dNew (dLc (dISrc (dVarB 0)) (tgN 2) (dTest (dOp neD (dVarB 2) (dVarB 1))) (dVar 2) [2])) dNilL)))
abbrev n_without : Nat := 3
def d_is_free_lot : DS := (dRet (dOp eqD (dCall S_spare_of (dConsA (dVar 0) (dConsA (dVar 1) dNilA))) (dC (.int 0))))
abbrev n_is_free_lot : Nat := 2
end T
namespace T
open PySem L2 G
theorem llv : LL = 100000 := rfl
theorem plS_len (P : List Nat) : (plS P).length = P.length := rfl
theorem chars_plS (P : List Nat) : charsD (plS P) = P.map fun a => D.str (c1 a) := rfl
theorem in_pl (a : Nat) (P : List Nat) : inD (.str (c1 a)) (.str (plS P)) = some (.bl (decide (a ∈ P))) := rfl
theorem all_true {α : Type} (P : List α) : allD [.lst (P.map fun _ => D.bl true)] = some (.bl true) := by
  have e : (P.map fun _ => D.bl true) = (P.map fun _ => true).map D.bl := by rw [List.map_map]; rfl
  show (bools _).map _ = _
  rw [e, bools_of]
  simp
theorem letters_in (a : Nat) (h : 97 ≤ a ∧ a ≤ 104) : inD (.str (c1 a)) (.str "abcdefgh") = some (.bl true) := by
  have e : (Str.ofString "abcdefgh") = plS [97, 98, 99, 100, 101, 102, 103, 104] := by decide +kernel
  rw [e, in_pl]
  have : a ∈ [97, 98, 99, 100, 101, 102, 103, 104] := by simp; omega
  rw [decide_eq_true this]
theorem c1_inj {a b : Nat} (h : c1 a = c1 b) : a = b := by
  have : (c1 a).cps.toList = (c1 b).cps.toList := by rw [h]
  simpa [c1] using this
theorem dk_nodup (env : Env') (he : env.length = 2) : ∀ (P : List Nat) (ks : List Key) (m : Nat) (Q : List Key → Nat → Prop), P.Nodup → (∀ a ∈ P, ∀ k ∈ ks, k ≠ .inr (c1 a)) → Q (ks ++ P.map fun a => .inr (c1 a)) m →
    DkR (tgN 1) (dVar 1) (dC (.bl true)) env (P.map fun a => D.str (c1 a)) m ks Q
  | [], ks, m, Q, _, _, q => by
    rw [List.map_nil, List.append_nil] at q
    exact q
  | a :: r, ks, m, Q, nd, ne, q => by
    refine ⟨_, rfl, .str (c1 a), ?_, .inr (c1 a), rfl, ?_⟩
    · rw [List.getElem?_set_self (by omega)]; rfl
    · have e : putKey ks (.inr (c1 a)) = ks ++ [.inr (c1 a)] := by
        unfold putKey
        rw [if_neg]
        intro z
        obtain ⟨k, hk, h⟩ := List.any_eq_true.mp z
        exact ne a (by simp) k hk (of_decide_eq_true h)
      rw [e]
      obtain ⟨n1, n2⟩ := List.nodup_cons.mp nd
      refine dk_nodup env he r _ m Q n2 (fun b hb k hk => ?_) (by rw [List.append_assoc]; exact q)
      rcases List.mem_append.mp hk with hk | hk
      · exact ne b (by simp [hb]) k hk
      · rw [List.mem_singleton] at hk
        subst hk
        intro z
        have := c1_inj (Sum.inr.inj z)
        subst this
        exact n1 hb
theorem law_are_letters : ∀ as m Q, S_are_letters as m Q → d_are_letters (padn n_are_letters as) m (fin Q) := by
  rintro as m Q ⟨P, hP, rfl, q⟩
  have hl : P.length ≤ LL := Nat.le_trans hP.few (by decide)
  refine ⟨_, rfl, true, rfl, true, rfl, ?_⟩
  refine ⟨_, rfl, _, rfl, ?_, ?_⟩
  · rw [chars_plS, List.length_map]; exact hl
  · rw [chars_plS]
    refine dk_nodup _ rfl P [] m _ hP.nd (fun _ _ _ h => by simp at h) ?_
    refine ⟨_, rfl, .int (P.length : Nat), if_pos hl, .bl false, ?_, false, rfl, ?_⟩
    · show neD (.int _) (.int _) = _
      simp [neD, eqB_int]
    · refine ⟨_, rfl, _, rfl, ?_, ?_⟩
      · rw [chars_plS, List.length_map]; exact hl
      · rw [chars_plS]
        refine lcR_m (fun a => D.str (c1 a)) (fun _ => .bl true) P m _ (fun a ha => ⟨_, rfl, fun m Q q => ⟨_, rfl, _, letters_in a (hP.let8 a ha), q⟩⟩) ?_
        exact ⟨_, all_true P, q⟩
theorem sLt_c1 (a b : Nat) : sLt (c1 a) (c1 b) = decide (a < b) := by
  unfold sLt c1
  show decide ([a] < [b]) = _
  by_cases h : a < b
  · rw [decide_eq_true h, decide_eq_true (List.cons_lt_cons_iff.mpr (.inl h))]
  · rw [decide_eq_false h, decide_eq_false]
    intro z
    rcases List.cons_lt_cons_iff.mp z with y | ⟨_, y⟩
    · exact h y
    · exact absurd y (by simp)
theorem lt_c1 (a b : Nat) : D.lt (.str (c1 a)) (.str (c1 b)) = decide (a < b) := by
  show PySem.W.dataLt (.str (c1 a)) (.str (c1 b)) = _
  rw [PySem.W.dataLt_str, ← sLt_c1]
  rfl
theorem sort_c1 {P : List Nat} (h : P.Pairwise (· < ·)) : sortL (P.map fun a => D.str (c1 a)) = P.map fun a => D.str (c1 a) := by
  unfold sortL
  refine List.mergeSort_of_pairwise ?_
  rw [List.pairwise_map]
  refine h.imp fun {a b} hab => ?_
  rw [lt_c1]
  simp; omega
theorem okdL_c1 (n : Nat) : ∀ P : List Nat, (∀ a ∈ P, a < 1000) → okdL (P.map fun a => D.str (c1 a)) n = true
  | [], _ => rfl
  | a :: r, h => by
    rw [List.map_cons]
    unfold okdL
    rw [okdL_c1 n r fun b hb => h b (by simp [hb])]
    have : D.okd (.str (c1 a)) n = true := by
      have ha := h a (by simp)
      show PyData.strOk (c1 a) = true
      unfold PyData.strOk c1
      simp
      omega
    rw [this]; rfl
theorem eqvL_self_c1 : ∀ P : List Nat, PyData.eqvAll (pyL (P.map fun a => D.str (c1 a))) (pyL (P.map fun a => D.str (c1 a))) = true
  | [] => rfl
  | a :: r => by
    simp only [List.map_cons, pyL, D.py, PyData.eqvAll, eqvL_self_c1 r]
    simp [PyData.eqv]
theorem law_are_places : ∀ as m Q, S_are_places as m Q → d_are_places (padn n_are_places as) m (fin Q) := by
  rintro as m Q ⟨P, hP, rfl, q⟩
  have hl : P.length ≤ LL := Nat.le_trans hP.few (by decide)
  refine ⟨_, rfl, P, hP, rfl, true, rfl, ?_⟩
  refine ⟨_, rfl, .int (P.length : Nat), if_pos hl, true, ?_, ?_⟩
  · show some (D.bl (decide ((0 : Int) < (P.length : Nat)))) = _
    rw [decide_eq_true (by have := hP.pos; omega)]
  · refine ⟨.bl true, ?_, true, rfl, ?_⟩
    · show some (D.bl (decide (((P.length : Nat) : Int) ≤ 7))) = _
      rw [decide_eq_true (by have := hP.few; omega)]
    · refine ⟨_, rfl, P.map fun a => D.str (c1 a), if_pos hl, _, rfl, P.map fun a => D.str (c1 a), ?_, .bl true, ?_, q⟩
      · show (if _ then some (sortL (charsD (plS P))) else none) = _
        rw [if_pos (by rw [plS_len]; exact hl), chars_plS, sort_c1 hP.inc]
      · show (deepEq _ _).map _ = _
        unfold deepEq
        have hk := okdL_c1 59 P fun a ha => by have := hP.let8 a ha; omega
        rw [if_pos (by simp only [D.okd, hk]; rfl)]
        simp only [D.py]
        show some (D.bl (PyData.eqvAll _ _)) = _
        rw [eqvL_self_c1]
theorem ix_t0 (p : Nat × Nat) : ixD (.str (tS p)) (.int 0) = some (.str (c1 p.1)) := rfl
theorem ix_t1 (p : Nat × Nat) : ixD (.str (tS p)) (.int 1) = some (.str (c1 p.2)) := rfl
theorem law_is_tie : ∀ as m Q, S_is_tie as m Q → d_is_tie (padn n_is_tie as) m (fin Q) := by
  rintro as m Q ⟨P, p, _, h1, h2, h3, rfl, q⟩
  refine ⟨_, rfl, true, rfl, true, rfl, ?_⟩
  refine ⟨_, rfl, .int 2, rfl, .bl false, rfl, false, rfl, ?_⟩
  refine ⟨_, rfl, _, ix_t0 p, _, rfl, .bl true, ?_, true, rfl, ?_⟩
  · rw [in_pl, decide_eq_true h1]
  · refine ⟨_, rfl, _, ix_t1 p, _, rfl, .bl true, ?_, true, rfl, ?_⟩
    · rw [in_pl, decide_eq_true h2]
    · refine ⟨_, rfl, _, ix_t0 p, _, rfl, _, ix_t1 p, .bl true, ?_, q⟩
      show some (D.bl (!sLt (c1 p.2) (c1 p.1))) = _
      rw [sLt_c1, decide_eq_false (by omega)]; rfl
theorem law_check_web : ∀ as m Q, S_check_web as m Q → d_check_web (padn n_check_web as) m (fin Q) := by
  rintro as m Q ⟨P, T, rfl, q⟩
  exact ⟨_, rfl, true, rfl, true, rfl, q⟩
theorem drop_cons {α : Type} {l : List α} {k : Nat} {d : α} {ds : List α} (h : d :: ds = l.drop k) : l[k]? = some d ∧ ds = l.drop (k + 1) := by
  have hk : k < l.length := by
    apply Classical.byContradiction
    intro z
    rw [List.drop_eq_nil_of_le (by omega)] at h
    cases h
  rw [List.drop_eq_getElem_cons hk] at h
  injection h with h1 h2
  exact ⟨by rw [h1]; exact List.getElem?_eq_getElem hk, h2⟩
theorem enum_get {ds : List D} {k : Nat} {x : D} (h : (enumD ds)[k]? = some x) : ∃ d, ds[k]? = some d ∧ x = .tup [.int (k : Nat), d] := by
  unfold enumD at h
  rw [List.getElem?_map, List.getElem?_zipIdx] at h
  cases e : ds[k]? with
  | none => rw [e] at h; simp at h
  | some d => rw [e] at h; simp at h; exact ⟨d, rfl, h.symm⟩
theorem law_wrong_tie : ∀ as m Q, S_wrong_tie as m Q → d_wrong_tie (padn n_wrong_tie as) m (fin Q) := by
  rintro as m Q ⟨P, T, hW, rfl, q⟩
  refine ⟨_, rfl, _, rfl, ?_⟩
  refine forR_ind (fun its env m' => m' = m ∧ (∃ x y, env = [.val (.str (plS P)), .val (.tup (T.map wayD)), x, y]) ∧ ∃ k, its = (enumD (T.map wayD)).drop k) ?_ ?_ _ _ _ ⟨rfl, ⟨_, _, rfl⟩, 0, rfl⟩
  · rintro env m' ⟨rfl, _, _⟩
    exact q
  · rintro d ds env m' ⟨rfl, ⟨x, y, rfl⟩, k, hk⟩
    obtain ⟨h1, h2⟩ := drop_cons hk
    obtain ⟨z, h3, rfl⟩ := enum_get h1
    rw [List.getElem?_map] at h3
    obtain ⟨p, hp, rfl⟩ := Option.map_eq_some_iff.mp h3
    have hkl : k < T.length := (List.getElem?_eq_some_iff.mp hp).1
    obtain ⟨t1, t2, t3⟩ := hW.ties p (List.mem_of_getElem? hp)
    have hk11 : ((k : Int) = 11) = False := by
      have := hW.few
      simp; omega
    refine ⟨_, rfl, fun K hK => ⟨_, rfl, .bl false, ?_, false, rfl, ?_⟩⟩
    · rw [eqD_int]; simp [hk11]
    · exact ⟨_, rfl, _, rfl, P, p, Nat.le_trans hW.pl.few (by decide), t1, t2, t3, rfl, true, rfl, hK _ _ ⟨rfl, ⟨_, _, rfl⟩, k + 1, h2⟩⟩
theorem empty_is : (Str.ofString "") = plS [] := by decide +kernel
theorem ix_pl {P : List Nat} {d a : Nat} (hl : P.length ≤ LL) (h : P[d]? = some a) : ixD (.str (plS P)) (.int (d : Nat)) = some (.str (c1 a)) := by
  show (if (plS P).length ≤ LL then (atI P (d : Int)).map _ else none) = _
  rw [if_pos (by rw [plS_len]; exact hl), atI_nat h]; rfl
theorem joinL_sing : ∀ cs : List Nat, TL.joinL [] (cs.map fun c => [c]) = cs
  | [] => rfl
  | [c] => rfl
  | c :: d :: r => by
    show [c] ++ ([] ++ TL.joinL [] ((d :: r).map fun c => [c])) = _
    rw [joinL_sing (d :: r)]; rfl
theorem join_c1 (cs : List Nat) : Txt.join "" (cs.map c1) = plS cs := by
  have := SX.join_S [] (cs.map fun c => [c])
  rw [joinL_sing, List.map_map] at this
  rw [empty_is]
  exact this
theorem sum_ones : ∀ cs : List Nat, (((cs.map c1).map (·.length)).sum) = cs.length
  | [] => rfl
  | c :: r => by
    rw [List.map_cons, List.map_cons, List.sum_cons, sum_ones r, List.length_cons]
    show 1 + _ = _
    omega
theorem joinD_c1 (cs : List Nat) (h : cs.length ≤ LL) : joinD (.str "") [.lst (cs.map fun c => D.str (c1 c))] = some (.str (plS cs)) := by
  have e : (cs.map fun c => D.str (c1 c)) = (cs.map c1).map D.str := by rw [List.map_map]; rfl
  show (strsD _).bind _ = _
  rw [e, strsD_of]
  show (if joinOk "" (cs.map c1) then some (D.str (Txt.join "" (cs.map c1))) else none) = _
  rw [if_pos, join_c1]
  unfold joinOk
  rw [sum_ones]
  refine decide_eq_true ?_
  have : (Str.ofString "").length = 0 := by decide +kernel
  rw [this]
  have : LL = 100000 := rfl
  omega
theorem natD_map (n : Nat) : rangeD 0 (n : Int) = (List.range n).map natD := rangeD_nat n
theorem ix_lst {α : Type} {f : α → D} {xs : List α} {i : Nat} {x : α} (h : xs[i]? = some x) : ixD (.lst (xs.map f)) (natD i) = some (f x) := by
  show atI (xs.map f) (i : Int) = _
  exact atI_nat (by rw [List.getElem?_map, h]; rfl)
theorem ix_tup {α : Type} {f : α → D} {xs : List α} {i : Nat} {x : α} (h : xs[i]? = some x) : ixD (.tup (xs.map f)) (natD i) = some (f x) := by
  show atI (xs.map f) (i : Int) = _
  exact atI_nat (by rw [List.getElem?_map, h]; rfl)
end T
namespace T
open PySem L2 G
theorem lenW (P : List Nat) (T : List (Nat × Nat)) : lenD [webD P T] = some (natD T.length) := by
  show some (D.int ((T.map tS).length : Nat)) = _
  rw [List.length_map]; rfl
theorem law_every_tie : ∀ as m Q, S_every_tie as m Q → d_every_tie (padn n_every_tie as) m (fin Q) := by
  rintro as m Q ⟨P, T, h11, rfl, q⟩
  refine ⟨_, rfl, _, lenW P T, T.length, rfl, by have := llv; omega, ?_⟩
  have e : D.tup (rangeD 0 (T.length : Nat)) = lotD (List.range T.length) := by rw [natD_map]; rfl
  rw [e]; exact q
theorem tie_get {T : List (Nat × Nat)} {i : Nat} (h : i < T.length) : T[i]? = some (T.getD i (0, 0)) := by
  rw [List.getD_eq_getElem?_getD, List.getElem?_eq_getElem h]; rfl
theorem ix_ties {T : List (Nat × Nat)} {i : Nat} (h : i < T.length) : ixD (.tup (T.map wayD)) (natD i) = some (wayD (T.getD i (0, 0))) := ix_tup (tie_get h)
theorem ts_map (T : List (Nat × Nat)) : (T.map tS).map D.str = T.map wayD := by rw [List.map_map]; rfl
theorem law_ties_of : ∀ as m Q, S_ties_of as m Q → d_ties_of (padn n_ties_of as) m (fin Q) := by
  rintro as m Q ⟨P, T, L, x, h100, hL, hx, rfl, q⟩
  have sx : srcD x = some (L.map natD) := by rcases hx with rfl | rfl <;> rfl
  refine ⟨_, rfl, _, sx, by rw [List.length_map]; have := llv; omega, ?_⟩
  refine lcR_m natD (fun i => wayD (T.getD i (0, 0))) L m _ (fun i hi => ⟨_, rfl, fun m Q q => ⟨_, rfl, plS P, T.map tS, rfl, _, rfl, wayD (T.getD i (0, 0)), ?_, q⟩⟩) ?_
  · rw [ts_map]; exact ix_ties (hL i hi)
  · unfold tl at q
    rw [List.map_map] at q
    exact q
theorem law_pieces_of : ∀ as m Q, S_pieces_of as m Q → d_pieces_of (padn n_pieces_of as) m (fin Q) := by
  rintro as m Q ⟨P, T, L, hW, h100, hL, rfl, q⟩
  exact ⟨_, rfl, plS P, T.map tS, rfl, _, rfl, _, rfl, P, T, L, _, h100, hL, .inl rfl, rfl, P, tl T L, _, hW.pl, tl_ok hW.ok hL, by rw [tl_len]; exact h100, .inl rfl, rfl, q⟩
theorem Herds.count {P : List Nat} {E : List (Nat × Nat)} {hs : List (List Nat)} (nd : P.Nodup) (h : Herds P E hs) : hs.length = nc P E := by
  classical
  have ex : ∀ a, ∃ x, a ∈ P → x ∈ hs ∧ a ∈ x := fun a => by
    by_cases ha : a ∈ P
    · obtain ⟨x, h1, h2⟩ := h.cov a ha
      exact ⟨x, fun _ => ⟨h1, h2⟩⟩
    · exact ⟨[], fun z => absurd z ha⟩
  have one : ∀ x ∈ hs, ∀ y ∈ hs, ∀ a, a ∈ x → a ∈ y → x = y := fun x hx y hy a ax ay => by
    refine lot_eq (h.inc x hx) (h.inc y hy) fun b => ?_
    constructor
    · intro hb
      exact (h.cls y hy a ay b (h.inP x hx b hb)).mpr ((h.cls x hx a ax b (h.inP x hx b hb)).mp hb)
    · intro hb
      exact (h.cls x hx a ax b (h.inP y hy b hb)).mpr ((h.cls y hy a ay b (h.inP y hy b hb)).mp hb)
  refine nc_of nd (fun a => (ex a).choose) (fun a ha b hb => ?_) h.nd fun x => ?_
  · obtain ⟨a1, a2⟩ := (ex a).choose_spec ha
    obtain ⟨b1, b2⟩ := (ex b).choose_spec hb
    constructor
    · intro e
      have e' : (ex a).choose = (ex b).choose := e
      rw [← e'] at b2
      exact (h.cls _ a1 a a2 b hb).mp b2
    · intro c
      exact one _ a1 _ b1 b ((h.cls _ a1 a a2 b hb).mpr c) b2
  · constructor
    · intro hx
      obtain ⟨a, l, e⟩ : ∃ a l, x = a :: l := by
        cases x with
        | nil => exact absurd rfl (h.ne _ hx)
        | cons a l => exact ⟨a, l, rfl⟩
      have ax : a ∈ x := by rw [e]; simp
      have ha := h.inP x hx a ax
      obtain ⟨a1, a2⟩ := (ex a).choose_spec ha
      exact ⟨a, ha, one _ a1 x hx a a2 ax⟩
    · rintro ⟨a, ha, rfl⟩
      exact ((ex a).choose_spec ha).1
theorem len_lst {α : Type} (f : α → D) (xs : List α) : lenD0 [.lst (xs.map f)] = some (natD xs.length) := by
  show some (D.int ((xs.map f).length : Nat)) = _
  rw [List.length_map]; rfl
theorem len_tup {α : Type} (f : α → D) (xs : List α) : lenD0 [.tup (xs.map f)] = some (natD xs.length) := by
  show some (D.int ((xs.map f).length : Nat)) = _
  rw [List.length_map]; rfl
theorem len_pl {P : List Nat} (h : P.length ≤ LL) : lenD0 [plD P] = some (natD P.length) := if_pos h
theorem len7 {P : List Nat} (h : PlOk P) : P.length ≤ LL := Nat.le_trans h.few (by decide)
theorem law_rank_of : ∀ as m Q, S_rank_of as m Q → d_rank_of (padn n_rank_of as) m (fin Q) := by
  rintro as m Q ⟨P, T, L, hW, h100, hL, rfl, q⟩
  refine ⟨_, rfl, plS P, T.map tS, rfl, _, len_pl (len7 hW.pl), _, rfl, _, rfl, P, T, L, hW, h100, hL, rfl, fun hs hH _ => ⟨_, len_lst plD hs, _, rfl, ?_⟩⟩
  have e1 := hH.count hW.pl.nd
  have e2 := nc_le P (tl T L)
  have e3 : ((P.length : Nat) : Int) - (hs.length : Nat) = (rk P (tl T L) : Nat) := by unfold rk; omega
  show Q (.int (((P.length : Nat) : Int) - (hs.length : Nat))) m
  rw [e3]; exact q
theorem law_spare_of : ∀ as m Q, S_spare_of as m Q → d_spare_of (padn n_spare_of as) m (fin Q) := by
  rintro as m Q ⟨P, T, L, hW, h100, hL, rfl, q⟩
  exact ⟨_, rfl, _, len_tup natD L, _, rfl, _, rfl, P, T, L, hW, h100, hL, rfl, _, rfl, q⟩
theorem ne_nat (a b : Nat) : neD (natD a) (natD b) = some (.bl (decide (a ≠ b))) := by
  show (eqB (.int (a : Nat)) (.int (b : Nat))).map _ = _
  rw [eqB_int]
  show some (D.bl (!decide ((a : Int) = (b : Nat)))) = _
  by_cases h : a = b
  · subst h; simp
  · have : ¬ (a : Int) = (b : Nat) := by omega
    simp [h, this]
theorem eq_nat (a b : Nat) : eqD (natD a) (natD b) = some (.bl (decide (a = b))) := by
  show eqD (.int (a : Nat)) (.int (b : Nat)) = _
  rw [eqD_int]
  by_cases h : a = b
  · subst h; simp
  · have : ¬ (a : Int) = (b : Nat) := by omega
    simp [h, this]
theorem law_without : ∀ as m Q, S_without as m Q → d_without (padn n_without as) m (fin Q) := by
  rintro as m Q ⟨L, k, h100, rfl, q⟩
  refine ⟨_, rfl, _, rfl, by rw [List.length_map]; have := llv; omega, ?_⟩
  exact lcR_fm natD (fun i => decide (i ≠ k)) natD L m _ (fun i hi => ⟨_, rfl, fun m Q q => ⟨_, rfl, _, rfl, _, ne_nat i k, _, rfl, q⟩, fun _ m Q q => ⟨_, rfl, q⟩⟩) ⟨_, rfl, q⟩
theorem lt_nat (a b : Nat) : D.lt (natD a) (natD b) = decide (a < b) := by
  show PySem.W.dataLt (.int (a : Nat)) (.int (b : Nat)) = _
  rw [PySem.W.dataLt_int]
  by_cases h : a < b
  · rw [decide_eq_true h, decide_eq_true]; omega
  · rw [decide_eq_false h, decide_eq_false]; omega
theorem sort_nat (l : List Nat) : sortL (l.map natD) = (srt l).map natD := by
  unfold sortL srt
  have := List.map_mergeSort (r := fun a b : Nat => decide (a ≤ b)) (s := fun a b : D => !D.lt b a) (f := natD) (l := l) (fun a _ b _ => by
    rw [lt_nat]
    by_cases h : a ≤ b
    · rw [decide_eq_true h, decide_eq_false (by omega)]; rfl
    · rw [decide_eq_false h, decide_eq_true (by omega)]; rfl)
  exact this.symm
theorem okdL_nat (n : Nat) : ∀ l : List Nat, okdL (l.map natD) n = true := okdL_ints n
theorem sortOk_nat {l : List Nat} (h : l.length ≤ LL) : sortOk (l.map natD) = true := by
  unfold sortOk
  simp only [Bool.and_eq_true, Bool.or_eq_true, decide_eq_true_eq]
  refine ⟨⟨⟨?_, .inr ?_⟩, ?_⟩, by rw [List.length_map]; exact h⟩
  · unfold alikeL
    rw [List.all_eq_true]
    intro a ha
    rw [List.all_eq_true]
    intro b hb
    obtain ⟨i, _, rfl⟩ := List.mem_map.mp ha
    obtain ⟨j, _, rfl⟩ := List.mem_map.mp hb
    rfl
  · rw [List.all_eq_true]
    intro a ha
    obtain ⟨i, _, rfl⟩ := List.mem_map.mp ha
    rfl
  · rw [List.all_eq_true]
    intro a ha
    obtain ⟨i, _, rfl⟩ := List.mem_map.mp ha
    rfl
theorem law_is_free_lot : ∀ as m Q, S_is_free_lot as m Q → d_is_free_lot (padn n_is_free_lot as) m (fin Q) := by
  rintro as m Q ⟨P, T, L, hW, h100, hL, rfl, q⟩
  refine ⟨_, rfl, _, rfl, P, T, L, hW, h100, hL, rfl, _, eqD_int _ _, ?_⟩
  have e : decide (((L.length : Nat) : Int) - (rk P (tl T L) : Nat) = 0) = decide (L.length = rk P (tl T L)) := by
    by_cases h : L.length = rk P (tl T L)
    · rw [decide_eq_true h, decide_eq_true]; omega
    · rw [decide_eq_false h, decide_eq_false]; omega
  rw [e]; exact q
theorem tl_range (T : List (Nat × Nat)) : tl T (List.range T.length) = T := by
  unfold tl
  refine List.ext_getElem (by simp) fun i h1 h2 => ?_
  rw [List.getElem_map, List.getElem_range, List.getD_eq_getElem?_getD, List.getElem?_eq_getElem h2]
  rfl
theorem Lot.few {n : Nat} {L : List Nat} (h : Lot n L) : L.length ≤ n := by
  have := len_le_of_sub (m := List.range n) h.nd fun a ha => List.mem_range.mpr (h.inb a ha)
  rwa [List.length_range] at this
theorem in_lot (a : Nat) (L : List Nat) : inD (natD a) (lotD L) = some (.bl (decide (a ∈ L))) := by
  have hf : (L.map natD).all D.flat = true := by
    rw [List.all_eq_true]
    intro x hx
    obtain ⟨i, _, rfl⟩ := List.mem_map.mp hx
    rfl
  have e : inL (natD a) (L.map natD) = decide (a ∈ L) := by
    unfold inL
    rw [List.any_map]
    by_cases h : a ∈ L
    · rw [decide_eq_true h, List.any_eq_true]
      exact ⟨a, h, by show ((a : Int) == (a : Nat)) = true; simp⟩
    · rw [decide_eq_false h, List.any_eq_false]
      intro b hb z
      have z' : ((b : Int) == (a : Nat)) = true := z
      have : b = a := by have := of_decide_eq_true (p := (b : Int) = (a : Nat)) (by simpa using z'); omega
      exact h (this ▸ hb)
  show (if (natD a).flat && (L.map natD).all D.flat then some (inL (natD a) (L.map natD)) else none).map _ = _
  rw [hf, e]; rfl
theorem out_few {L : List Nat} {k : Nat} : (out L k).length ≤ L.length := List.length_filter_le _ _
end T
namespace T
open PySem L2 G
theorem Herds.one {P : List Nat} {E : List (Nat × Nat)} {hs : List (List Nat)} (h : Herds P E hs) : ∀ x ∈ hs, ∀ y ∈ hs, ∀ a, a ∈ x → a ∈ y → x = y := fun x hx y hy a ax ay => by
  refine lot_eq (h.inc x hx) (h.inc y hy) fun b => ?_
  constructor
  · intro hb
    exact (h.cls y hy a ay b (h.inP x hx b hb)).mpr ((h.cls x hx a ax b (h.inP x hx b hb)).mp hb)
  · intro hb
    exact (h.cls x hx a ax b (h.inP y hy b hb)).mpr ((h.cls y hy a ay b (h.inP y hy b hb)).mp hb)
theorem Herds.perm {P : List Nat} {E : List (Nat × Nat)} {hs ks : List (List Nat)} (h : Herds P E hs) (p : ks.Perm hs) : Herds P E ks where
  nd := p.nodup_iff.mpr h.nd
  ne := fun x hx => h.ne x (p.mem_iff.mp hx)
  inc := fun x hx => h.inc x (p.mem_iff.mp hx)
  cov := fun a ha => by obtain ⟨x, h1, h2⟩ := h.cov a ha; exact ⟨x, p.mem_iff.mpr h1, h2⟩
  inP := fun x hx => h.inP x (p.mem_iff.mp hx)
  cls := fun x hx => h.cls x (p.mem_iff.mp hx)
def met (u v : Nat) (h : List Nat) : Bool := decide (u ∈ h) || decide (v ∈ h)
def whole (u v : Nat) (hs : List (List Nat)) : List Nat := srt (hs.filter (met u v)).flatten
theorem Herds.start {P : List Nat} (nd : P.Nodup) : Herds P [] (P.map fun a => [a]) where
  nd := by
    rw [List.Nodup, List.pairwise_map]
    exact nd.imp fun h e => h (List.head_eq_of_cons_eq e)
  ne := fun x hx => by obtain ⟨a, _, rfl⟩ := List.mem_map.mp hx; simp
  inc := fun x hx => by obtain ⟨a, _, rfl⟩ := List.mem_map.mp hx; simp
  cov := fun a ha => ⟨[a], List.mem_map.mpr ⟨a, ha, rfl⟩, by simp⟩
  inP := fun x hx b hb => by
    obtain ⟨a, ha, rfl⟩ := List.mem_map.mp hx
    rw [List.mem_singleton] at hb; subst hb; exact ha
  cls := fun x hx a ha b hb => by
    obtain ⟨c, hc, rfl⟩ := List.mem_map.mp hx
    rw [List.mem_singleton] at ha ⊢
    subst ha
    exact ⟨fun e => by rw [e]; exact .refl _, fun e => e.nil.symm⟩
theorem mem_whole {P : List Nat} {E : List (Nat × Nat)} {hs : List (List Nat)} {u v : Nat} (h : Herds P E hs) (hu : u ∈ P) (hv : v ∈ P) {a : Nat} : a ∈ whole u v hs ↔ a ∈ P ∧ (Conn E u a ∨ Conn E v a) := by
  unfold whole
  rw [srt_mem, List.mem_flatten]
  constructor
  · rintro ⟨x, hx, ha⟩
    obtain ⟨h1, h2⟩ := List.mem_filter.mp hx
    have haP := h.inP x h1 a ha
    refine ⟨haP, ?_⟩
    unfold met at h2
    simp only [Bool.or_eq_true, decide_eq_true_eq] at h2
    rcases h2 with h2 | h2
    · exact .inl ((h.cls x h1 u h2 a haP).mp ha)
    · exact .inr ((h.cls x h1 v h2 a haP).mp ha)
  · rintro ⟨haP, c | c⟩
    · obtain ⟨x, h1, h2⟩ := h.cov u hu
      exact ⟨x, List.mem_filter.mpr ⟨h1, by unfold met; simp [h2]⟩, (h.cls x h1 u h2 a haP).mpr c⟩
    · obtain ⟨x, h1, h2⟩ := h.cov v hv
      exact ⟨x, List.mem_filter.mpr ⟨h1, by unfold met; simp [h2]⟩, (h.cls x h1 v h2 a haP).mpr c⟩
theorem Herds.step {P : List Nat} {E : List (Nat × Nat)} {hs : List (List Nat)} {u v : Nat} (h : Herds P E hs) (hu : u ∈ P) (hv : v ∈ P) : Herds P (E ++ [(u, v)]) (whole u v hs :: hs.filter fun x => !met u v x) := by
  have nmet : ∀ x, (!met u v x) = true → u ∉ x ∧ v ∉ x := fun x hx => by
    unfold met at hx
    simpa using hx
  have up : ∀ {x y : Nat}, Conn E x y → Conn (E ++ [(u, v)]) x y := fun c => conn_of_add (.inl c)
  have uv : Conn (E ++ [(u, v)]) u v := .tie (p := (u, v)) (by simp)
  have uw : u ∈ whole u v hs := (mem_whole h hu hv).mpr ⟨hu, .inl (.refl _)⟩
  refine ⟨List.nodup_cons.mpr ⟨fun z => (nmet _ (List.mem_filter.mp z).2).1 uw, h.nd.filter _⟩, fun x hx => ?_, fun x hx => ?_, fun a ha => ?_, fun x hx b hb => ?_, fun x hx a ha b hb => ?_⟩
  · rcases List.mem_cons.mp hx with rfl | hx
    · exact List.ne_nil_of_mem uw
    · exact h.ne x (List.mem_filter.mp hx).1
  · rcases List.mem_cons.mp hx with rfl | hx
    · refine srt_inc ?_
      rw [List.Nodup, List.pairwise_flatten]
      refine ⟨fun y hy => (h.inc y (List.mem_filter.mp hy).1).imp fun {a b} q => Nat.ne_of_lt q, ?_⟩
      refine (h.nd.filter _).imp_of_mem fun {y z} hy hz hne a ay b bz e => ?_
      subst e
      exact hne (h.one y (List.mem_filter.mp hy).1 z (List.mem_filter.mp hz).1 a ay bz)
    · exact h.inc x (List.mem_filter.mp hx).1
  · obtain ⟨x, h1, h2⟩ := h.cov a ha
    cases e : met u v x with
    | true =>
      refine ⟨_, List.mem_cons_self, ?_⟩
      unfold whole
      rw [srt_mem, List.mem_flatten]
      exact ⟨x, List.mem_filter.mpr ⟨h1, e⟩, h2⟩
    | false => exact ⟨x, List.mem_cons_of_mem _ (List.mem_filter.mpr ⟨h1, by rw [e]; rfl⟩), h2⟩
  · rcases List.mem_cons.mp hx with rfl | hx
    · exact ((mem_whole h hu hv).mp hb).1
    · exact h.inP x (List.mem_filter.mp hx).1 b hb
  · rcases List.mem_cons.mp hx with rfl | hx
    · obtain ⟨haP, ca⟩ := (mem_whole h hu hv).mp ha
      have cu : Conn (E ++ [(u, v)]) u a := ca.elim up fun c => uv.trans (up c)
      rw [mem_whole h hu hv]
      constructor
      · rintro ⟨_, cb⟩
        exact cu.symm.trans (cb.elim up fun c => uv.trans (up c))
      · intro c
        refine ⟨hb, ?_⟩
        rcases conn_add (cu.trans c) with c | ⟨_, c⟩ | ⟨_, c⟩
        · exact .inl c
        · exact .inr c
        · exact .inl c
    · obtain ⟨h1, h2⟩ := List.mem_filter.mp hx
      obtain ⟨n1, n2⟩ := nmet x h2
      rw [h.cls x h1 a ha b hb]
      refine ⟨up, fun c => ?_⟩
      rcases conn_add c with c | ⟨c, _⟩ | ⟨c, _⟩
      · exact c
      · exact absurd ((h.cls x h1 a ha u hu).mpr c) n1
      · exact absurd ((h.cls x h1 a ha v hv).mpr c) n2
end T
namespace T
open PySem L2 G
theorem plS_inj {a b : List Nat} (h : plS a = plS b) : a = b := by
  have : (plS a).cps.toList = (plS b).cps.toList := by rw [h]
  simpa [plS] using this
theorem joinL_nil : ∀ hs : List (List Nat), TL.joinL [] hs = hs.flatten
  | [] => rfl
  | [c] => by show c = _; simp
  | c :: d :: r => by
    show c ++ ([] ++ TL.joinL [] (d :: r)) = _
    rw [joinL_nil (d :: r)]; rfl
theorem join_pl (hs : List (List Nat)) : Txt.join "" (hs.map plS) = plS hs.flatten := by
  have := SX.join_S [] hs
  rw [joinL_nil] at this
  rw [empty_is]
  exact this
theorem sum_len : ∀ hs : List (List Nat), ((hs.map plS).map (·.length)).sum = hs.flatten.length
  | [] => rfl
  | c :: r => by
    rw [List.map_cons, List.map_cons, List.sum_cons, sum_len r, List.flatten_cons, List.length_append]; rfl
theorem joinD_pl {hs : List (List Nat)} (h : hs.flatten.length ≤ LL) : joinD (.str "") [.lst (hs.map plD)] = some (plD hs.flatten) := by
  have e : hs.map plD = (hs.map plS).map D.str := by rw [List.map_map]; rfl
  show (strsD _).bind _ = _
  rw [e, strsD_of]
  show (if joinOk "" (hs.map plS) then some (D.str (Txt.join "" (hs.map plS))) else none) = _
  rw [if_pos, join_pl]
  unfold joinOk
  rw [sum_len]
  refine decide_eq_true ?_
  have : (Str.ofString "").length = 0 := by decide +kernel
  rw [this]
  have : LL = 100000 := rfl
  omega
theorem sort_c (l : List Nat) : sortL (l.map fun a => D.str (c1 a)) = (srt l).map fun a => D.str (c1 a) := by
  unfold sortL srt
  have := List.map_mergeSort (r := fun a b : Nat => decide (a ≤ b)) (s := fun a b : D => !D.lt b a) (f := fun a => D.str (c1 a)) (l := l) (fun a _ b _ => by
    rw [lt_c1]
    by_cases h : a ≤ b
    · rw [decide_eq_true h, decide_eq_false (by omega)]; rfl
    · rw [decide_eq_false h, decide_eq_true (by omega)]; rfl)
  exact this.symm
theorem sorted_pl {l : List Nat} (h : l.length ≤ LL) : sortedD [plD l] = some ((srt l).map fun a => D.str (c1 a)) := by
  show (if (plS l).length ≤ LL then some (sortL (charsD (plS l))) else none) = _
  rw [if_pos (by rw [plS_len]; exact h), chars_plS, sort_c]
theorem in_plL (h : List Nat) (ks : List (List Nat)) : inB (plD h) (.lst (ks.map plD)) = some (decide (h ∈ ks)) := by
  have hf : (ks.map plD).all D.flat = true := by
    rw [List.all_eq_true]
    intro x hx
    obtain ⟨i, _, rfl⟩ := List.mem_map.mp hx
    rfl
  have e : inL (plD h) (ks.map plD) = decide (h ∈ ks) := by
    unfold inL
    rw [List.any_map]
    by_cases q : h ∈ ks
    · rw [decide_eq_true q, List.any_eq_true]
      exact ⟨h, q, by show (plS h == plS h) = true; simp⟩
    · rw [decide_eq_false q, List.any_eq_false]
      intro b hb z
      have z' : (plS b == plS h) = true := z
      exact q (plS_inj (by simpa using z') ▸ hb)
  show (if (plD h).flat && (ks.map plD).all D.flat then some (inL (plD h) (ks.map plD)) else none) = _
  rw [hf, e]; rfl
theorem strOk_pl {l : List Nat} (h : ∀ a ∈ l, a < 1000) : PyData.strOk (plS l) = true := by
  unfold PyData.strOk plS
  simp only [Array.all_eq_true', List.mem_toArray, Bool.and_eq_true, Bool.or_eq_true, decide_eq_true_eq] <;> first | (intro a ha; have := h a ha; simp; omega) | skip
theorem sortOk_pl {hs : List (List Nat)} (h : hs.length ≤ LL) (hc : ∀ x ∈ hs, ∀ a ∈ x, a < 1000) : sortOk (hs.map plD) = true := by
  unfold sortOk
  simp only [Bool.and_eq_true, Bool.or_eq_true, decide_eq_true_eq]
  refine ⟨⟨⟨?_, .inr ?_⟩, ?_⟩, by rw [List.length_map]; exact h⟩
  · unfold alikeL
    rw [List.all_eq_true]
    intro a ha
    rw [List.all_eq_true]
    intro b hb
    obtain ⟨i, _, rfl⟩ := List.mem_map.mp ha
    obtain ⟨j, _, rfl⟩ := List.mem_map.mp hb
    rfl
  · rw [List.all_eq_true]
    intro a ha
    obtain ⟨i, _, rfl⟩ := List.mem_map.mp ha
    rfl
  · rw [List.all_eq_true]
    intro a ha
    obtain ⟨i, hi, rfl⟩ := List.mem_map.mp ha
    show PyData.strOk (plS i) = true
    exact strOk_pl (hc i hi)
theorem sort_pl (hs : List (List Nat)) : sortL (hs.map plD) = (sortH hs).map plD := by
  unfold sortL sortH
  exact (List.map_mergeSort (r := fun a b => !D.lt (plD b) (plD a)) (s := fun a b : D => !D.lt b a) (f := plD) (l := hs) (fun a _ b _ => rfl)).symm
theorem Herds.flat_nd {P : List Nat} {E : List (Nat × Nat)} {hs : List (List Nat)} (h : Herds P E hs) (c : List Nat → Bool) : (hs.filter c).flatten.Nodup := by
  rw [List.Nodup, List.pairwise_flatten]
  refine ⟨fun y hy => (h.inc y (List.mem_filter.mp hy).1).imp fun {a b} q => Nat.ne_of_lt q, ?_⟩
  refine (h.nd.filter _).imp_of_mem fun {y z} hy hz hne a ay b bz e => ?_
  subst e
  exact hne (h.one y (List.mem_filter.mp hy).1 z (List.mem_filter.mp hz).1 a ay bz)
theorem Herds.flat_le {P : List Nat} {E : List (Nat × Nat)} {hs : List (List Nat)} (h : Herds P E hs) (c : List Nat → Bool) : (hs.filter c).flatten.length ≤ P.length :=
  len_le_of_sub (h.flat_nd c) fun a ha => by
    obtain ⟨x, hx, hax⟩ := List.mem_flatten.mp ha
    exact h.inP x (List.mem_filter.mp hx).1 a hax
theorem in_c (u : Nat) (h : List Nat) : inD (.str (c1 u)) (plD h) = some (.bl (decide (u ∈ h))) := in_pl u h
theorem law_herds_of : ∀ as m Q, S_herds_of as m Q → d_herds_of (padn n_herds_of as) m (fin Q) := by
  rintro as m Q ⟨P, E, xT, hP, hE, h100, hxT, rfl, q⟩
  have hl := len7 hP
  have hsrc : srcD xT = some (E.map wayD) := by rcases hxT with rfl | rfl <;> rfl
  refine ⟨_, rfl, P.map fun a => D.str (c1 a), if_pos hl, _, rfl, _, hsrc, ?_⟩
  refine forR_ind (fun its env m' => m' = m ∧ ∃ k, k ≤ E.length ∧ its = (E.map wayD).drop k ∧ ∃ hs, Herds P (E.take k) hs ∧ ∃ a b c d e : Sl, env = [.val (plD P), .val xT, .val (.lst (hs.map plD)), a, b, c, d, e]) ?_ ?_ _ _ _ ?_
  · rintro env m' ⟨rfl, k, hk, he, hs, hH, a, b, c, d, e, rfl⟩
    have : k = E.length := by
      have z := congrArg List.length he
      simp at z
      omega
    subst this
    rw [List.take_length] at hH
    have hn := hH.count hP.nd
    have hn2 := nc_le P E
    refine ⟨_, rfl, (sortH hs).map plD, ?_, q _ (hH.perm (List.mergeSort_perm _ _)) ⟨hs, rfl⟩⟩
    show (if sortOk (hs.map plD) then some (sortL (hs.map plD)) else none) = _
    rw [if_pos (sortOk_pl (by omega) fun x hx a ha => by have := hP.let8 a (hH.inP x hx a ha); omega), sort_pl]
  · rintro d ds env m' ⟨rfl, k, hk, he, hs, hH, a, b, c, dd, e, rfl⟩
    obtain ⟨h1, h2⟩ := drop_cons he
    rw [List.getElem?_map] at h1
    obtain ⟨p, hp, rfl⟩ := Option.map_eq_some_iff.mp h1
    have hpE := hE p (List.mem_of_getElem? hp)
    have hk' : k < E.length := (List.getElem?_eq_some_iff.mp hp).1
    have hn := hH.count hP.nd
    have hn2 := nc_le P (E.take k)
    have hfew := hP.few
    have hll := llv
    have f1 := hH.flat_le (met p.1 p.2)
    have lenS : hs.length ≤ LL := by omega
    refine ⟨_, rfl, fun K hK => ?_⟩
    refine ⟨_, rfl, _, rfl, by rw [List.length_map]; exact lenS, ?_⟩
    refine lcR_fm plD (met p.1 p.2) plD hs m' _ (fun x hx => ⟨_, rfl, fun m Q q => ?_, fun _ m Q q => ⟨_, rfl, q⟩⟩) ?_
    · refine ⟨_, rfl, _, rfl, _, in_c p.1 x, _, rfl, ?_⟩
      unfold met at q
      by_cases z : p.1 ∈ x
      · simp only [decide_eq_true z, Bool.true_or] at q ⊢
        exact q
      · simp only [decide_eq_false z, Bool.false_or] at q ⊢
        exact ⟨_, rfl, _, rfl, _, in_c p.2 x, _, rfl, q⟩
    refine ⟨rfl, rfl, _, rfl, _, joinD_pl (Nat.le_trans f1 hl), _, sorted_pl (Nat.le_trans f1 hl), plD (whole p.1 p.2 hs), ?_, ?_⟩
    · exact joinD_c1 _ (by rw [srt_len]; exact Nat.le_trans f1 hl)
    refine ⟨_, rfl, by show 1 ≤ LL; omega, _, rfl, _, rfl, by rw [List.length_map]; exact lenS, ?_⟩
    refine lcR_fm plD (fun x => !met p.1 p.2 x) plD hs m' _ (fun x hx => ⟨_, rfl, fun m Q q => ⟨_, rfl, _, rfl, .bl (!met p.1 p.2 x), ?_, _, rfl, q⟩, fun _ m Q q => ⟨_, rfl, q⟩⟩) ?_
    · show (inB (plD x) (.lst ((hs.filter (met p.1 p.2)).map plD))).map _ = _
      rw [in_plL]
      show some (D.bl (!decide (x ∈ hs.filter (met p.1 p.2)))) = _
      congr 3
      cases z : met p.1 p.2 x with
      | true => exact decide_eq_true (List.mem_filter.mpr ⟨hx, z⟩)
      | false => exact decide_eq_false fun y => by rw [(List.mem_filter.mp y).2] at z; cases z
    have hst := hH.step hpE.1 hpE.2
    have etk : E.take (k + 1) = E.take k ++ [p] := by
      rw [List.take_succ_eq_append_getElem hk']
      congr 2
      exact (List.getElem?_eq_some_iff.mp hp).2
    refine ⟨.lst ((whole p.1 p.2 hs :: hs.filter fun x => !met p.1 p.2 x).map plD), ?_, hK _ _ ⟨rfl, k + 1, hk', h2, _, by rw [etk]; exact hst, _, _, _, _, _, rfl⟩⟩
    have f2 := List.length_filter_le (fun x => !met p.1 p.2 x) hs
    show (if _ then some (D.lst ([plD (whole p.1 p.2 hs)] ++ (hs.filter fun x => !met p.1 p.2 x).map plD)) else none) = _
    rw [if_pos (by show 1 + _ ≤ _; rw [List.length_map]; omega)]
    rfl
  · refine ⟨rfl, 0, Nat.zero_le _, rfl, P.map fun a => [a], Herds.start hP.nd, .no, .no, .no, .no, .no, ?_⟩
    rw [List.map_map]
    rfl
end T
namespace T
open PySem L2 G
def hdK (P : List Nat) (h : Nat → Nat) : List (Key × D) := P.map fun a => (.inr (c1 a), .str (c1 (h a)))
theorem hd_get {P : List Nat} {h : Nat → Nat} {a : Nat} (ha : a ∈ P) : kvGet (hdK P h) (.inr (c1 a)) = some (.str (c1 (h a))) := by
  unfold kvGet hdK
  induction P with
  | nil => cases ha
  | cons b r ih =>
    rw [List.map_cons, List.find?_cons]
    by_cases e : b = a
    · subst e; simp
    · have ne : ¬ (Sum.inr (c1 b) : Key) = .inr (c1 a) := fun z => e (c1_inj (Sum.inr.inj z))
      rw [decide_eq_false ne]
      exact ih (by rcases List.mem_cons.mp ha with z | z; exact absurd z.symm e; exact z)
structure HdOk (P : List Nat) (E : List (Nat × Nat)) (h : Nat → Nat) : Prop where
  iff : ∀ a ∈ P, ∀ b ∈ P, h a = h b ↔ Conn E a b
theorem HdOk.start {P : List Nat} : HdOk P [] id := ⟨fun a _ b _ => ⟨fun e => by have e' : a = b := e; rw [e']; exact .refl _, fun c => c.nil⟩⟩
theorem HdOk.step {P : List Nat} {E : List (Nat × Nat)} {h : Nat → Nat} {u v : Nat} (H : HdOk P E h) (hu : u ∈ P) (hv : v ∈ P) : HdOk P (E ++ [(u, v)]) fun x => if h x = max (h u) (h v) then min (h u) (h v) else h x := by
  refine ⟨fun a ha b hb => ?_⟩
  have k1 := H.iff a ha b hb
  have k2 := H.iff a ha u hu
  have k3 := H.iff v hv b hb
  have k4 := H.iff a ha v hv
  have k5 := H.iff u hu b hb
  have cc : Conn (E ++ [(u, v)]) a b ↔ h a = h b ∨ (h a = h u ∧ h v = h b) ∨ (h a = h v ∧ h u = h b) := by
    rw [k1, k2, k3, k4, k5]
    exact ⟨conn_add, conn_of_add⟩
  rw [cc]
  show (if h a = max (h u) (h v) then min (h u) (h v) else h a) = (if h b = max (h u) (h v) then min (h u) (h v) else h b) ↔ _
  rcases Nat.le_total (h u) (h v) with le | le
  · rw [Nat.max_eq_right le, Nat.min_eq_left le]
    constructor
    · intro e; split at e <;> split at e <;> omega
    · intro e; split <;> split <;> omega
  · rw [Nat.max_eq_left le, Nat.min_eq_right le]
    constructor
    · intro e; split at e <;> split at e <;> omega
    · intro e; split <;> split <;> omega
theorem min_c (a b : Nat) : minD2 [.str (c1 a), .str (c1 b)] = some (.str (c1 (min a b))) := by
  show some (D.str (if sLt (c1 b) (c1 a) then c1 b else c1 a)) = _
  rw [sLt_c1]
  by_cases h : b < a
  · rw [decide_eq_true h, if_pos rfl, Nat.min_eq_right (by omega)]
  · rw [decide_eq_false h, if_neg (by decide), Nat.min_eq_left (by omega)]
theorem max_c (a b : Nat) : maxD2 [.str (c1 a), .str (c1 b)] = some (.str (c1 (max a b))) := by
  show some (D.str (if sLt (c1 a) (c1 b) then c1 b else c1 a)) = _
  rw [sLt_c1]
  by_cases h : a < b
  · rw [decide_eq_true h, if_pos rfl, Nat.max_eq_right (by omega)]
  · rw [decide_eq_false h, if_neg (by decide), Nat.max_eq_left (by omega)]
theorem dix_c {P : List Nat} {h : Nat → Nat} {a : Nat} (ha : a ∈ P) : dixD (.dic (hdK P h)) (.str (c1 a)) = some (.str (c1 (h a))) := by
  show (kvGet (hdK P h) (.inr (c1 a))) = _
  exact hd_get ha
end T
namespace T
open PySem L2 G
theorem gen_len : ∀ n, (gen n).length = 2 ^ n
  | 0 => rfl
  | n + 1 => by
    unfold gen
    rw [List.length_append, List.length_map, gen_len n, Nat.pow_succ]; omega
theorem gen_head : ∀ n, ∃ r, gen n = [] :: r
  | 0 => ⟨[], rfl⟩
  | n + 1 => by
    obtain ⟨r, h⟩ := gen_head n
    unfold gen
    rw [h]
    exact ⟨_, rfl⟩
theorem gen_mem : ∀ {n : Nat} {L : List Nat}, L ∈ gen n ↔ Lot n L
  | 0, L => by
    unfold gen
    rw [List.mem_singleton]
    constructor
    · rintro rfl; exact ⟨List.Pairwise.nil, fun i hi => by cases hi⟩
    · intro h
      cases L with
      | nil => rfl
      | cons a r => exact absurd (h.inb a (by simp)) (by omega)
  | n + 1, L => by
    unfold gen
    rw [List.mem_append, List.mem_map]
    constructor
    · rintro (h | ⟨l, h, rfl⟩)
      · have := gen_mem.mp h
        exact ⟨this.inc, fun i hi => by have := this.inb i hi; omega⟩
      · have := gen_mem.mp h
        refine ⟨List.pairwise_append.mpr ⟨this.inc, List.pairwise_singleton _ _, fun a ha b hb => ?_⟩, fun i hi => ?_⟩
        · rw [List.mem_singleton] at hb; subst hb; exact this.inb a ha
        · rcases List.mem_append.mp hi with z | z
          · have := this.inb i z; omega
          · rw [List.mem_singleton] at z; omega
    · intro h
      rcases List.eq_nil_or_concat L with rfl | ⟨l, a, rfl⟩
      · exact .inl (gen_mem.mpr ⟨List.Pairwise.nil, fun i hi => by cases hi⟩)
      · rw [List.concat_eq_append] at h ⊢
        obtain ⟨h1, h2, h3⟩ := List.pairwise_append.mp h.inc
        have ha := h.inb a (by simp)
        by_cases e : a = n
        · subst e
          exact .inr ⟨l, gen_mem.mpr ⟨h1, fun i hi => h3 i hi a (by simp)⟩, rfl⟩
        · refine .inl (gen_mem.mpr ⟨h.inc, fun i hi => ?_⟩)
          rcases List.mem_append.mp hi with z | z
          · have := h3 i z a (by simp); omega
          · rw [List.mem_singleton] at z; omega
theorem lots_mem {n : Nat} {L : List Nat} : L ∈ lots n ↔ Lot n L := by
  unfold lots
  rw [(List.mergeSort_perm _ _).mem_iff, gen_mem]
theorem lots_len (n : Nat) : (lots n).length = 2 ^ n := by unfold lots; rw [List.length_mergeSort, gen_len]
theorem sort_lots (n : Nat) : sortL ((gen n).map lotD) = (lots n).map lotD := by
  unfold sortL lots
  exact (List.map_mergeSort (r := fun a b => !D.lt (lotD b) (lotD a)) (s := fun a b : D => !D.lt b a) (f := lotD) (l := gen n) (fun a _ b _ => rfl)).symm
theorem okd_lot (L : List Nat) : (lotD L).okd 60 = true := by
  show (D.tup (L.map natD)).okd 60 = true
  unfold D.okd
  rw [okdL_nat]; rfl
theorem alike_lot (A B : List Nat) : PySem.W.alike (lotD A).py (lotD B).py = true := by
  show PySem.W.alike (D.tup (A.map natD)).py (D.tup (B.map natD)).py = true
  simp only [D.py, PySem.W.alike]
  rw [pyL_map, pyL_map, List.map_map, List.map_map]
  have := PySem.W.alike_ints (A.map fun i => ((i : Nat) : Int)) (B.map fun i => ((i : Nat) : Int))
  rw [List.map_map, List.map_map] at this
  have e : D.py ∘ natD = PyData.int ∘ fun i => ((i : Nat) : Int) := by
    funext i
    show (D.int ((i : Nat) : Int)).py = _
    simp only [D.py]
    rfl
  rw [e]
  exact this
theorem sortOk0_lots {n : Nat} (h : n ≤ 11) : sortOk0 ((gen n).map lotD) = true := by
  unfold sortOk0
  simp only [Bool.and_eq_true, decide_eq_true_eq]
  refine ⟨⟨⟨⟨?_, ?_⟩, ?_⟩, ?_⟩, ?_⟩
  · unfold alikeL
    rw [List.all_eq_true]
    intro a ha
    rw [List.all_eq_true]
    intro b hb
    obtain ⟨i, _, rfl⟩ := List.mem_map.mp ha
    obtain ⟨j, _, rfl⟩ := List.mem_map.mp hb
    exact alike_lot i j
  · rw [List.all_eq_true]
    intro a ha
    obtain ⟨i, _, rfl⟩ := List.mem_map.mp ha
    rfl
  · obtain ⟨r, hr⟩ := gen_head n
    rw [hr]; rfl
  · rw [List.all_eq_true]
    intro a ha
    obtain ⟨i, _, rfl⟩ := List.mem_map.mp ha
    exact okd_lot i
  · rw [List.length_map, gen_len]
    have : 2 ^ n ≤ 2 ^ 11 := Nat.pow_le_pow_right (by decide) h
    have := llv
    omega
theorem eq_nat_t {a b : Nat} (h : a = b) : eqD (natD a) (natD b) = some (.bl true) := by rw [eq_nat, decide_eq_true h]
theorem eq_nat_f {a b : Nat} (h : a ≠ b) : eqD (natD a) (natD b) = some (.bl false) := by rw [eq_nat, decide_eq_false h]
end T
namespace T
open PySem L2 G
abbrev cD (x : Nat) : D := .str (c1 x)
theorem erase_map {α β : Type} (f : α → β) : ∀ (l : List α) (k : Nat), (l.map f).eraseIdx k = (l.eraseIdx k).map f
  | [], _ => rfl
  | _ :: _, 0 => rfl
  | a :: r, k + 1 => by simp [erase_map f r k]
theorem erase_perm : ∀ (l : List Nat) (k : Nat) (x : Nat), l[k]? = some x → (x :: l.eraseIdx k).Perm l
  | [], _, _, h => by simp at h
  | a :: r, 0, x, h => by simp at h; subst h; exact .refl _
  | a :: r, k + 1, x, h => by
    have := erase_perm r k x (by simpa using h)
    simp only [List.eraseIdx_cons_succ]
    exact (List.Perm.swap a x _).trans (this.cons a)
theorem letters_chars : charsD (Str.ofString "abcdefgh") = [97, 98, 99, 100, 101, 102, 103, 104].map cD := by
  have e : (Str.ofString "abcdefgh") = plS [97, 98, 99, 100, 101, 102, 103, 104] := by decide +kernel
  rw [e]; rfl
theorem sortOk_c1 {l : List Nat} (h : l.length ≤ LL) (hs : ∀ a ∈ l, a < 1000) : sortOk (l.map cD) = true := by
  have h0 : alikeL (l.map cD) = true := by
    unfold alikeL
    rw [List.all_map]
    refine List.all_eq_true.mpr fun a _ => ?_
    show (l.map cD).all _ = true
    rw [List.all_map]
    exact List.all_eq_true.mpr fun b _ => rfl
  have h1 : (l.map cD).all D.noT = true := by rw [List.all_map]; exact List.all_eq_true.mpr fun _ _ => rfl
  have h2 : (l.map cD).all (·.okd 60) = true := by
    rw [List.all_map]
    refine List.all_eq_true.mpr fun a ha => ?_
    show PyData.strOk (c1 a) = true
    have := hs a ha
    unfold PyData.strOk c1
    simp
    omega
  unfold sortOk
  rw [h0, h1, h2, List.length_map, decide_eq_true h, Bool.or_true]; rfl
theorem sorted_c1 {l : List Nat} (h : l.length ≤ LL) (hs : ∀ a ∈ l, a < 1000) : sortedD [.lst (l.map cD)] = some ((srt l).map cD) := by
  show (if sortOk (l.map cD) then some (sortL (l.map cD)) else none) = _
  rw [if_pos (sortOk_c1 h hs)]
  congr 1
  unfold sortL srt
  refine (List.map_mergeSort fun a _ b _ => ?_).symm
  show decide (a ≤ b) = !D.lt (.str (c1 b)) (.str (c1 a))
  rw [lt_c1]
  by_cases h : a ≤ b
  · rw [decide_eq_true h, decide_eq_false (by omega)]; rfl
  · rw [decide_eq_false h, decide_eq_true (by omega)]; rfl
theorem add_c1 (a b : Nat) : addD (cD a) (cD b) = some (wayD (a, b)) := by
  show (if (c1 a).length + (c1 b).length ≤ LL then some (D.str (c1 a ++ c1 b)) else none) = _
  have h : (c1 a).length + (c1 b).length ≤ LL := (by decide : 2 ≤ LL)
  rw [if_pos h]
  rfl
theorem tie_mk {P : List Nat} {a b : Nat} (ha : a ∈ P) (hb : b ∈ P) : min a b ∈ P ∧ max a b ∈ P ∧ min a b ≤ max a b := by
  rcases Nat.le_total a b with h | h
  · rw [Nat.min_eq_left h, Nat.max_eq_right h]; exact ⟨ha, hb, h⟩
  · rw [Nat.min_eq_right h, Nat.max_eq_left h]; exact ⟨hb, ha, h⟩
end T
namespace T
open PySem L2 G
theorem rg_get {n k : Nat} (h : k < n) : (List.range n)[k]? = some k := List.getElem?_range h
theorem forR_rg {f : D → Env' → Option Env'} {body : DS} {E : DEnds} (g : Nat → D) (n : Nat) (J : Nat → Env' → Nat → Prop) (h0 : ∀ env m, J n env m → E.nx env m)
    (hs : ∀ i, i < n → ∀ env m, J i env m → ∃ env2, f (g i) env = some env2 ∧ ∀ K : Env' → Nat → Prop, (∀ e' m', J (i + 1) e' m' → K e' m') → body env2 m { E with nx := K, ct := K, bk := E.nx }) (env : Env') (m : Nat) (h : J 0 env m) :
    ForR f body ((List.range n).map g) env m E := by
  refine forR_ind (fun its env m => ∃ i, i ≤ n ∧ its = ((List.range n).map g).drop i ∧ J i env m) ?_ ?_ _ _ _ ⟨0, Nat.zero_le _, rfl, h⟩
  · rintro env m ⟨i, hi, he, hJ⟩
    have := congrArg List.length he
    simp at this
    have : i = n := by omega
    subst this
    exact h0 _ _ hJ
  · rintro d ds env m ⟨i, hi, he, hJ⟩
    obtain ⟨a1, a2⟩ := drop_cons he
    have hi' : i < n := by
      have := (List.getElem?_eq_some_iff.mp a1).1
      simpa using this
    rw [List.getElem?_map, rg_get hi'] at a1
    cases a1
    obtain ⟨env2, e2, hb⟩ := hs i hi' env m hJ
    exact ⟨env2, e2, fun K hK => hb K fun e' m' hJ' => hK e' m' ⟨i + 1, hi', a2, hJ'⟩⟩
theorem forR_l {α : Type} {f : D → Env' → Option Env'} {body : DS} {E : DEnds} (g : α → D) (xs : List α) (J : Nat → Env' → Nat → Prop) (h0 : ∀ env m, J xs.length env m → E.nx env m)
    (hs : ∀ i x, xs[i]? = some x → ∀ env m, J i env m → ∃ env2, f (g x) env = some env2 ∧ ∀ K : Env' → Nat → Prop, (∀ e' m', J (i + 1) e' m' → K e' m') → body env2 m { E with nx := K, ct := K, bk := E.nx }) (env : Env') (m : Nat) (h : J 0 env m) :
    ForR f body (xs.map g) env m E := by
  refine forR_ind (fun its env m => ∃ i, i ≤ xs.length ∧ its = (xs.map g).drop i ∧ J i env m) ?_ ?_ _ _ _ ⟨0, Nat.zero_le _, rfl, h⟩
  · rintro env m ⟨i, hi, he, hJ⟩
    have := congrArg List.length he
    simp at this
    have : i = xs.length := by omega
    subst this
    exact h0 _ _ hJ
  · rintro d ds env m ⟨i, hi, he, hJ⟩
    obtain ⟨a1, a2⟩ := drop_cons he
    rw [List.getElem?_map] at a1
    obtain ⟨x, hx, rfl⟩ := Option.map_eq_some_iff.mp a1
    have hi' := (List.getElem?_eq_some_iff.mp hx).1
    obtain ⟨env2, e2, hb⟩ := hs i x hx env m hJ
    exact ⟨env2, e2, fun K hK => hb K fun e' m' hJ' => hK e' m' ⟨i + 1, hi', a2, hJ'⟩⟩
theorem ltR_m {α : Type} {f : D → Env' → Option Env'} {de : DL} {env : Env'} (e : α → D) (row : α → List D) : ∀ (xs : List α) (m : Nat) (Q : List (List D) → Nat → Prop), (∀ a ∈ xs, ∃ env2, f (e a) env = some env2 ∧ ∀ m Q, Q (row a) m → de env2 m Q) → Q (xs.map row) m → LtR f de env (xs.map e) m Q
  | [], m, Q, _, q => q
  | a :: r, m, Q, h, q => by
    obtain ⟨env2, e1, h2⟩ := h a (by simp)
    exact ⟨env2, e1, h2 m _ (ltR_m e row r m _ (fun b hb => h b (by simp [hb])) q)⟩
theorem all_iff {α : Type} (p : α → Bool) (xs : List α) : allD [.lst (xs.map fun a => D.bl (p a))] = some (.bl (xs.all p)) := by
  have e : (xs.map fun a => D.bl (p a)) = (xs.map p).map D.bl := by rw [List.map_map]; rfl
  show (bools _).map _ = _
  rw [e, bools_of]
  simp
theorem any_iff {α : Type} (p : α → Bool) (xs : List α) : anyD [.lst (xs.map fun a => D.bl (p a))] = some (.bl (xs.any p)) := by
  have e : (xs.map fun a => D.bl (p a)) = (xs.map p).map D.bl := by rw [List.map_map]; rfl
  show (bools _).map _ = _
  rw [e, bools_of]
  simp
theorem rep_flat (k : Nat) (d : D) : (List.replicate k [d]).flatten = (List.range k).map fun _ => d := by
  induction k with
  | zero => rfl
  | succ k ih =>
    rw [List.replicate_succ, List.flatten_cons, ih, List.range_succ_eq_map, List.map_cons, List.map_map]; rfl
theorem cut_to {α : Type} (xs : List α) {k : Nat} (h : k ≤ xs.length) : cutL xs none (some (k : Nat)) = xs.take k := by
  unfold cutL
  rw [HT.sIx_none, HT.sIx_nat, List.drop_zero, Nat.sub_zero, Nat.min_eq_left h]
theorem ints_map {α : Type} (f : α → Int) (xs : List α) : intsD (xs.map fun j => D.int (f j)) = some (xs.map f) := by
  induction xs with
  | nil => rfl
  | cons a r ih => simp only [List.map_cons, intsD]; rw [ih]; rfl
theorem sumL {α : Type} (f : α → Int) (xs : List α) : sumD [.lst (xs.map fun j => D.int (f j))] = some (.int (xs.map f).sum) := by
  show (intsD _).map _ = _
  rw [ints_map]; rfl
theorem enum_map (n : Nat) (f : Nat → D) : enumD ((List.range n).map f) = (List.range n).map fun k => .tup [natD k, f k] := by
  apply List.ext_getElem?
  intro i
  unfold enumD
  by_cases hi : i < n
  · simp [hi, natD]
  · rw [List.getElem?_eq_none (by simp; omega), List.getElem?_eq_none (by simp; omega)]
theorem cutS_to (P : List Nat) {k : Nat} (h : k ≤ P.length) : cutS (plS P) none (some (k : Nat)) = plS (P.take k) := by
  have e : cutS (plS P) none (some (k : Nat)) = plS (cutL P none (some (k : Nat))) := rfl
  rw [e, cut_to _ h]
theorem slice_to {P : List Nat} {k : Nat} (h : k ≤ P.length) (hl : P.length ≤ LL) : sliceD (plD P) none (some (k : Nat)) = some (plD (P.take k)) := by
  show (if (plS P).length ≤ LL then some (D.str (cutS (plS P) none (some (k : Nat)))) else none) = _
  rw [if_pos (by rw [plS_len]; exact hl), cutS_to P h]
end T
namespace K15
open T
def bin : Nat → Nat → Nat
  | _, 0 => 1
  | 0, _ + 1 => 0
  | n + 1, k + 1 => bin n k + bin n (k + 1)
theorem bin_zero {n : Nat} : ∀ {k : Nat}, n < k → bin n k = 0 := by
  induction n with
  | zero => intro k h; cases k with | zero => omega | succ k => rfl
  | succ n ih => intro k h; cases k with | zero => omega | succ k => show bin n k + bin n (k + 1) = 0; rw [ih (by omega), ih (by omega)]
def sgn (p k : Nat) : Int := if (p + k) % 2 = 1 then -1 else 1
def cf (p k : Nat) : Int := (bin p k : Int) * sgn p k
def sm (n : Nat) (f : Nat → Int) : Int := ((List.range n).map f).sum
theorem sm_succ (n : Nat) (f : Nat → Int) : sm (n + 1) f = sm n f + f n := by unfold sm; rw [List.range_succ, List.map_append, List.sum_append]; simp
def ex (n : Nat) (f : Nat → Int) (k : Nat) : Int := sm n fun p => f p * cf p k
def ex2 (n m : Nat) (c : Nat → Nat → Int) (i j : Nat) : Int := ex n (fun p => ex m (c p) j) i
def S2 (a b : Nat) (f : Nat → Nat → Int) (x0 x1 y0 y1 : Int) : Int := sm a fun i => sm b fun j => f i j * (x0 ^ i * x1 ^ (a - 1 - i)) * y0 ^ j * y1 ^ (b - 1 - j)
end K15
namespace K15
open T
def fo {α : Type} (Q : List (List α)) (ps : List α) : List (List α) := ps.foldl (fun acc p => acc ++ acc.map (· ++ [p])) Q
def sb {α : Type} (ps : List α) : List (List α) := fo [[]] ps
section
variable {α : Type}
theorem fo_cons (x : α) : ∀ (ps : List α) (Q : List (List α)), fo (Q.map (x :: ·)) ps = (fo Q ps).map (x :: ·)
  | [], Q => rfl
  | p :: ps, Q => by
    show fo (Q.map (x :: ·) ++ (Q.map (x :: ·)).map (· ++ [p])) ps = (fo (Q ++ Q.map (· ++ [p])) ps).map (x :: ·)
    rw [← fo_cons x ps, List.map_append, List.map_map, List.map_map]; rfl
theorem fo_perm : ∀ (ps : List α) {Q R : List (List α)}, Q.Perm R → (fo Q ps).Perm (fo R ps)
  | [], Q, R, h => h
  | p :: ps, Q, R, h => fo_perm ps (h.append (h.map _))
theorem fo_app : ∀ (ps : List α) (Q R : List (List α)), (fo (Q ++ R) ps).Perm (fo Q ps ++ fo R ps)
  | [], Q, R => .refl _
  | p :: ps, Q, R => by
    show (fo ((Q ++ R) ++ (Q ++ R).map (· ++ [p])) ps).Perm (fo (Q ++ Q.map (· ++ [p])) ps ++ fo (R ++ R.map (· ++ [p])) ps)
    refine (fo_perm ps ?_).trans (fo_app ps _ _)
    rw [List.map_append, List.append_assoc, List.append_assoc]
    refine List.Perm.append_left Q ?_
    rw [← List.append_assoc, ← List.append_assoc]
    exact List.Perm.append_right _ List.perm_append_comm
theorem sb_cons (x : α) (ps : List α) : (sb (x :: ps)).Perm (sb ps ++ (sb ps).map (x :: ·)) := by
  show (fo ([[]] ++ [[x]]) ps).Perm (fo [[]] ps ++ (fo [[]] ps).map (x :: ·))
  rw [← fo_cons]
  exact fo_app ps [[]] [[x]]
theorem sb_snoc (ps : List α) (p : α) : sb (ps ++ [p]) = sb ps ++ (sb ps).map (· ++ [p]) := by
  unfold sb fo
  rw [List.foldl_append]; rfl
theorem mem_sb : ∀ {ps S : List α}, S ∈ sb ps → S.Sublist ps
  | [], S, h => by
    have : S = [] := by simpa [sb, fo] using h
    rw [this]; exact .slnil
  | x :: ps, S, h => by
    have h := (sb_cons x ps).mem_iff.mp h
    rcases List.mem_append.mp h with h | h
    · exact (mem_sb h).cons x
    · obtain ⟨r, h1, rfl⟩ := List.mem_map.mp h
      exact (mem_sb h1).cons₂ x
end
noncomputable def cc (P : List Nat) (A B : List (Nat × Nat)) (i j : Nat) : Nat := (sb B).countP fun S => decide (rk P (A ++ S) + i = rk P (A ++ B) ∧ rk P (A ++ S) + j = rk P A + S.length)
section
variable {P : List Nat} (nd : P.Nodup)
include nd
theorem rk_sub {A B : List (Nat × Nat)} (h : ∀ p ∈ A, p ∈ B) : rk P A ≤ rk P B := rk_mono nd fun p hp => .tie (h p hp)
end
end K15
namespace K15
open PySem L2 G T
noncomputable def cN (P : List Nat) (T : List (Nat × Nat)) (i j : Nat) : Nat := (lots T.length).countP fun L => decide (rk P (tl T L) + i = rk P T ∧ rk P (tl T L) + j = L.length)
noncomputable def cI (P : List Nat) (T : List (Nat × Nat)) (i j : Nat) : Int := (cN P T i j : Nat)
def rowI (b : Nat) (f : Nat → Int) : List D := (List.range b).map fun j => .int (f j)
def tabI (a b : Nat) (f : Nat → Nat → Int) : List (List D) := (List.range a).map fun i => rowI b (f i)
noncomputable abbrev hi (P : List Nat) (T : List (Nat × Nat)) : Nat := rk P T
noncomputable abbrev wi (P : List Nat) (T : List (Nat × Nat)) : Nat := T.length - rk P T
noncomputable def tE (P : List Nat) (T : List (Nat × Nat)) : Nat → Nat → Int := ex2 (hi P T + 1) (wi P T + 1) (cI P T)
def tupT (rows : List (List D)) : D := .tup (rows.map D.tup)
def lstT (rows : List (List D)) : D := .lst (rows.map D.lst)
structure Fr (a b : Int) : Prop where
  lo : -1000000 ≤ a
  up : a ≤ 1000000
  pos : 1 ≤ b
  few : b ≤ 1000
  co : Int.gcd a b = 1
def prD (a b : Int) : D := .tup [.int a, .int b]
def frD (a b : Int) : D := prD (a / (Int.gcd a b : Nat)) (b / (Int.gcd a b : Nat))
def Sm (x : Int) : Prop := x.natAbs < 2 ^ 20
noncomputable def vTop (P : List Nat) (T : List (Nat × Nat)) (a b c d : Int) : Int := S2 (hi P T + 1) (wi P T + 1) (cI P T) (a - b) b (c - d) d
noncomputable def vBot (P : List Nat) (T : List (Nat × Nat)) (b d : Int) : Int := b ^ hi P T * d ^ wi P T
def S_every_lot : G.Spec := fun as m Q => ∃ P T, T.length ≤ 11 ∧ as = [.val (webD P T)] ∧ Q (.lst ((lots T.length).map lotD)) m
def S_empty_rows : SpecT := fun as m Q => ∃ P T, WbOk P T ∧ as = [.val (webD P T)] ∧ Q (tabI (hi P T + 1) (wi P T + 1) fun _ _ => 0) m
def S_as_table : G.Spec := fun as m Q => ∃ rows : List (List D), rows.length ≤ 100 ∧ as = [.val (lstT rows)] ∧ Q (tupT rows) m
def S_counted_lots : G.Spec := fun as m Q => ∃ P T, WbOk P T ∧ as = [.val (webD P T)] ∧ Q (lstT (tabI (hi P T + 1) (wi P T + 1) (cI P T))) m
def S_lot_counts : G.Spec := fun as m Q => ∃ P T, WbOk P T ∧ as = [.val (webD P T)] ∧ Q (tupT (tabI (hi P T + 1) (wi P T + 1) (cI P T))) m
def S_ways_to_choose : G.Spec := fun as m Q => ∃ n k : Nat, k ≤ n ∧ n ≤ 12 ∧ as = [.val (natD n), .val (natD k)] ∧ Q (natD (bin n k)) m
def S_shifted : G.Spec := fun as m Q => ∃ (n : Nat) (f : Nat → Int), n ≤ 12 ∧ as = [.val (.lst (rowI n f))] ∧ Q (.lst (rowI n (ex n f))) m
def S_table_rows : G.Spec := fun as m Q => ∃ P T, WbOk P T ∧ as = [.val (webD P T)] ∧ Q (lstT (tabI (hi P T + 1) (wi P T + 1) (tE P T))) m
def S_table : G.Spec := fun as m Q => ∃ P T, WbOk P T ∧ as = [.val (webD P T)] ∧ Q (tupT (tabI (hi P T + 1) (wi P T + 1) (tE P T))) m
def S_value : G.Spec := fun as m Q => ∃ P T a b c d, WbOk P T ∧ Fr a b ∧ Fr c d ∧ as = [.val (webD P T), .val (prD a b), .val (prD c d)] ∧ Q (frD (vTop P T a b c d) (vBot P T b d)) m
def S_law_counted : G.Spec := fun as m Q => ∃ P T, WbOk P T ∧ as = [.val (plD P), .val (.tup (T.map wayD))] ∧ Q (tupT (tabI (hi P T + 1) (wi P T + 1) (cI P T))) m
def S_law_sum : G.Spec := fun as m Q => ∃ (a b : Nat) (f : Nat → Nat → Int) (x0 x1 y0 y1 : Int), a ≤ 11 ∧ b ≤ 11 ∧ (∀ i j, i ≤ a → j ≤ b → (f i j).natAbs < 2 ^ 60) ∧ Sm x0 ∧ Sm x1 ∧ Sm y0 ∧ Sm y1 ∧ as = [.val (tupT (tabI (a + 1) (b + 1) f)), .val (prD x0 x1), .val (prD y0 y1)] ∧ Q (prD (S2 (a + 1) (b + 1) f x0 x1 y0 y1) (x1 ^ a * y1 ^ b)) m
def S_law_common : G.Spec := fun as m Q => ∃ a b : Int, b.natAbs < 2 ^ 190 ∧ as = [.val (.int a), .val (.int b)] ∧ Q (natD (Int.gcd a b)) m
def S_law_fraction : G.Spec := fun as m Q => as = [.cask] ∧ ∀ a b, Fr a b → Q (prD a b) m
def S_law_table_right : G.Spec := fun as m Q => ∃ P T, WbOk P T ∧ T.length ≤ 6 ∧ as = [.val (tupT (tabI (hi P T + 1) (wi P T + 1) (tE P T))), .val (tupT (tabI (hi P T + 1) (wi P T + 1) (cI P T)))] ∧ Q (.bl true) m
def S_law_right : G.Spec := fun as m Q => as = [.cask] ∧ Q (.bl true) m
theorem S_every_lot_len : ∀ as m Q, S_every_lot as m Q → as.length = 1 := by rintro as m Q ⟨_, _, _, rfl, _⟩; rfl
theorem S_empty_rows_len : ∀ as m Q, S_empty_rows as m Q → as.length = 1 := by rintro as m Q ⟨_, _, _, rfl, _⟩; rfl
theorem S_as_table_len : ∀ as m Q, S_as_table as m Q → as.length = 1 := by rintro as m Q ⟨_, _, rfl, _⟩; rfl
theorem S_counted_lots_len : ∀ as m Q, S_counted_lots as m Q → as.length = 1 := by rintro as m Q ⟨_, _, _, rfl, _⟩; rfl
theorem S_ways_to_choose_len : ∀ as m Q, S_ways_to_choose as m Q → as.length = 2 := by rintro as m Q ⟨_, _, _, _, rfl, _⟩; rfl
theorem S_shifted_len : ∀ as m Q, S_shifted as m Q → as.length = 1 := by rintro as m Q ⟨_, _, _, rfl, _⟩; rfl
theorem S_table_rows_len : ∀ as m Q, S_table_rows as m Q → as.length = 1 := by rintro as m Q ⟨_, _, _, rfl, _⟩; rfl
theorem S_table_len : ∀ as m Q, S_table as m Q → as.length = 1 := by rintro as m Q ⟨_, _, _, rfl, _⟩; rfl
theorem S_law_right_len : ∀ as m Q, S_law_right as m Q → as.length = 1 := by rintro as m Q ⟨rfl, _⟩; rfl
end K15
namespace K15
open PySem L2 G T
def pm0 {α : Type} : List α → List α
  | [x0] => [x0]
  | l => l
def pm120 {α : Type} : List α → List α
  | [x0, x1, x2] => [x1, x2, x0]
  | l => l
def d_every_lot : DS := (dSeq (dAsg 1 (dNew (dLst (dConsL (dTup dNilL) dNilL))))
  (dSeq (dFor (dISrc (dCall S_every_tie (dConsA (dVar 0) dNilA))) (tgN 2) (dAsg 1 (dOp addD (dVarB 1) (dNew (dLc (dISrc (dVarB 1)) (tgN 3) dYes (dOp addD (dVarB 3) (dTup (dConsL (dVar 2) dNilL))) [3])))))
  (dRet (dNew (dCallN sorted0D (dConsL (dVarB 1) dNilL))))))
abbrev n_every_lot : Nat := 4
def d1_empty_rows : DS := (dAsg 1 (dCall S_every_tie (dConsA (dVar 0) dNilA)))
def d2_empty_rows : DR := (dLt (dIRng (dOp addD (dCall S_rank_of (dConsA (dVar 0) (dConsA (dVar 1) dNilA))) (dC (.int 1)))) (tgN 2) (dRepL (dNew (dLst (dConsL (dC (.int 0)) dNilL))) (dOp addD (dCall S_spare_of (dConsA (dVar 0) (dConsA (dVar 1) dNilA))) (dC (.int 1)))) [2])
abbrev n_empty_rows : Nat := 3
def d_as_table : DS := (dRet (dCallB tupleD (dConsL (dNew (dLc (dISrc (dVarB 0)) (tgN 1) dYes (dCallB tupleD (dConsL (dVarB 1) dNilL)) [1])) dNilL)))
abbrev n_as_table : Nat := 2
def d_counted_lots : DS := (dSeq (dMix [1, 2] (dConsT (dCallT S_empty_rows (dConsA (dVar 0) dNilA)) (dConsA (dCall S_rank_of (dConsA (dVar 0) (dConsA (dCall S_every_tie (dConsA (dVar 0) dNilA)) dNilA))) dNilA)))
  (dSeq (dFor (dISrc (dCall S_every_lot (dConsA (dVar 0) dNilA))) (tgN 3) (dAugT (· + ·) 1 (dOp subD (dVarB 2) (dCall S_rank_of (dConsA (dVar 0) (dConsA (dVar 3) dNilA)))) (dCall S_spare_of (dConsA (dVar 0) (dConsA (dVar 3) dNilA))) (dC (.int 1))))
  (dFreezeT 1 (dRet (dVar 1)))))
abbrev n_counted_lots : Nat := 4
def d_ways_to_choose : DS := (dSeq (dAsg 2 (dC (.int 1)))
  (dSeq (dFor (dIRng (dVar 1)) (tgN 3) (dAsg 2 (dOp fdivD (dOp mulD (dVarB 2) (dOp subD (dVarB 0) (dVarB 3))) (dOp addD (dVarB 3) (dC (.int 1))))))
  (dRet (dVar 2))))
abbrev n_ways_to_choose : Nat := 4
def d_shifted : DS := (dSeq (dAsgW 1 (dNew (dRepL (dNew (dLst (dConsL (dC (.int 0)) dNilL))) (dCallB lenD0 (dConsL (dVarB 0) dNilL)))))
  (dSeq (dFor (dIEnum (dVar 0)) (tgT (tgCons (tgN 2) (tgCons (tgN 3) tgNil)) 2) (dFor (dIRng (dOp addD (dVarB 2) (dC (.int 1)))) (tgN 4) (dAugL 1 (dVar 4) (dOp mulD (dOp mulD (dVarB 3) (dCall S_ways_to_choose (dConsA (dVar 2) (dConsA (dVar 4) dNilA)))) (dIfE (dTest (dOp eqD (dOp modD (dOp subD (dVarB 2) (dVarB 4)) (dC (.int 2))) (dC (.int 1)))) (dC (.int (-1))) (dC (.int 1)))))))
  (dRetO 1)))
abbrev n_shifted : Nat := 5
def d_table_rows : DS := (dSeq (dAsg 1 (dNew (dLc (dISrc (dCall S_counted_lots (dConsA (dVar 0) dNilA))) (tgN 3) dYes (dCall S_shifted (dConsA (dVar 3) dNilA)) [3])))
  (dSeq (dAsg 2 (dNew (dLc (dIRng (dCallB lenD0 (dConsL (dOp ixD (dVarB 1) (dC (.int 0))) dNilL))) (tgN 4) dYes (dCall S_shifted (dConsA (dNew (dLc (dISrc (dVarB 1)) (tgN 3) dYes (dOp ixD (dVarB 3) (dVarB 4)) [3])) dNilA)) [4])))
  (dRet (dNew (dLc (dIRng (dCallB lenD0 (dConsL (dVarB 1) dNilL))) (tgN 4) dYes (dNew (dLc (dISrc (dVarB 2)) (tgN 5) dYes (dOp ixD (dVarB 5) (dVarB 4)) [5])) [4])))))
abbrev n_table_rows : Nat := 6
def d_table : DS := (dSeq (dDrop (dCall S_check_web (dConsA (dVar 0) dNilA)))
  (dRet (dCall S_as_table (dConsA (dCall S_table_rows (dConsA (dVar 0) dNilA)) dNilA))))
abbrev n_table : Nat := 1
def d_law_right : DS := (dSeq (dAsgT (tgT (tgCons (tgN 1) (tgCons (tgN 2) tgNil)) 2) (dCall S_law_parts (dConsC 0 (dConsA (dC (.int 4)) (dConsA (dC (.int 6)) dNilA)))))
  (dSeq (dPar 3 4 (dConsL (dMake (dConsA (dVar 1) (dConsA (dVar 2) dNilA))) (dConsL (dCall S_law_counted (dConsA (dVar 1) (dConsA (dVar 2) dNilA))) dNilL)))
  (dSeq (dIf (dOr (dTest (dOp neD (dCallB reprD (dConsL (dCall S_lot_counts (dConsA (dVar 3) dNilA)) dNilL)) (dCallB reprD (dConsL (dVarB 4) dNilL)))) (dTest (dOp neD (dCallK S_lot_counts pm0 (dConsA (dVar 3) dNilA)) (dVarB 4)))) (dRet (dC (.bl false))) dNext)
  (dSeq (dIf (dOr (dNot (dTest (dCall S_law_table_right (dConsA (dCall S_table (dConsA (dVar 3) dNilA)) (dConsA (dVar 4) dNilA))))) (dTest (dOp neD (dCallK S_table pm0 (dConsA (dVar 3) dNilA)) (dCall S_table (dConsA (dVar 3) dNilA))))) (dRet (dC (.bl false))) dNext)
  (dSeq (dFor (dIRng (dC (.int 3))) (tgN 5) (dSeq (dPar 6 7 (dConsL (dCall S_law_fraction (dConsC 0 dNilA)) (dConsL (dCall S_law_fraction (dConsC 0 dNilA)) dNilL)))
  (dSeq (dAsgT (tgT (tgCons (tgN 8) (tgCons (tgN 9) tgNil)) 2) (dCall S_law_sum (dConsA (dVar 4) (dConsA (dTup (dConsL (dOp subD (dOp ixD (dVarB 6) (dC (.int 0))) (dOp ixD (dVarB 6) (dC (.int 1)))) (dConsL (dOp ixD (dVarB 6) (dC (.int 1))) dNilL))) (dConsA (dTup (dConsL (dOp subD (dOp ixD (dVarB 7) (dC (.int 0))) (dOp ixD (dVarB 7) (dC (.int 1)))) (dConsL (dOp ixD (dVarB 7) (dC (.int 1))) dNilL))) dNilA)))))
  (dSeq (dAsg 10 (dCall S_law_common (dConsA (dVar 8) (dConsA (dVar 9) dNilA))))
  (dSeq (dAsg 11 (dTup (dConsL (dOp fdivWD (dVarB 8) (dVarB 10)) (dConsL (dOp fdivWD (dVarB 9) (dVarB 10)) dNilL))))
  (dIf (dOr (dTest (dOp neD (dCallB reprD (dConsL (dCall S_value (dConsA (dVar 3) (dConsA (dVar 6) (dConsA (dVar 7) dNilA)))) dNilL)) (dCallB reprD (dConsL (dVarB 11) dNilL)))) (dTest (dOp neD (dCallK S_value pm120 (dConsA (dVar 7) (dConsA (dVar 3) (dConsA (dVar 6) dNilA)))) (dVarB 11)))) (dRet (dC (.bl false))) dNext))))))
  (dRet (dC (.bl true))))))))
abbrev n_law_right : Nat := 12
end K15
namespace K15
open PySem L2 G T
theorem bin_le : ∀ n k : Nat, bin n k ≤ 2 ^ n
  | 0, 0 => by decide
  | 0, k + 1 => by show 0 ≤ _; omega
  | n + 1, 0 => by show 1 ≤ _; exact Nat.pow_pos (by decide)
  | n + 1, k + 1 => by
    show bin n k + bin n (k + 1) ≤ _
    have := bin_le n k
    have := bin_le n (k + 1)
    rw [Nat.pow_succ]; omega
theorem mul_ok {i : Int} (j : Int) (h : -(2 ^ 64) < i ∧ i < 2 ^ 64) : mulD (.int i) (.int j) = some (.int (i * j)) := by
  unfold mulD
  exact if_pos (.inl h)
theorem mul_ok2 (i : Int) {j : Int} (h : -(2 ^ 64) < j ∧ j < 2 ^ 64) : mulD (.int i) (.int j) = some (.int (i * j)) := by
  unfold mulD
  exact if_pos (.inr h)
theorem bin_up : ∀ n t : Nat, (bin n (t + 1) : Int) * ((t : Int) + 1) = (bin n t : Int) * ((n : Int) - (t : Int))
  | 0, 0 => by decide
  | 0, t + 1 => by show (0 : Int) * _ = 0 * _; simp
  | n + 1, 0 => by
    have h := bin_up n 0
    have e0 : bin n 0 = 1 := by cases n <;> rfl
    have e1 : bin (n + 1) 0 = 1 := rfl
    have e2 : bin (n + 1) (0 + 1) = bin n 0 + bin n (0 + 1) := rfl
    rw [e0] at h
    rw [e2, e1, e0]
    simp at h ⊢
    omega
  | n + 1, t + 1 => by
    have h1 := bin_up n t
    have h2 := bin_up n (t + 1)
    have e2 : bin (n + 1) (t + 1 + 1) = bin n (t + 1) + bin n (t + 1 + 1) := rfl
    have e3 : bin (n + 1) (t + 1) = bin n t + bin n (t + 1) := rfl
    rw [e2, e3]
    push_cast at h1 h2 ⊢
    grind
theorem law_ways_to_choose : ∀ as m Q, S_ways_to_choose as m Q → d_ways_to_choose (padn n_ways_to_choose as) m (fin Q) := by
  rintro as m Q ⟨n, k, hk, hn, rfl, q⟩
  have hll := llv
  refine ⟨_, rfl, (k : Nat), rfl, by omega, by omega, ?_⟩
  rw [natD_map]
  refine forR_rg natD k (fun i env m' => m' = m ∧ ∃ s, env = [.val (natD n), .val (natD k), .val (natD (bin n i)), s]) ?_ ?_ _ _ ⟨rfl, .no, by
    have : bin n 0 = 1 := by cases n <;> rfl
    rw [this]; rfl⟩
  · rintro env m' ⟨rfl, s, rfl⟩
    exact ⟨_, rfl, q⟩
  · rintro i hi env m' ⟨rfl, s, rfl⟩
    refine ⟨_, rfl, fun K hK => ?_⟩
    have h1 := bin_le n i
    have h2 : (2 : Nat) ^ n ≤ 2 ^ 12 := Nat.pow_le_pow_right (by decide) hn
    have h3 : (2 : Nat) ^ 12 = 4096 := by decide
    have e1 : mulD (natD (bin n i)) (.int ((n : Nat) - (i : Nat) : Int)) = some (.int ((bin n i : Nat) * ((n : Nat) - (i : Nat) : Int))) := mul_ok _ ⟨by omega, by omega⟩
    refine ⟨_, rfl, _, rfl, _, rfl, _, rfl, _, e1, _, rfl, _, rfl, natD (bin n (i + 1)), ?_, hK _ _ ⟨rfl, _, rfl⟩⟩
    show (if _ then some (D.int (((bin n i : Nat) * ((n : Nat) - (i : Nat) : Int)) / ((i : Nat) + 1 : Int))) else none) = _
    rw [if_pos (by omega), ← bin_up n i, Int.mul_ediv_cancel _ (by omega)]; rfl
theorem mod_nat {p q : Nat} (h : q ≠ 0) : modD (natD p) (natD q) = some (natD (p % q)) := if_pos (by omega)
theorem law_every_lot : ∀ as m Q, S_every_lot as m Q → d_every_lot (padn n_every_lot as) m (fin Q) := by
  rintro as m Q ⟨P, T, hn, rfl, q⟩
  have hll := llv
  refine ⟨by show 0 ≤ LL; omega, by show 1 ≤ LL; omega, _, rfl, P, T, hn, rfl, _, rfl, ?_⟩
  refine forR_l natD (List.range T.length) (fun k env m' => m' = m ∧ ∃ x y : Sl, env = [.val (webD P T), .val (.lst ((gen k).map lotD)), x, y]) ?_ ?_ _ _ ⟨rfl, .no, .no, rfl⟩
  · rintro env m' ⟨rfl, x, y, rfl⟩
    rw [List.length_range]
    refine ⟨_, rfl, (lots T.length).map lotD, ?_, q⟩
    show (if sortOk0 ((gen T.length).map lotD) then some (sortL ((gen T.length).map lotD)) else none) = _
    rw [if_pos (sortOk0_lots hn), sort_lots]
  · rintro i k hk env m' ⟨rfl, x, y, rfl⟩
    have hi' : i < T.length := by have := (List.getElem?_eq_some_iff.mp hk).1; simpa using this
    rw [rg_get hi'] at hk
    cases hk
    have hp : 2 ^ i ≤ 2 ^ 11 := Nat.pow_le_pow_right (by decide) (by omega)
    refine ⟨_, rfl, fun K hK => ?_⟩
    refine ⟨_, rfl, _, rfl, _, rfl, by rw [List.length_map, gen_len]; omega, ?_⟩
    refine lcR_m lotD (fun l => lotD (l ++ [i])) (gen i) m' _ (fun l hl => ⟨_, rfl, fun m Q q => ⟨_, rfl, _, rfl, by show 1 ≤ LL; omega, lotD (l ++ [i]), ?_, q⟩⟩) ?_
    · have := (gen_mem.mp hl).few
      show (if _ then some (D.tup (l.map natD ++ [natD i])) else none) = _
      rw [if_pos (by rw [List.length_map]; show l.length + 1 ≤ _; omega)]
      unfold lotD
      rw [List.map_append]; rfl
    · refine ⟨.lst ((gen (i + 1)).map lotD), ?_, hK _ _ ⟨rfl, .val (natD i), y, rfl⟩⟩
      show (if _ then some (D.lst ((gen i).map lotD ++ (gen i).map fun l => lotD (l ++ [i]))) else none) = _
      rw [if_pos (by rw [List.length_map, List.length_map, gen_len]; omega)]
      rw [show gen (i + 1) = gen i ++ (gen i).map fun l => l ++ [i] from rfl, List.map_append, List.map_map]; rfl
theorem rng_in (n : Nat) : ∀ i ∈ List.range n, i < n := fun i hi => List.mem_range.mp hi
theorem rk_le {P : List Nat} {T : List (Nat × Nat)} (hW : WbOk P T) : rk P T ≤ T.length := rk_size hW.pl.nd T hW.ok
theorem law_empty_rows : ∀ as m Q, S_empty_rows as m Q → d1_empty_rows (padn n_empty_rows as) m { nx := fun env' m' => d2_empty_rows env' m' Q, rt := fun _ _ => False } := by
  rintro as m Q ⟨P, T, hW, rfl, q⟩
  have hll := llv
  have h11 := hW.few
  have hr := rk_le hW
  refine ⟨_, rfl, P, T, h11, rfl, ?_⟩
  refine ⟨_, rfl, _, rfl, P, T, List.range T.length, hW, by rw [List.length_range]; omega, rng_in _, rfl, _, rfl, ((rk P T + 1 : Nat) : Int), by rw [tl_range]; rfl, by omega, by omega, ?_⟩
  rw [natD_map]
  refine ⟨by simp; omega, ?_⟩
  refine ltR_m natD (fun _ => (List.range (T.length - rk P T + 1)).map fun _ => D.int 0) (List.range (rk P T + 1)) m _ (fun a _ => ⟨_, rfl, fun m Q q => ?_⟩) q
  refine ⟨by show 1 ≤ LL; omega, _, rfl, _, rfl, P, T, List.range T.length, hW, by rw [List.length_range]; omega, rng_in _, rfl, _, rfl, _, ((T.length - rk P T + 1 : Nat) : Int), rfl, ?_, by omega, by omega, by show 1 * _ ≤ _; omega, ?_⟩
  · rw [tl_range, List.length_range]
    show D.int _ = D.int _
    congr 1
    omega
  · rw [Int.toNat_natCast, _root_.T.rep_flat]; exact q
theorem law_as_table : ∀ as m Q, S_as_table as m Q → d_as_table (padn n_as_table as) m (fin Q) := by
  rintro as m Q ⟨rows, h100, rfl, q⟩
  have hll := llv
  refine ⟨_, rfl, _, rfl, by rw [List.length_map]; omega, ?_⟩
  exact lcR_m D.lst D.tup rows m _ (fun row _ => ⟨_, rfl, fun m Q q => ⟨_, rfl, _, rfl, q⟩⟩) ⟨_, rfl, q⟩
end K15
namespace K15
open PySem L2 G T
theorem gen_sb (T : List (Nat × Nat)) : ∀ k, k ≤ T.length → (gen k).map (tl T) = sb (T.take k)
  | 0, _ => rfl
  | k + 1, h => by
    have hk : T[k]? = some (T.getD k (0, 0)) := tie_get (by omega)
    have e : T.take (k + 1) = T.take k ++ [T.getD k (0, 0)] := by rw [List.take_succ, hk]; rfl
    rw [e, sb_snoc, ← gen_sb T k (by omega), show gen (k + 1) = gen k ++ (gen k).map fun l => l ++ [k] from rfl, List.map_append, List.map_map, List.map_map]
    congr 1
    refine List.map_congr_left fun l _ => ?_
    show tl T (l ++ [k]) = tl T l ++ [T.getD k (0, 0)]
    unfold tl
    rw [List.map_append]; rfl
theorem lot_sub {T : List (Nat × Nat)} {L : List Nat} (h : L ∈ lots T.length) : (tl T L).Sublist T := by
  have h1 : (lots T.length).Perm (gen T.length) := List.mergeSort_perm _ _
  have h2 := gen_sb T T.length (Nat.le_refl _)
  rw [List.take_length] at h2
  exact mem_sb (h2 ▸ List.mem_map.mpr ⟨L, h1.mem_iff.mp h, rfl⟩)
theorem spare_le {P : List Nat} (nd : P.Nodup) {S T : List (Nat × Nat)} (h : S.Sublist T) : ∀ A : List (Nat × Nat), Ok P T → rk P (A ++ T) + S.length ≤ rk P (A ++ S) + T.length := by
  induction h with
  | slnil => intro A _; simp
  | cons e h ih =>
    rename_i S T
    intro A ok
    have h1 := ih A fun p hp => ok p (List.mem_cons_of_mem _ hp)
    have he := ok e (List.mem_cons_self ..)
    have h2 : rk P ((A ++ T) ++ [(e.1, e.2)]) ≤ rk P (A ++ T) + 1 := rk_add nd he.1 he.2
    have h3 : rk P ((A ++ T) ++ [(e.1, e.2)]) = rk P (A ++ e :: T) := rk_same fun p => by
      simp only [List.mem_append, List.mem_cons, List.mem_singleton, List.not_mem_nil, or_false]
      constructor
      · rintro ((h | h) | h)
        · exact .inl h
        · exact .inr (.inr h)
        · exact .inr (.inl h)
      · rintro (h | h | h)
        · exact .inl (.inl h)
        · exact .inr h
        · exact .inl (.inr h)
    rw [List.length_cons]
    omega
  | cons_cons e h ih =>
    rename_i S T
    intro A ok
    have h1 := ih (A ++ [e]) fun p hp => ok p (List.mem_cons_of_mem _ hp)
    rw [List.append_assoc, List.append_assoc] at h1
    rw [List.length_cons, List.length_cons]
    have : rk P (A ++ ([e] ++ T)) = rk P (A ++ e :: T) := rfl
    have : rk P (A ++ ([e] ++ S)) = rk P (A ++ e :: S) := rfl
    omega
structure LotR (P : List Nat) (T : List (Nat × Nat)) (L : List Nat) : Prop where
  a : rk P (tl T L) ≤ rk P T
  b : rk P (tl T L) ≤ L.length
  c : L.length - rk P (tl T L) ≤ wi P T
theorem lotR {P : List Nat} {T : List (Nat × Nat)} (hW : WbOk P T) {L : List Nat} (h : L ∈ lots T.length) : LotR P T L := by
  have sub := lot_sub h
  have nd := hW.pl.nd
  have ok : Ok P (tl T L) := fun p hp => hW.ok p (sub.subset hp)
  have h1 : rk P (tl T L) ≤ rk P T := rk_mono nd fun p hp => .tie (sub.subset hp)
  have h2 := rk_size nd _ ok
  have h3 := spare_le nd sub [] hW.ok
  rw [List.nil_append, List.nil_append] at h3
  rw [tl_len] at h2 h3
  have := rk_le hW
  exact ⟨h1, h2, by unfold wi; omega⟩
theorem wi_le {P : List Nat} {T : List (Nat × Nat)} : wi P T ≤ T.length := by unfold wi; omega
theorem rowI_len (b : Nat) (f : Nat → Int) : (rowI b f).length = b := by unfold rowI; simp
theorem tabI_len (a b : Nat) (f : Nat → Nat → Int) : (tabI a b f).length = a := by unfold tabI; simp
theorem row_get {b j : Nat} (f : Nat → Int) (h : j < b) : (rowI b f)[j]? = some (.int (f j)) := by
  unfold rowI
  rw [List.getElem?_map, rg_get h]; rfl
theorem tab_get {a b i : Nat} (f : Nat → Nat → Int) (h : i < a) : (tabI a b f)[i]? = some (rowI b (f i)) := by
  unfold tabI
  rw [List.getElem?_map, rg_get h]; rfl
theorem row_set {b j : Nat} (f : Nat → Int) (x : Int) (h : j < b) : (rowI b f).set j (.int x) = rowI b fun q => if q = j then x else f q := by
  apply List.ext_getElem?
  intro q
  rw [List.getElem?_set]
  by_cases e : j = q
  · subst e
    rw [if_pos rfl, row_get _ h, rowI_len, if_pos h]
    simp
  · rw [if_neg e]
    by_cases hq : q < b
    · rw [row_get _ hq, row_get _ hq, if_neg fun z => e z.symm]
    · rw [List.getElem?_eq_none (by rw [rowI_len]; omega), List.getElem?_eq_none (by rw [rowI_len]; omega)]
theorem tab_set {a b i j : Nat} (f : Nat → Nat → Int) (x : Int) (hi : i < a) (hj : j < b) : (tabI a b f).set i ((rowI b (f i)).set j (.int x)) = tabI a b fun p q => if p = i ∧ q = j then x else f p q := by
  rw [row_set _ _ hj]
  apply List.ext_getElem?
  intro p
  rw [List.getElem?_set]
  by_cases e : i = p
  · subst e
    rw [if_pos rfl, tab_get _ hi, tabI_len, if_pos hi]
    simp
  · rw [if_neg e]
    by_cases hp : p < a
    · rw [tab_get _ hp, tab_get _ hp]
      congr 1
      unfold rowI
      refine List.map_congr_left fun q _ => ?_
      show D.int (f p q) = D.int (if p = i ∧ q = j then x else f p q)
      rw [if_neg fun z => e z.1.symm]
    · rw [List.getElem?_eq_none (by rw [tabI_len]; omega), List.getElem?_eq_none (by rw [tabI_len]; omega)]
noncomputable def cP (P : List Nat) (T : List (Nat × Nat)) (Ls : List (List Nat)) (i j : Nat) : Int := ((Ls.countP fun L => decide (rk P (tl T L) + i = rk P T ∧ rk P (tl T L) + j = L.length) : Nat) : Int)
theorem cP_step {P : List Nat} {T : List (Nat × Nat)} {Ls : List (List Nat)} {k : Nat} {L : List Nat} (h : Ls[k]? = some L) (r : LotR P T L) : cP P T (Ls.take (k + 1)) = fun p q => if p = rk P T - rk P (tl T L) ∧ q = L.length - rk P (tl T L) then cP P T (Ls.take k) (rk P T - rk P (tl T L)) (L.length - rk P (tl T L)) + 1 else cP P T (Ls.take k) p q := by
  have e : Ls.take (k + 1) = Ls.take k ++ [L] := by rw [List.take_succ, h]; rfl
  have := r.a
  have := r.b
  funext p q
  unfold cP
  rw [e, List.countP_append, List.countP_singleton]
  by_cases z : p = rk P T - rk P (tl T L) ∧ q = L.length - rk P (tl T L)
  · rw [if_pos z]
    obtain ⟨rfl, rfl⟩ := z
    rw [if_pos (by rw [decide_eq_true_eq]; omega)]
    simp
  · rw [if_neg z, if_neg (by rw [decide_eq_true_eq]; omega)]; rfl
theorem cP_all (P : List Nat) (T : List (Nat × Nat)) : cP P T ((lots T.length).take (lots T.length).length) = cI P T := by rw [List.take_length]; rfl
theorem sub_nat {a b : Nat} (h : b ≤ a) : D.int ((a : Int) - (b : Int)) = natD (a - b) := by
  show D.int _ = D.int _
  congr 1
  omega
theorem law_counted_lots : ∀ as m Q, S_counted_lots as m Q → d_counted_lots (padn n_counted_lots as) m (fin Q) := by
  rintro as m Q ⟨P, T, hW, rfl, q⟩
  have hll := llv
  have h11 := hW.few
  have hr := rk_le hW
  refine ⟨_, rfl, P, T, hW, rfl, ?_⟩
  refine ⟨_, rfl, _, rfl, P, T, h11, rfl, P, T, List.range T.length, hW, by rw [List.length_range]; omega, rng_in _, rfl, ?_⟩
  rw [tl_range]
  refine fun qs => ⟨rfl, ?_⟩
  refine ⟨_, rfl, P, T, h11, rfl, _, rfl, ?_⟩
  refine forR_l lotD (lots T.length) (fun k env m' => m' = m ∧ ∃ qs s, env = [.val (webD P T), .tb qs (tabI (hi P T + 1) (wi P T + 1) (cP P T ((lots T.length).take k))), .val (natD (rk P T)), s]) ?_ ?_ _ _ ⟨rfl, qs, .no, rfl⟩
  · rintro env m' ⟨rfl, qs, s, rfl⟩
    rw [cP_all]
    exact ⟨qs, _, rfl, _, rfl, q⟩
  · rintro k L hL env m' ⟨rfl, qs, s, rfl⟩
    have mem := List.mem_of_getElem? hL
    have lot := lots_mem.mp mem
    have r := lotR hW mem
    have h1 := r.a
    have h2 := r.b
    have h3 := r.c
    have hf := lot.few
    refine ⟨_, rfl, fun K hK => ?_⟩
    refine ⟨qs, _, rfl, _, rfl, _, rfl, _, rfl, P, T, L, hW, by omega, lot.inb, rfl, _, rfl, _, _, sub_nat h1, tab_get _ (by unfold hi; omega), ?_⟩
    refine ⟨_, rfl, _, rfl, P, T, L, hW, by omega, lot.inb, rfl, _, _, sub_nat h2, row_get _ (by omega), _, rfl, ?_⟩
    have := tab_set (a := hi P T + 1) (b := wi P T + 1) (cP P T ((lots T.length).take k)) (cP P T ((lots T.length).take k) (rk P T - rk P (tl T L)) (L.length - rk P (tl T L)) + 1) (i := rk P T - rk P (tl T L)) (j := L.length - rk P (tl T L)) (by unfold hi; omega) (by omega)
    rw [← cP_step hL r] at this
    rw [← this] at hK
    exact hK _ _ ⟨rfl, qs, _, rfl⟩
end K15
namespace K15
open PySem L2 G T
theorem row_ix {n j : Nat} (g : Nat → Int) (h : j < n) : ixD (.lst (rowI n g)) (natD j) = some (.int (g j)) := ix_lst (f := fun j => D.int (g j)) (xs := List.range n) (rg_get h)
theorem row_lenL (n : Nat) (g : Nat → Int) : lenD0 [.lst (rowI n g)] = some (natD n) := by
  have := len_lst (fun j => D.int (g j)) (List.range n)
  rw [List.length_range] at this
  exact this
theorem lst_is (a b : Nat) (f : Nat → Nat → Int) : lstT (tabI a b f) = .lst ((List.range a).map fun i => .lst (rowI b (f i))) := by
  unfold lstT tabI
  rw [List.map_map]; rfl
theorem rg_lenL (n : Nat) (g : Nat → D) : lenD0 [.lst ((List.range n).map g)] = some (natD n) := by
  have := len_lst g (List.range n)
  rw [List.length_range] at this
  exact this
theorem rg_ixL {n j : Nat} (g : Nat → D) (h : j < n) : ixD (.lst ((List.range n).map g)) (natD j) = some (g j) := ix_lst (rg_get h)
theorem row_congr {n : Nat} {f g : Nat → Int} (h : ∀ i, f i = g i) : rowI n f = rowI n g := by rw [funext h]
theorem law_shifted : ∀ as m Q, S_shifted as m Q → d_shifted (padn n_shifted as) m (fin Q) := by
  rintro as m Q ⟨n, f, hn, rfl, q⟩
  have hll := llv
  refine ⟨by show 1 ≤ LL; omega, _, rfl, _, row_lenL n f, _, (n : Nat), rfl, rfl, by omega, by omega, by show 1 * _ ≤ _; omega, ?_⟩
  rw [Int.toNat_natCast, _root_.T.rep_flat]
  refine ⟨_, rfl, _, rfl, ?_⟩
  have en : enumD (rowI n f) = (List.range n).map fun k => .tup [natD k, .int (f k)] := enum_map n fun k => .int (f k)
  rw [en]
  refine forR_rg (fun k => .tup [natD k, .int (f k)]) n (fun p env m' => m' = m ∧ ∃ s2 s3 s4, env = [.val (.lst (rowI n f)), .own (rowI n (ex p f)), s2, s3, s4]) ?_ ?_ _ _ ⟨rfl, .no, .no, .no, rfl⟩
  · rintro env m' ⟨rfl, s2, s3, s4, rfl⟩
    exact ⟨_, rfl, q⟩
  · rintro p hp env m' ⟨rfl, s2, s3, s4, rfl⟩
    refine ⟨_, rfl, fun K hK => ?_⟩
    refine ⟨_, rfl, _, rfl, ((p + 1 : Nat) : Int), rfl, by omega, by omega, ?_⟩
    rw [natD_map]
    refine forR_rg natD (p + 1) (fun l env m2 => m2 = m' ∧ ∃ s4, env = [.val (.lst (rowI n f)), .own (rowI n fun k => ex p f k + if k < l then f p * cf p k else 0), .val (natD p), .val (.int (f p)), s4]) ?_ ?_ _ _ ⟨rfl, s4, ?_⟩
    · rintro env m2 ⟨rfl, s4, rfl⟩
      have e : (rowI n fun k => ex p f k + if k < p + 1 then f p * cf p k else 0) = rowI n (ex (p + 1) f) := row_congr fun k => by
        have : ex (p + 1) f k = ex p f k + f p * cf p k := sm_succ p _
        rw [this]
        by_cases z : k < p + 1
        · rw [if_pos z]
        · rw [if_neg z]
          have : cf p k = 0 := by unfold cf; rw [bin_zero (by omega)]; simp
          rw [this]; simp
      rw [e]
      exact hK _ _ ⟨rfl, _, _, _, rfl⟩
    · rintro l hl env m2 ⟨rfl, s4, rfl⟩
      refine ⟨_, rfl, fun K2 hK2 => ?_⟩
      have b1 := bin_le p l
      have b2 : (2 : Nat) ^ p ≤ 2 ^ 12 := Nat.pow_le_pow_right (by decide) (by omega)
      have b3 : (2 : Nat) ^ 12 = 4096 := by decide
      refine ⟨_, rfl, _, rfl, l, _, rfl, row_get _ (by omega), ?_⟩
      refine ⟨_, rfl, _, rfl, _, rfl, p, l, by omega, by omega, rfl, _, mul_ok2 (f p) (j := (bin p l : Nat)) ⟨by omega, by omega⟩, ?_⟩
      refine ⟨_, rfl, _, rfl, _, rfl, _, rfl, .bl (decide (((p : Int) - (l : Int)) % 2 = 1)), rfl, _, rfl, ?_⟩
      have fin_ : ∀ x : Int, x = f p * cf p l → K2 [.val (.lst (rowI n f)), .own ((rowI n fun k => ex p f k + if k < l then f p * cf p k else 0).set l (.int ((ex p f l + if l < l then f p * cf p l else 0) + x))), .val (natD p), .val (.int (f p)), .val (natD l)] m2 := fun x hx => by
        refine hK2 _ _ ⟨rfl, .val (natD l), ?_⟩
        rw [row_set _ _ (by omega)]
        have : (rowI n fun q => if q = l then (ex p f l + if l < l then f p * cf p l else 0) + x else ex p f q + if q < l then f p * cf p q else 0) = rowI n fun k => ex p f k + if k < l + 1 then f p * cf p k else 0 := row_congr fun k => by
          by_cases z : k = l
          · subst z
            rw [if_pos rfl, if_neg (by omega), if_pos (by omega), hx]; omega
          · rw [if_neg z]
            by_cases z2 : k < l
            · rw [if_pos z2, if_pos (by omega)]
            · rw [if_neg z2, if_neg (by omega)]
        rw [this]
      by_cases z : (p + l) % 2 = 1
      · rw [decide_eq_true (by omega)]
        refine ⟨_, mul_ok2 _ (j := -1) ⟨by decide, by decide⟩, _, rfl, fin_ _ ?_⟩
        unfold cf sgn
        rw [if_pos z, Int.mul_assoc]
      · rw [decide_eq_false (by omega)]
        refine ⟨_, mul_ok2 _ (j := 1) ⟨by decide, by decide⟩, _, rfl, fin_ _ ?_⟩
        unfold cf sgn
        rw [if_neg z, Int.mul_assoc]
    · have : rowI n (ex p f) = rowI n fun k => ex p f k + if k < 0 then f p * cf p k else 0 := row_congr fun k => by rw [if_neg (by omega)]; omega
      rw [this]; rfl
theorem law_table_rows : ∀ as m Q, S_table_rows as m Q → d_table_rows (padn n_table_rows as) m (fin Q) := by
  rintro as m Q ⟨P, T, hW, rfl, q⟩
  have hll := llv
  have h11 := hW.few
  have hr := rk_le hW
  have hw := wi_le (P := P) (T := T)
  have hh : hi P T ≤ 11 := by unfold hi; omega
  rw [lst_is] at q
  refine ⟨_, rfl, P, T, hW, rfl, (List.range (hi P T + 1)).map fun i => .lst (rowI (wi P T + 1) (cI P T i)), by rw [lst_is]; rfl, by simp; omega, ?_⟩
  refine lcR_m (fun i => D.lst (rowI (wi P T + 1) (cI P T i))) (fun i => D.lst (rowI (wi P T + 1) (ex (wi P T + 1) (cI P T i)))) (List.range (hi P T + 1)) m _ (fun i _ => ⟨_, rfl, fun m Q q => ⟨_, rfl, wi P T + 1, cI P T i, by omega, rfl, q⟩⟩) ?_
  refine ⟨_, rfl, _, rg_ixL _ (j := 0) (by omega), _, row_lenL _ _, ((wi P T + 1 : Nat) : Int), rfl, by omega, by omega, ?_⟩
  rw [natD_map]
  refine ⟨by simp; omega, ?_⟩
  refine lcR_m natD (fun j => D.lst (rowI (hi P T + 1) fun i => tE P T i j)) (List.range (wi P T + 1)) m _ (fun j hj => ⟨_, rfl, fun m Q q => ?_⟩) ?_
  · refine ⟨_, rfl, _, rfl, by simp; omega, ?_⟩
    exact lcR_m (fun i => D.lst (rowI (wi P T + 1) (ex (wi P T + 1) (cI P T i)))) (fun i => D.int (ex (wi P T + 1) (cI P T i) j)) (List.range (hi P T + 1)) m _ (fun i _ => ⟨_, rfl, fun m Q q => ⟨_, rfl, _, rfl, _, row_ix _ (rng_in _ j hj), q⟩⟩) ⟨hi P T + 1, fun i => ex (wi P T + 1) (cI P T i) j, by omega, rfl, q⟩
  refine ⟨_, rfl, _, rg_lenL _ _, ((hi P T + 1 : Nat) : Int), rfl, by omega, by omega, ?_⟩
  rw [natD_map]
  refine ⟨by simp; omega, ?_⟩
  refine lcR_m natD (fun i => D.lst (rowI (wi P T + 1) (tE P T i))) (List.range (hi P T + 1)) m _ (fun i hi' => ⟨_, rfl, fun m Q q => ?_⟩) q
  refine ⟨_, rfl, _, rfl, by simp; omega, ?_⟩
  exact lcR_m (fun j => D.lst (rowI (hi P T + 1) fun i => tE P T i j)) (fun j => D.int (tE P T i j)) (List.range (wi P T + 1)) m _ (fun j _ => ⟨_, rfl, fun m Q q => ⟨_, rfl, _, rfl, _, row_ix _ (rng_in _ i hi'), q⟩⟩) q
theorem law_table : ∀ as m Q, S_table as m Q → d_table (padn n_table as) m (fin Q) := by
  rintro as m Q ⟨P, T, hW, rfl, q⟩
  have := hW.few
  have := rk_le hW
  exact ⟨_, rfl, P, T, rfl, _, rfl, P, T, hW, rfl, _, by rw [tabI_len]; unfold hi; omega, rfl, q⟩
theorem Fr.sb {a b : Int} (h : Fr a b) : Sm b := by
  have := h.pos
  have := h.few
  have e : (2 : Nat) ^ 20 = 1048576 := by decide
  unfold Sm; omega
theorem Fr.sd {a b : Int} (h : Fr a b) : Sm (a - b) := by
  have := h.pos
  have := h.few
  have := h.lo
  have := h.up
  have e : (2 : Nat) ^ 20 = 1048576 := by decide
  unfold Sm; omega
end K15
namespace K03
open PySem L2 G T K15
def ckOk : Nat → List V → Prop := fun _ xs => ∃ f s t : Int, xs = [.int f, .int s, .int t] ∧ 0 ≤ f ∧ 0 ≤ s ∧ s < 2147482873
def ht (e : Nat × Nat) (a : Nat) : Nat := (if e.1 = a then 1 else 0) + (if e.2 = a then 1 else 0)
def dg (E : List (Nat × Nat)) (a : Nat) : Nat := (E.map fun e => ht e a).sum
def Evn (P : List Nat) (E : List (Nat × Nat)) : Prop := ∀ a ∈ P, dg E a % 2 = 0
def rest (n : Nat) (L : List Nat) : List Nat := (List.range n).filter fun i => decide (i ∉ L)
def Rnd (P : List Nat) (T : List (Nat × Nat)) (L : List Nat) : Prop := L.length = rk P (tl T L) + 1 ∧ ∀ k ∈ L, (out L k).length = rk P (tl T (out L k))
def Prt (P : List Nat) (T : List (Nat × Nat)) (L : List Nat) : Prop := rk P (tl T (rest T.length L)) ≠ rk P T ∧ ∀ k ∈ L, rk P (tl T (srt (rest T.length L ++ [k]))) = rk P T
def crs (T : List (Nat × Nat)) (S : List Nat) : List Nat := (List.range T.length).filter fun i => decide ((T.getD i (0, 0)).1 ∈ S) != decide ((T.getD i (0, 0)).2 ∈ S)
def dd (Ls : List (List Nat)) : List (List Nat) := Ls.foldl (fun acc L => if L ∈ acc then acc else acc ++ [L]) []
def srtL (Ls : List (List Nat)) : List (List Nat) := Ls.mergeSort fun a b => !D.lt (lotD b) (lotD a)
def cutsL (P : List Nat) (T : List (Nat × Nat)) : List (List Nat) := srtL (dd ((sb P.dropLast).map (crs T)))
open Classical in
noncomputable def rngs (P : List Nat) (T : List (Nat × Nat)) : List (List Nat) := (lots T.length).filter fun L => decide (Evn P (tl T L) ∧ Rnd P T L)
open Classical in
noncomputable def bnds (P : List Nat) (T : List (Nat × Nat)) : List (List Nat) := (cutsL P T).filter fun L => decide (Prt P T L)
def netD (P : List Nat) (T : List (Nat × Nat)) : D := .tup [plD P, .lst (T.map wayD)]
open Classical in
def S_is_round : G.Spec := fun as m Q => ∃ P T L, WbOk P T ∧ Lot T.length L ∧ as = [.val (webD P T), .val (lotD L)] ∧ Q (.bl (decide (Rnd P T L))) m
def S_ends_at : G.Spec := fun as m Q => ∃ P T L a, L.length ≤ 100 ∧ (∀ i ∈ L, i < T.length) ∧ as = [.val (webD P T), .val (lotD L), .val (.str (c1 a))] ∧ Q (natD (dg (tl T L) a)) m
open Classical in
def S_is_even_lot : G.Spec := fun as m Q => ∃ P T L, WbOk P T ∧ Lot T.length L ∧ as = [.val (webD P T), .val (lotD L)] ∧ Q (.bl (decide (Evn P (tl T L)))) m
def S_rank : G.Spec := fun as m Q => ∃ P T L, WbOk P T ∧ Lot T.length L ∧ as = [.val (webD P T), .val (lotD L)] ∧ Q (natD (rk P (tl T L))) m
def S_spare : G.Spec := fun as m Q => ∃ P T L, WbOk P T ∧ Lot T.length L ∧ as = [.val (webD P T), .val (lotD L)] ∧ Q (.int ((L.length : Nat) - (rk P (tl T L) : Nat) : Int)) m
def S_all_rings : G.Spec := fun as m Q => ∃ P T, WbOk P T ∧ as = [.val (webD P T)] ∧ Q (.lst ((rngs P T).map lotD)) m
def S_rings : G.Spec := fun as m Q => ∃ P T, WbOk P T ∧ as = [.val (webD P T)] ∧ Q (.tup ((rngs P T).map lotD)) m
def S_bonds : G.Spec := fun as m Q => ∃ P T, WbOk P T ∧ as = [.val (webD P T)] ∧ Q (.tup ((bnds P T).map lotD)) m
def S_law_tap : G.Spec := T.S_law_dip
def S_law_pick : G.Spec := fun as m Q => ∃ Ls : List D, Ls ≠ [] ∧ Ls.length ≤ 100 ∧ as = [.cask, .val (.lst Ls)] ∧ ∀ L ∈ Ls, Q L m
def S_law_spots : G.Spec := fun as m Q => ∃ n : Nat, 1 ≤ n ∧ n ≤ 4 ∧ as = [.cask, .val (natD n)] ∧ ∀ P, PlOk P → P.length = n → Q (plD P) m
def S_law_joint : G.Spec := fun as m Q => ∃ a b : Nat, as = [.val (.str (c1 a)), .val (.str (c1 b))] ∧ Q (wayD (min a b, max a b)) m
def S_law_net : G.Spec := fun as m Q => as = [.cask, .val (.int 4), .val (.int 5)] ∧ ∀ P T, WbOk P T → P.length ≤ 4 → T.length ≤ 5 → Q (netD P T) m
def S_law_lots : G.Spec := fun as m Q => ∃ P T, T.length ≤ 6 ∧ as = [.val (netD P T)] ∧ ∀ Ls : List (List Nat), Ls.Perm (gen T.length) → Q (.lst (Ls.map lotD)) m
def S_law_lot_right : G.Spec := fun as m Q => ∃ P T L, WbOk P T ∧ Lot T.length L ∧ as = [.val (webD P T), .val (netD P T), .val (lotD L)] ∧ Q (.bl true) m
def S_law_more_right : G.Spec := fun as m Q => ∃ P T L, WbOk P T ∧ Lot T.length L ∧ as = [.val (webD P T), .val (netD P T), .val (lotD L)] ∧ Q (.bl true) m
def S_law_two_right : G.Spec := fun as m Q => ∃ P T, ∃ Ls : List (List Nat), WbOk P T ∧ T.length ≤ 6 ∧ Ls.Perm (gen T.length) ∧ as = [.cask, .val (webD P T), .val (.lst (Ls.map lotD))] ∧ Q (.bl true) m
def S_law_sorts_right : G.Spec := fun as m Q => ∃ P T, ∃ Ls : List (List Nat), WbOk P T ∧ T.length ≤ 6 ∧ Ls.Perm (gen T.length) ∧ as = [.val (webD P T), .val (netD P T), .val (.lst (Ls.map lotD))] ∧ Q (.bl true) m
def S_law_right : G.Spec := fun as m Q => as = [.cask] ∧ Q (.bl true) m
theorem S_is_round_len : ∀ as m Q, S_is_round as m Q → as.length = 2 := by rintro as m Q ⟨_, _, _, _, _, rfl, _⟩; rfl
theorem S_ends_at_len : ∀ as m Q, S_ends_at as m Q → as.length = 3 := by rintro as m Q ⟨_, _, _, _, _, _, rfl, _⟩; rfl
theorem S_is_even_lot_len : ∀ as m Q, S_is_even_lot as m Q → as.length = 2 := by rintro as m Q ⟨_, _, _, _, _, rfl, _⟩; rfl
theorem S_all_rings_len : ∀ as m Q, S_all_rings as m Q → as.length = 1 := by rintro as m Q ⟨_, _, _, rfl, _⟩; rfl
theorem S_rings_len : ∀ as m Q, S_rings as m Q → as.length = 1 := by rintro as m Q ⟨_, _, _, rfl, _⟩; rfl
theorem S_law_tap_len : ∀ as m Q, S_law_tap as m Q → as.length = 2 := T.S_law_dip_len
theorem S_law_pick_len : ∀ as m Q, S_law_pick as m Q → as.length = 2 := by rintro as m Q ⟨_, _, _, rfl, _⟩; rfl
theorem S_law_spots_len : ∀ as m Q, S_law_spots as m Q → as.length = 2 := by rintro as m Q ⟨_, _, _, rfl, _⟩; rfl
theorem S_law_joint_len : ∀ as m Q, S_law_joint as m Q → as.length = 2 := by rintro as m Q ⟨_, _, rfl, _⟩; rfl
theorem S_law_net_len : ∀ as m Q, S_law_net as m Q → as.length = 3 := by rintro as m Q ⟨rfl, _⟩; rfl
theorem S_law_right_len : ∀ as m Q, S_law_right as m Q → as.length = 1 := by rintro as m Q ⟨rfl, _⟩; rfl
end K03
namespace K03
open PySem L2 G T K15
def pm10 {α : Type} : List α → List α
  | [x0, x1] => [x1, x0]
  | l => l
def d_is_round : DS := (dRet (dAndV (dOp eqD (dCall S_spare_of (dConsA (dVar 0) (dConsA (dVar 1) dNilA))) (dC (.int 1))) (dCallB allD (dConsL (dNew (dLc (dISrc (dVarB 1)) (tgN 2) dYes (dCall S_is_free_lot (dConsA (dVar 0) (dConsA (dCall S_without (dConsA (dVar 1) (dConsA (dVar 2) dNilA))) dNilA))) [2])) dNilL))))
abbrev n_is_round : Nat := 3
def d_ends_at : DS := (dRet (dCallB sumD (dConsL (dNew (dLc (dISrc (dCall S_ties_of (dConsA (dVar 0) (dConsA (dVar 1) dNilA)))) (tgN 3) dYes (dMt D.isS scountD (dVarB 3) (dConsL (dVarB 2) dNilL)) [3])) dNilL)))
abbrev n_ends_at : Nat := 4
def d_is_even_lot : DS := (dRet (dCallB allD (dConsL (dNew (dLc (dISrc (dPl (dVar 0))) (tgN 2) dYes (dOp eqD (dOp modD (dCall S_ends_at (dConsA (dVar 0) (dConsA (dVar 1) (dConsA (dVar 2) dNilA)))) (dC (.int 2))) (dC (.int 0))) [2])) dNilL)))
abbrev n_is_even_lot : Nat := 3
def d_all_rings : DS := (dRet (dNew (dLc (dISrc (dCall S_every_lot (dConsA (dVar 0) dNilA))) (tgN 1) (dAnd (dTest (dCall S_is_even_lot (dConsA (dVar 0) (dConsA (dVar 1) dNilA)))) (dTest (dCall S_is_round (dConsA (dVar 0) (dConsA (dVar 1) dNilA))))) (dVar 1) [1])))
abbrev n_all_rings : Nat := 2
def d_rings : DS := (dSeq (dDrop (dCall S_check_web (dConsA (dVar 0) dNilA)))
  (dRet (dCallB tupleD (dConsL (dCall S_all_rings (dConsA (dVar 0) dNilA)) dNilL))))
abbrev n_rings : Nat := 1
def d_law_pick : DS := (dRet (dOp ixD (dVarB 1) (dCall S_law_tap (dConsC 0 (dConsA (dCallB lenD0 (dConsL (dVarB 1) dNilL)) dNilA)))))
abbrev n_law_pick : Nat := 2
def d_law_spots : DS := (dSeq (dMix [2, 3] (dConsW (dNew (dCallN listD (dConsL (dC (.str "abcdefgh")) dNilL))) (dConsW (dNew (dLst dNilL)) dNilA)))
  (dSeq (dFor (dIRng (dVar 1)) (tgN 4) (dAppPop 3 2 (dCall S_law_tap (dConsC 0 (dConsA (dCallB lenD0 (dConsL (dVarB 2) dNilL)) dNilA)))))
  (dRet (dMt D.isS joinD (dC (.str "")) (dConsL (dNew (dCallN sortedD (dConsL (dVarB 3) dNilL))) dNilL)))))
abbrev n_law_spots : Nat := 5
def d_law_joint : DS := (dRet (dIfE (dTest (dOp leD (dVarB 0) (dVarB 1))) (dOp addD (dVarB 0) (dVarB 1)) (dOp addD (dVarB 1) (dVarB 0))))
abbrev n_law_joint : Nat := 2
def d_law_net : DS := (dSeq (dAsg 3 (dCall S_law_spots (dConsC 0 (dConsA (dOp addD (dC (.int 1)) (dCall S_law_tap (dConsC 0 (dConsA (dVar 1) dNilA)))) dNilA))))
  (dSeq (dAsgN 4 (dLst dNilL))
  (dSeq (dFor (dIRng (dCall S_law_tap (dConsC 0 (dConsA (dOp addD (dVarB 2) (dC (.int 1))) dNilA)))) (tgN 5) (dSeq (dApp 4 (dCall S_law_joint (dConsA (dCall S_law_pick (dConsC 0 (dConsA (dNew (dCallN listD (dConsL (dVarB 3) dNilL))) dNilA))) (dConsA (dCall S_law_pick (dConsC 0 (dConsA (dNew (dCallN listD (dConsL (dVarB 3) dNilL))) dNilA))) dNilA))))
  (dIf (dTest (dOp eqD (dCall S_law_tap (dConsC 0 (dConsA (dC (.int 5)) dNilA))) (dC (.int 0)))) (dSetI 4 (dOp ixD (dVarB 4) (dC (.int 0))) (dC (.int (-1)))) dNext)))
  (dFreeze 4 (dRet (dTup (dConsL (dVar 3) (dConsL (dVar 4) dNilL))))))))
abbrev n_law_net : Nat := 6
def d_law_right : DS := (dSeq (dAsg 1 (dCall S_law_net (dConsC 0 (dConsA (dC (.int 4)) (dConsA (dC (.int 5)) dNilA)))))
  (dSeq (dPar 2 3 (dConsL (dMake (dConsA (dOp ixD (dVarB 1) (dC (.int 0))) (dConsA (dCallB tupleD (dConsL (dOp ixD (dVarB 1) (dC (.int 1))) dNilL)) dNilA))) (dConsL (dCall S_law_lots (dConsA (dVar 1) dNilA)) dNilL)))
  (dSeq (dFor (dISrc (dVar 3)) (tgN 4) (dIf (dNot (dTest (dCall S_law_lot_right (dConsA (dVar 2) (dConsA (dVar 1) (dConsA (dVar 4) dNilA)))))) (dRet (dC (.bl false))) dNext))
  (dSeq (dFor (dIRng (dC (.int 6))) (tgN 5) (dSeq (dIf (dNot (dTest (dCall S_law_two_right (dConsC 0 (dConsA (dVar 2) (dConsA (dVar 3) dNilA)))))) (dRet (dC (.bl false))) dNext)
  (dIf (dNot (dTest (dCall S_law_more_right (dConsA (dVar 2) (dConsA (dVar 1) (dConsA (dCall S_law_pick (dConsC 0 (dConsA (dVar 3) dNilA))) dNilA)))))) (dRet (dC (.bl false))) dNext)))
  (dRet (dCall S_law_sorts_right (dConsA (dVar 2) (dConsA (dVar 1) (dConsA (dVar 3) dNilA)))))))))
abbrev n_law_right : Nat := 6
end K03
namespace K03
open T K15
theorem inc_ext {A B : List Nat} (ha : A.Pairwise (· < ·)) (hb : B.Pairwise (· < ·)) (h : ∀ x, x ∈ A ↔ x ∈ B) : A = B := by
  have na : A.Nodup := ha.imp fun h => Nat.ne_of_lt h
  have nb : B.Nodup := hb.imp fun h => Nat.ne_of_lt h
  have p : A.Perm B := (List.perm_ext_iff_of_nodup na nb).mpr h
  exact List.Perm.eq_of_pairwise (le := fun x y : Nat => x < y) (fun x y _ _ h h' => by omega) ha hb p
theorem lot_sl {n : Nat} {L C : List Nat} (hL : Lot n L) (hC : Lot n C) (h : ∀ k ∈ C, k ∈ L) : C.Sublist L := by
  have : C = L.filter fun k => decide (k ∈ C) := inc_ext hC.inc (hL.inc.filter _) fun x => by
    rw [List.mem_filter, decide_eq_true_eq]
    exact ⟨fun z => ⟨h x z, z⟩, fun z => z.2⟩
  rw [this]; exact List.filter_sublist
theorem Lot.out {n : Nat} {L : List Nat} (h : Lot n L) (k : Nat) : Lot n (out L k) := ⟨h.inc.filter _, fun i hi => h.inb i (mem_out.mp hi).1⟩
theorem Lot.nd {n : Nat} {L : List Nat} (h : Lot n L) : L.Nodup := h.inc.imp fun h => Nat.ne_of_lt h
theorem mem_srt {l : List Nat} {x : Nat} : x ∈ srt l ↔ x ∈ l := (srt_perm l).mem_iff
theorem add_lot {n : Nat} {L : List Nat} (h : Lot n L) {k : Nat} (hk : k < n) (nk : k ∉ L) : Lot n (srt (L ++ [k])) := by
  have nd : (L ++ [k]).Nodup := List.nodup_append.mpr ⟨Lot.nd h, by simp, fun a ha b hb e => by rw [List.mem_singleton] at hb; subst hb; subst e; exact nk ha⟩
  refine ⟨srt_inc nd, fun i hi => ?_⟩
  rcases List.mem_append.mp (mem_srt.mp hi) with z | z
  · exact h.inb i z
  · rw [List.mem_singleton] at z; omega
theorem mem_tl {T : List (Nat × Nat)} {L : List Nat} {p : Nat × Nat} : p ∈ tl T L ↔ ∃ i ∈ L, T.getD i (0, 0) = p := by unfold tl; exact List.mem_map
theorem tl_sub {T : List (Nat × Nat)} {A B : List Nat} (h : ∀ i ∈ A, i ∈ B) : ∀ p ∈ tl T A, p ∈ tl T B := fun p hp => by
  obtain ⟨i, hi, e⟩ := mem_tl.mp hp
  exact mem_tl.mpr ⟨i, h i hi, e⟩
section
variable {P : List Nat} {T : List (Nat × Nat)} (hW : WbOk P T)
include hW
theorem r_mono {A B : List Nat} (h : ∀ i ∈ A, i ∈ B) : rk P (tl T A) ≤ rk P (tl T B) := rk_sub hW.pl.nd (tl_sub h)
omit hW in
theorem r_same {A B : List Nat} (h : ∀ i, i ∈ A ↔ i ∈ B) : rk P (tl T A) = rk P (tl T B) := rk_same fun p => ⟨tl_sub (fun i => (h i).mp) p, tl_sub (fun i => (h i).mpr) p⟩
theorem r_len {L : List Nat} (h : ∀ i ∈ L, i < T.length) : rk P (tl T L) ≤ L.length := by
  have := rk_size hW.pl.nd _ (tl_ok hW.ok h)
  rw [tl_len] at this
  exact this
theorem end_in {i : Nat} (h : i < T.length) : (T.getD i (0, 0)).1 ∈ P ∧ (T.getD i (0, 0)).2 ∈ P := by
  have := hW.ties (T.getD i (0, 0)) (List.mem_of_getElem? (tie_get h))
  exact ⟨this.1, this.2.1⟩
theorem r_join {A B : List Nat} {k : Nat} (hk : k < T.length) (c : ¬ Conn (tl T A) (T.getD k (0, 0)).1 (T.getD k (0, 0)).2) (h : ∀ i, i ∈ B ↔ i ∈ A ∨ i = k) : rk P (tl T B) = rk P (tl T A) + 1 := by
  have e := end_in hW hk
  rw [← rk_join (E := tl T A) hW.pl.nd e.1 e.2 c]
  refine rk_same fun p => ?_
  rw [List.mem_append, List.mem_singleton, mem_tl, mem_tl]
  constructor
  · rintro ⟨i, hi, rfl⟩
    rcases (h i).mp hi with z | rfl
    · exact .inl ⟨i, z, rfl⟩
    · exact .inr rfl
  · rintro (⟨i, hi, rfl⟩ | rfl)
    · exact ⟨i, (h i).mpr (.inl hi), rfl⟩
    · exact ⟨k, (h k).mpr (.inr rfl), rfl⟩
theorem r_skip {A B : List Nat} {k : Nat} (c : Conn (tl T A) (T.getD k (0, 0)).1 (T.getD k (0, 0)).2) (h : ∀ i, i ∈ B ↔ i ∈ A ∨ i = k) : rk P (tl T B) = rk P (tl T A) := by
  have a : rk P (tl T B) ≤ rk P (tl T A) := rk_mono hW.pl.nd fun p hp => by
    obtain ⟨i, hi, rfl⟩ := mem_tl.mp hp
    rcases (h i).mp hi with z | rfl
    · exact .tie (mem_tl.mpr ⟨i, z, rfl⟩)
    · exact c
  have b := r_mono hW (A := A) (B := B) fun i hi => (h i).mpr (.inl hi)
  omega
theorem free_sub {L C : List Nat} (hL : Lot T.length L) (hC : Lot T.length C) (h : ∀ k ∈ C, k ∈ L) (f : L.length = rk P (tl T L)) : C.length = rk P (tl T C) := by
  have s : (tl T C).Sublist (tl T L) := (lot_sl hL hC h).map _
  have := spare_le hW.pl.nd s [] (tl_ok hW.ok hL.inb)
  rw [List.nil_append, List.nil_append, tl_len, tl_len] at this
  have := r_len hW hC.inb
  omega
end
def inc (e : Nat × Nat) (a : Nat) : Bool := decide (e.1 = a) != decide (e.2 = a)
def par (T : List (Nat × Nat)) (b : Nat → Bool) (a : Nat) : List Nat → Bool
  | [] => false
  | i :: r => (b i && inc (T.getD i (0, 0)) a) != par T b a r
theorem par_xor (T : List (Nat × Nat)) (b c : Nat → Bool) (a : Nat) : ∀ L, par T (fun i => b i != c i) a L = (par T b a L != par T c a L)
  | [] => rfl
  | i :: r => by
    simp only [par]
    rw [par_xor T b c a r]
    cases b i <;> cases c i <;> cases inc (T.getD i (0, 0)) a <;> cases par T b a r <;> cases par T c a r <;> rfl
theorem par_none {T : List (Nat × Nat)} {b : Nat → Bool} {a : Nat} : ∀ {L : List Nat}, (∀ i ∈ L, b i = false) → par T b a L = false
  | [], _ => rfl
  | i :: r, h => by
    simp only [par]
    rw [h i (by simp), par_none fun j hj => h j (by simp [hj])]; rfl
theorem par_one {T : List (Nat × Nat)} {k a : Nat} : ∀ {L : List Nat}, L.Nodup → k ∈ L → par T (fun i => decide (i = k)) a L = inc (T.getD k (0, 0)) a
  | [], _, h => by simp at h
  | i :: r, nd, h => by
    simp only [par]
    rcases List.mem_cons.mp h with hki | h
    · subst hki
      rw [par_none (T := T) (b := fun i => decide (i = k)) (a := a) (L := r) fun j hj => decide_eq_false fun e : j = k => (List.nodup_cons.mp nd).1 (e ▸ hj)]
      simp
    · have : i ≠ k := fun e => (List.nodup_cons.mp nd).1 (e ▸ h)
      rw [par_one (List.nodup_cons.mp nd).2 h, decide_eq_false this]
      simp
theorem ht_inc (e : Nat × Nat) (a : Nat) : inc e a = decide (ht e a % 2 = 1) := by
  unfold inc ht
  by_cases h1 : e.1 = a <;> by_cases h2 : e.2 = a <;> simp [h1, h2]
theorem par_dg (T : List (Nat × Nat)) (b : Nat → Bool) (a : Nat) : ∀ L : List Nat, par T b a L = decide (dg (tl T (L.filter b)) a % 2 = 1)
  | [] => rfl
  | i :: r => by
    simp only [par]
    rw [par_dg T b a r]
    cases hb : b i with
    | false => rw [List.filter_cons_of_neg (by simp [hb])]; simp
    | true =>
      rw [List.filter_cons_of_pos hb]
      have e : dg (tl T (i :: r.filter b)) a = ht (T.getD i (0, 0)) a + dg (tl T (r.filter b)) a := by unfold dg tl; simp
      rw [e, ht_inc]
      generalize ht (T.getD i (0, 0)) a = x
      generalize dg (tl T (r.filter b)) a = y
      by_cases h1 : x % 2 = 1 <;> by_cases h2 : y % 2 = 1
      · have : ¬ (x + y) % 2 = 1 := by omega
        simp [h1, h2, this]
      · have : (x + y) % 2 = 1 := by omega
        simp [h1, h2, this]
      · have : (x + y) % 2 = 1 := by omega
        simp [h1, h2, this]
      · have : ¬ (x + y) % 2 = 1 := by omega
        simp [h1, h2, this]
theorem conn_par {T : List (Nat × Nat)} {C L : List Nat} (nd : C.Nodup) (hs : ∀ i ∈ L, i ∈ C) {u v : Nat} (c : Conn (tl T L) u v) : ∃ b : Nat → Bool, (∀ i, b i = true → i ∈ L) ∧ ∀ a, par T b a C = (decide (u = a) != decide (v = a)) := by
  induction c with
  | refl x => exact ⟨fun _ => false, fun i h => (by cases h), fun a => by rw [par_none fun _ _ => rfl]; simp⟩
  | @tie p hp =>
    obtain ⟨i, hi, rfl⟩ := mem_tl.mp hp
    exact ⟨fun j => decide (j = i), fun j h => of_decide_eq_true h ▸ hi, fun a => par_one nd (hs i hi)⟩
  | @symm x y _ ih =>
    obtain ⟨b, h1, h2⟩ := ih
    refine ⟨b, h1, fun a => ?_⟩
    rw [h2]
    cases decide (x = a) <;> cases decide (y = a) <;> rfl
  | @trans x y z _ _ ih1 ih2 =>
    obtain ⟨b, h1, h2⟩ := ih1
    obtain ⟨c, g1, g2⟩ := ih2
    refine ⟨fun i => b i != c i, fun i h => ?_, fun a => ?_⟩
    · cases hb : b i with
      | true => exact h1 i hb
      | false =>
        have h : (b i != c i) = true := h
        rw [hb] at h
        exact g1 i (by simpa using h)
    · rw [par_xor, h2, g2]
      cases decide (x = a) <;> cases decide (y = a) <;> cases decide (z = a) <;> rfl
theorem sum_add {α : Type} (f g : α → Nat) (K : List α) : (K.map fun a => f a + g a).sum = (K.map f).sum + (K.map g).sum := by
  induction K with
  | nil => rfl
  | cons a r ih => simp only [List.map_cons, List.sum_cons, ih]; omega
theorem sum_at {K : List Nat} (nd : K.Nodup) (x : Nat) : (K.map fun a => if x = a then 1 else 0).sum = if x ∈ K then 1 else 0 := by
  induction K with
  | nil => rfl
  | cons a r ih =>
    obtain ⟨h1, h2⟩ := List.nodup_cons.mp nd
    simp only [List.map_cons, List.sum_cons, ih h2]
    by_cases e : x = a
    · subst e
      rw [if_pos rfl, if_neg h1, if_pos (by simp)]
    · rw [if_neg e]
      by_cases z : x ∈ r
      · rw [if_pos z, if_pos (by simp [z])]
      · rw [if_neg z, if_neg (by simp [e, z])]
theorem sum_ht {K : List Nat} (nd : K.Nodup) (e : Nat × Nat) : (K.map fun a => ht e a).sum = (if e.1 ∈ K then 1 else 0) + (if e.2 ∈ K then 1 else 0) := by
  unfold ht
  rw [sum_add, sum_at nd, sum_at nd]
theorem sum_even {α : Type} {f : α → Nat} {K : List α} (h : ∀ a ∈ K, f a % 2 = 0) : (K.map f).sum % 2 = 0 := by
  induction K with
  | nil => rfl
  | cons a r ih =>
    have h1 := h a (by simp)
    have h2 := ih fun b hb => h b (by simp [hb])
    simp only [List.map_cons, List.sum_cons]
    omega
theorem sum_dg {K : List Nat} (nd : K.Nodup) : ∀ {F : List (Nat × Nat)}, (∀ e ∈ F, e.1 ∈ K ↔ e.2 ∈ K) → (K.map (dg F)).sum % 2 = 0
  | [], _ => sum_even fun a _ => rfl
  | e :: F, h => by
    have e1 : (K.map (dg (e :: F))).sum = (K.map fun a => ht e a).sum + (K.map (dg F)).sum := by
      rw [← sum_add]
      congr 1
    rw [e1, sum_ht nd]
    have h1 := sum_dg nd (F := F) fun x hx => h x (by simp [hx])
    have h2 := h e (by simp)
    by_cases z : e.1 ∈ K
    · rw [if_pos z, if_pos (h2.mp z)]; omega
    · rw [if_neg z, if_neg fun y => z (h2.mpr y)]; omega
section
variable {P : List Nat} {T : List (Nat × Nat)} (hW : WbOk P T)
include hW
open Classical in
theorem even_conn {E : List Nat} (hE : Lot T.length E) (ev : Evn P (tl T E)) {k : Nat} (hk : k ∈ E) : Conn (tl T (out E k)) (T.getD k (0, 0)).1 (T.getD k (0, 0)).2 := by
  have hkn := hE.inb k hk
  have ends := end_in hW hkn
  let K := P.filter fun a => decide (Conn (tl T (out E k)) (T.getD k (0, 0)).1 a)
  have ndK : K.Nodup := hW.pl.nd.filter _
  have memK : ∀ a, a ∈ K ↔ a ∈ P ∧ Conn (tl T (out E k)) (T.getD k (0, 0)).1 a := fun a => by
    show a ∈ P.filter _ ↔ _
    rw [List.mem_filter, decide_eq_true_eq]
  have h1 : (K.map (dg (tl T E))).sum % 2 = 0 := sum_even fun a ha => ev a ((memK a).mp ha).1
  have h2 : (K.map (dg (tl T (out E k)))).sum % 2 = 0 := sum_dg ndK fun e he => by
    obtain ⟨i, hi, rfl⟩ := mem_tl.mp he
    have ei := end_in hW (hE.inb i (mem_out.mp hi).1)
    have ci : Conn (tl T (out E k)) (T.getD i (0, 0)).1 (T.getD i (0, 0)).2 := .tie he
    rw [memK, memK]
    exact ⟨fun ⟨_, c⟩ => ⟨ei.2, c.trans ci⟩, fun ⟨_, c⟩ => ⟨ei.1, c.trans ci.symm⟩⟩
  have h3 : (K.map (dg (tl T E))).sum = (K.map fun a => ht (T.getD k (0, 0)) a).sum + (K.map (dg (tl T (out E k)))).sum := by
    rw [← sum_add]
    congr 1
    refine List.map_congr_left fun a _ => ?_
    have p : E.Perm (k :: out E k) := by
      refine (List.perm_ext_iff_of_nodup (Lot.nd hE) (List.nodup_cons.mpr ⟨fun z => (mem_out.mp z).2 rfl, (Lot.nd (Lot.out hE k))⟩)).mpr fun x => ?_
      rw [List.mem_cons, mem_out]
      constructor
      · intro hx
        by_cases e : x = k
        · exact .inl e
        · exact .inr ⟨hx, e⟩
      · rintro (rfl | h)
        · exact hk
        · exact h.1
    have p2 := ((p.map fun i => T.getD i (0, 0)).map fun e => ht e a).sum_nat
    show (List.map (fun e => ht e a) (List.map (fun i => T.getD i (0, 0)) E)).sum = _
    rw [p2]
    show ht (T.getD k (0, 0)) a + _ = _
    rfl
  rw [h3, sum_ht ndK, if_pos ((memK _).mpr ⟨ends.1, .refl _⟩)] at h1
  by_cases z : (T.getD k (0, 0)).2 ∈ K
  · exact ((memK _).mp z).2
  · rw [if_neg z] at h1
    omega
theorem even_dep {E : List Nat} (hE : Lot T.length E) (ev : Evn P (tl T E)) {k : Nat} (hk : k ∈ E) : E.length ≠ rk P (tl T E) := by
  have c := even_conn hW hE ev hk
  have e := r_skip hW (A := out E k) (B := E) c fun i => by
    rw [mem_out]
    constructor
    · intro hi
      by_cases z : i = k
      · exact .inr z
      · exact .inl ⟨hi, z⟩
    · rintro (h | rfl)
      · exact h.1
      · exact hk
  have l1 := r_len hW (Lot.out hE k).inb
  have l2 := out_len (Lot.nd hE) hk
  omega
theorem ring_even {C : List Nat} (hC : Lot T.length C) (h : Rnd P T C) : Evn P (tl T C) := by
  intro a0 ha0
  have hne : C ≠ [] := fun z => by have := h.1; rw [z] at this; simp at this
  obtain ⟨k, hk⟩ : ∃ k, k ∈ C := List.exists_mem_of_ne_nil C hne
  have hkn := hC.inb k hk
  have l2 := out_len (Lot.nd hC) hk
  have f := h.2 k hk
  have c : Conn (tl T (out C k)) (T.getD k (0, 0)).1 (T.getD k (0, 0)).2 := by
    apply Classical.byContradiction
    intro z
    have := r_join hW (A := out C k) (B := C) hkn z fun i => by
      rw [mem_out]
      constructor
      · intro hi
        by_cases z : i = k
        · exact .inr z
        · exact .inl ⟨hi, z⟩
      · rintro (h | rfl)
        · exact h.1
        · exact hk
    have := h.1
    omega
  obtain ⟨b, b1, b2⟩ := conn_par (C := C) (Lot.nd hC) (fun i hi => (mem_out.mp hi).1) c
  let β : Nat → Bool := fun i => b i != decide (i = k)
  have hβk : β k = true := by
    have : b k = false := by
      cases z : b k with
      | false => rfl
      | true => exact absurd rfl (mem_out.mp (b1 k z)).2
    show (b k != decide (k = k)) = true
    rw [this]; simp
  have par0 : ∀ a, par T β a C = false := fun a => by
    show par T (fun i => b i != decide (i = k)) a C = false
    rw [par_xor, b2, par_one (Lot.nd hC) hk]
    unfold inc
    simp
  have hE : Lot T.length (C.filter β) := ⟨hC.inc.filter _, fun i hi => hC.inb i (List.mem_filter.mp hi).1⟩
  have evE : Evn P (tl T (C.filter β)) := fun a _ => by
    have := par0 a
    rw [par_dg] at this
    have := of_decide_eq_false this
    omega
  have all : ∀ j ∈ C, β j = true := fun j hj => by
    apply Classical.byContradiction
    intro z
    have fr := free_sub hW (L := out C j) (C := C.filter β) (Lot.out hC j) hE (fun i hi => by
      obtain ⟨h1, h2⟩ := List.mem_filter.mp hi
      exact mem_out.mpr ⟨h1, fun e => z (e ▸ h2)⟩) (h.2 j hj)
    exact even_dep hW hE evE (List.mem_filter.mpr ⟨hk, hβk⟩) fr
  rw [List.filter_eq_self.mpr all] at evE
  exact evE a0 ha0
theorem ring_in : ∀ (n : Nat) {C : List Nat}, C.length = n → Lot T.length C → C.length ≠ rk P (tl T C) → ∃ R, Lot T.length R ∧ Rnd P T R ∧ ∀ k ∈ R, k ∈ C := by
  intro n
  induction n with
  | zero =>
    intro C hn hC hf
    rw [List.eq_nil_of_length_eq_zero hn] at hf
    exact absurd (rk_nil P).symm hf
  | succ n ih =>
    intro C hn hC hf
    by_cases all : ∀ k ∈ C, (out C k).length = rk P (tl T (out C k))
    · refine ⟨C, hC, ⟨?_, all⟩, fun k hk => hk⟩
      obtain ⟨k, hk⟩ : ∃ k, k ∈ C := List.exists_mem_of_ne_nil C fun z => by rw [z] at hn; simp at hn
      have l2 := out_len (Lot.nd hC) hk
      have := all k hk
      have := r_mono hW (A := out C k) (B := C) fun i hi => (mem_out.mp hi).1
      have := r_len hW hC.inb
      omega
    · obtain ⟨k, z⟩ := Classical.not_forall.mp all
      obtain ⟨hk, z⟩ := Classical.not_imp.mp z
      have l2 := out_len (Lot.nd hC) hk
      obtain ⟨R, r1, r2, r3⟩ := ih (by omega) (Lot.out hC k) z
      exact ⟨R, r1, r2, fun i hi => (mem_out.mp (r3 i hi)).1⟩
open Classical in
theorem mem_rngs {L : List Nat} : L ∈ rngs P T ↔ Lot T.length L ∧ Rnd P T L := by
  unfold rngs
  rw [List.mem_filter, decide_eq_true_eq, lots_mem]
  exact ⟨fun h => ⟨h.1, h.2.2⟩, fun h => ⟨h.1, ring_even hW h.1 h.2, h.2⟩⟩
end
section
variable {P : List Nat} {T : List (Nat × Nat)} (hW : WbOk P T)
include hW
end
end K03
namespace K03
open PySem L2 G T K15
open Classical in
theorem law_is_round : ∀ as m Q, S_is_round as m Q → d_is_round (padn n_is_round as) m (fin Q) := by
  rintro as m Q ⟨P, T, L, hW, hL, rfl, q⟩
  have hll := llv
  have h11 := hW.few
  have hf := hL.few
  refine ⟨_, rfl, _, rfl, P, T, L, hW, by omega, hL.inb, rfl, _, rfl, _, rfl, ?_⟩
  by_cases e : ((L.length : Nat) : Int) - (rk P (tl T L) : Nat) = 1
  · rw [decide_eq_true e]
    refine ⟨_, rfl, _, rfl, by rw [List.length_map]; omega, ?_⟩
    refine lcR_m natD (fun k => .bl (decide ((out L k).length = rk P (tl T (out L k))))) L m _ (fun k hk => ⟨_, rfl, fun m Q q => ?_⟩) ⟨_, all_iff _ _, ?_⟩
    · have := out_few (L := L) (k := k)
      exact ⟨_, rfl, _, rfl, _, rfl, L, k, by omega, rfl, P, T, out L k, hW, by omega, (Lot.out hL k).inb, rfl, q⟩
    · have : (L.all fun k => decide ((out L k).length = rk P (tl T (out L k)))) = decide (Rnd P T L) := by
        by_cases z : ∀ k ∈ L, (out L k).length = rk P (tl T (out L k))
        · rw [decide_eq_true ⟨by omega, z⟩, List.all_eq_true]
          exact fun k hk => decide_eq_true (z k hk)
        · rw [decide_eq_false fun h : Rnd P T L => z h.2, Bool.eq_false_iff]
          intro y
          exact z fun k hk => of_decide_eq_true (List.all_eq_true.mp y k hk)
      rw [this]; exact q
  · rw [decide_eq_false e]
    rw [decide_eq_false fun h : Rnd P T L => e (by have := h.1; omega)] at q
    exact q
theorem count_tie (e : Nat × Nat) (a : Nat) : scountD (wayD e) [.str (c1 a)] = some (natD (ht e a)) := by
  show some (D.int (Txt.count (tS e) ⟨#[a]⟩)) = _
  have e1 : Txt.count (tS e) ⟨#[a]⟩ = PyProof.Rows.cnt a [e.1, e.2] := PyProof.Rows.count_is (tS e) a
  rw [e1, PyProof.Rows.cnt_cons, PyProof.Rows.cnt_cons, PyProof.Rows.cnt_nil]
  show some (D.int _) = some (D.int ((ht e a : Nat) : Int))
  congr 2
  unfold ht
  by_cases h1 : e.1 = a <;> by_cases h2 : e.2 = a <;> simp [h1, h2]
theorem sum_dgI (E : List (Nat × Nat)) (a : Nat) : (E.map fun e => ((ht e a : Nat) : Int)).sum = (dg E a : Nat) := by
  unfold dg
  induction E with
  | nil => rfl
  | cons e r ih => simp only [List.map_cons, List.sum_cons, ih]; omega
theorem law_ends_at : ∀ as m Q, S_ends_at as m Q → d_ends_at (padn n_ends_at as) m (fin Q) := by
  rintro as m Q ⟨P, T, L, a, h100, hL, rfl, q⟩
  have hll := llv
  refine ⟨_, rfl, _, rfl, P, T, L, _, h100, hL, .inl rfl, rfl, _, rfl, by rw [List.length_map, tl_len]; omega, ?_⟩
  refine lcR_m wayD (fun e => .int ((ht e a : Nat) : Int)) (tl T L) m _ (fun e _ => ⟨_, rfl, fun m Q q => ⟨_, rfl, rfl, _, rfl, _, count_tie e a, q⟩⟩) ⟨_, sumL _ _, ?_⟩
  rw [sum_dgI]; exact q
open Classical in
theorem law_is_even_lot : ∀ as m Q, S_is_even_lot as m Q → d_is_even_lot (padn n_is_even_lot as) m (fin Q) := by
  rintro as m Q ⟨P, T, L, hW, hL, rfl, q⟩
  have hll := llv
  have h11 := hW.few
  have hf := hL.few
  refine ⟨_, rfl, plS P, T.map tS, rfl, P.map cD, rfl, by rw [List.length_map]; exact len7 hW.pl, ?_⟩
  refine lcR_m cD (fun a => .bl (decide (dg (tl T L) a % 2 = 0))) P m _ (fun a _ => ⟨_, rfl, fun m Q q => ⟨_, rfl, _, rfl, _, rfl, P, T, L, a, by omega, hL.inb, rfl, _, mod_nat (p := dg (tl T L) a) (q := 2) (by decide), _, eq_nat _ 0, q⟩⟩) ⟨_, all_iff _ _, ?_⟩
  have : (P.all fun a => decide (dg (tl T L) a % 2 = 0)) = decide (Evn P (tl T L)) := by
    by_cases z : Evn P (tl T L)
    · rw [decide_eq_true z, List.all_eq_true]
      exact fun a ha => decide_eq_true (z a ha)
    · rw [decide_eq_false z, Bool.eq_false_iff]
      intro y
      exact z fun a ha => of_decide_eq_true (List.all_eq_true.mp y a ha)
  rw [this]; exact q
theorem add_pl {h : List Nat} {a : Nat} (hl : h.length ≤ 10) : addD (plD h) (cD a) = some (plD (h ++ [a])) := by
  have hll := llv
  show (if (plS h).length + (c1 a).length ≤ LL then some (D.str (plS h ++ c1 a)) else none) = _
  rw [if_pos (by rw [plS_len]; show h.length + 1 ≤ LL; omega)]
  have : plS h ++ c1 a = plS (h ++ [a]) := by
    show (⟨h.toArray ++ #[a]⟩ : Str) = ⟨(h ++ [a]).toArray⟩
    simp
  rw [this]
theorem sort_any (Ls : List (List Nat)) : sortL (Ls.map lotD) = (srtL Ls).map lotD := by
  unfold sortL srtL
  exact (List.map_mergeSort (r := fun a b => !D.lt (lotD b) (lotD a)) (s := fun a b : D => !D.lt b a) (f := lotD) (l := Ls) (fun a _ b _ => rfl)).symm
open Classical in
theorem law_all_rings : ∀ as m Q, S_all_rings as m Q → d_all_rings (padn n_all_rings as) m (fin Q) := by
  rintro as m Q ⟨P, T, hW, rfl, q⟩
  have hll := llv
  have h11 := hW.few
  have z2 : 2 ^ T.length ≤ 2 ^ 11 := Nat.pow_le_pow_right (by decide) h11
  refine ⟨_, rfl, P, T, h11, rfl, _, rfl, by rw [List.length_map, lots_len]; omega, ?_⟩
  refine lcR_fm lotD (fun L => decide (Evn P (tl T L) ∧ Rnd P T L)) lotD (lots T.length) m _ (fun L hL => ⟨_, rfl, fun m Q q => ?_, fun _ m Q q => ⟨_, rfl, q⟩⟩) q
  have lot := lots_mem.mp hL
  refine ⟨_, rfl, _, rfl, P, T, L, hW, lot, rfl, _, rfl, ?_⟩
  by_cases e : Evn P (tl T L)
  · rw [decide_eq_true e]
    refine ⟨_, rfl, _, rfl, P, T, L, hW, lot, rfl, _, rfl, ?_⟩
    have : decide (Rnd P T L) = decide (Evn P (tl T L) ∧ Rnd P T L) := decide_eq_decide.mpr ⟨fun h => ⟨e, h⟩, fun h => h.2⟩
    rw [this]; exact q
  · rw [decide_eq_false e]
    rw [decide_eq_false fun h : Evn P (tl T L) ∧ Rnd P T L => e h.1] at q
    exact q
theorem law_rings : ∀ as m Q, S_rings as m Q → d_rings (padn n_rings as) m (fin Q) := by
  rintro as m Q ⟨P, T, hW, rfl, q⟩
  exact ⟨_, rfl, P, T, rfl, _, rfl, P, T, hW, rfl, _, rfl, q⟩
end K03
namespace K03
open PySem L2 G T K15
theorem law_law_pick : ∀ as m Q, S_law_pick as m Q → d_law_pick (padn n_law_pick as) m (fin Q) := by
  rintro as m Q ⟨Ls, hne, hl, rfl, q⟩
  have hp : 0 < Ls.length := List.length_pos_iff.mpr hne
  refine ⟨_, rfl, _, rfl, .inl rfl, _, rfl, _, rfl, (Ls.length : Nat), by omega, by omega, rfl, fun d hd => ?_⟩
  have hd' : d < Ls.length := by omega
  have e := ix_lst (f := id) (xs := Ls) (i := d) (x := Ls[d]) (List.getElem?_eq_getElem hd')
  rw [List.map_id] at e
  exact ⟨_, e, q _ (List.getElem_mem hd')⟩
theorem law_law_spots : ∀ as m Q, S_law_spots as m Q → d_law_spots (padn n_law_spots as) m (fin Q) := by
  rintro as m Q ⟨n, hn1, hn4, rfl, q⟩
  have hll := llv
  have el : listD [.str "abcdefgh"] = some ([97, 98, 99, 100, 101, 102, 103, 104].map cD) := by
    show (if (Str.ofString "abcdefgh").length ≤ LL then some (charsD (Str.ofString "abcdefgh")) else none) = _
    rw [letters_chars, if_pos (by decide +kernel)]
  refine ⟨_, el, by decide, rfl, ?_⟩
  refine ⟨_, rfl, (n : Nat), rfl, by omega, by omega, ?_⟩
  rw [natD_map]
  refine forR_rg natD n (fun i env m' => m' = m ∧ ∃ (left found : List Nat) (x4 : Sl), found.length = i ∧ (left ++ found).Perm [97, 98, 99, 100, 101, 102, 103, 104] ∧ env = [.cask, .val (natD n), .own (left.map cD), .own (found.map cD), x4]) ?_ ?_ _ _ ⟨rfl, [97, 98, 99, 100, 101, 102, 103, 104], [], .no, rfl, by simp, rfl⟩
  · rintro env m' ⟨rfl, left, found, x4, hlen, hp, rfl⟩
    have hin : ∀ a ∈ found, 97 ≤ a ∧ a ≤ 104 := fun a ha => by
      have := hp.mem_iff.mp (List.mem_append_right left ha)
      simp at this
      omega
    have hnd : found.Nodup := by
      have : (left ++ found).Nodup := hp.nodup_iff.mpr (by decide)
      exact (List.nodup_append.mp this).2.1
    have hPl : PlOk (srt found) := ⟨srt_inc hnd, fun a ha => hin a ((srt_perm found).mem_iff.mp ha), by rw [(srt_perm found).length_eq]; omega, by rw [(srt_perm found).length_eq]; omega⟩
    have hpl := (srt_perm found).length_eq
    have hsrt := sorted_c1 (l := found) (by omega) fun a ha => by have := hin a ha; omega
    exact ⟨rfl, _, rfl, (srt found).map cD, hsrt, .str (plS (srt found)), joinD_c1 _ (by omega), q _ hPl (by omega)⟩
  · rintro i hi env m' ⟨rfl, left, found, x4, hlen, hp, rfl⟩
    have hl8 := hp.length_eq
    simp at hl8
    refine ⟨_, rfl, fun K hK => ?_⟩
    refine ⟨_, _, rfl, rfl, by decide, _, rfl, .inl rfl, _, rfl, _, rfl, (left.length : Nat), by omega, by omega, by rw [List.length_map], fun k hk => ?_⟩
    have hk' : k < left.length := by omega
    have hkx : left[k]? = some left[k] := List.getElem?_eq_getElem hk'
    refine ⟨k, cD left[k], rfl, by rw [List.getElem?_map, hkx]; rfl, by rw [List.length_map]; omega, by rw [List.length_map]; omega, hK _ _ ⟨rfl, left.eraseIdx k, found ++ [left[k]], .val (natD i), by rw [List.length_append, List.length_singleton]; omega, ?_, ?_⟩⟩
    · have h1 := _root_.T.erase_perm left k _ hkx
      have h2 : (left.eraseIdx k ++ (found ++ [left[k]])).Perm ((left[k] :: left.eraseIdx k) ++ found) := by
        have : (left.eraseIdx k ++ (found ++ [left[k]])).Perm ((left.eraseIdx k ++ found) ++ [left[k]]) := by rw [List.append_assoc]
        exact this.trans (List.perm_append_comm (l₁ := left.eraseIdx k ++ found) (l₂ := [left[k]]))
      exact (h2.trans (h1.append_right found)).trans hp
    · rw [erase_map, List.map_append]; rfl
theorem le_c (a b : Nat) : leD (cD a) (cD b) = some (.bl (decide (a ≤ b))) := by
  show some (D.bl (!sLt (c1 b) (c1 a))) = _
  rw [sLt_c1]
  by_cases h : a ≤ b
  · rw [decide_eq_true h, decide_eq_false (by omega)]; rfl
  · rw [decide_eq_false h, decide_eq_true (by omega)]; rfl
theorem law_law_joint : ∀ as m Q, S_law_joint as m Q → d_law_joint (padn n_law_joint as) m (fin Q) := by
  rintro as m Q ⟨a, b, rfl, q⟩
  refine ⟨_, rfl, _, rfl, _, le_c a b, _, rfl, ?_⟩
  by_cases h : a ≤ b
  · rw [decide_eq_true h]
    rw [Nat.min_eq_left h, Nat.max_eq_right h] at q
    exact ⟨_, rfl, _, rfl, _, add_c1 a b, q⟩
  · rw [decide_eq_false h]
    rw [Nat.min_eq_right (by omega), Nat.max_eq_left (by omega)] at q
    exact ⟨_, rfl, _, rfl, _, add_c1 b a, q⟩
theorem law_law_net : ∀ as m Q, S_law_net as m Q → d_law_net (padn n_law_net as) m (fin Q) := by
  rintro as m Q ⟨rfl, q⟩
  have hll := llv
  refine ⟨_, rfl, .inl rfl, _, rfl, .inl rfl, _, rfl, 4, by decide, by decide, rfl, fun d hd => ⟨natD (1 + d), by show some (D.int _) = some (D.int _); congr 1, ?_⟩⟩
  refine ⟨1 + d, by omega, by omega, rfl, fun P hP hPn => ?_⟩
  have hL := len7 hP
  have hne : P ≠ [] := List.length_pos_iff.mp hP.pos
  refine ⟨by show 0 ≤ LL; omega, ?_⟩
  refine ⟨_, rfl, .inl rfl, _, rfl, _, rfl, 6, by decide, by decide, rfl, fun d2 hd2 => ⟨(d2 : Nat), rfl, by omega, by omega, ?_⟩⟩
  rw [natD_map]
  refine forR_rg natD d2 (fun i env m' => m' = m ∧ ∃ (T : List (Nat × Nat)) (x5 : Sl), T.length = i ∧ (∀ p ∈ T, p.1 ∈ P ∧ p.2 ∈ P ∧ p.1 ≤ p.2) ∧ env = [.cask, .val (.int 4), .val (.int 5), .val (plD P), .own (T.map wayD), x5]) ?_ ?_ _ _ ⟨rfl, [], .no, rfl, fun p hp => (by cases hp), rfl⟩
  · rintro env m' ⟨rfl, T, x5, hlen, hT, rfl⟩
    exact ⟨_, rfl, _, rfl, _, rfl, by show 2 ≤ LL; omega, q P T ⟨hP, by omega, hT⟩ (by omega) (by omega)⟩
  · rintro i hi env m' ⟨rfl, T, x5, hlen, hT, rfl⟩
    have lst : listD [plD P] = some (P.map cD) := if_pos hL
    have pne : P.map cD ≠ [] := by simpa using hne
    have plen : (P.map cD).length ≤ 100 := by rw [List.length_map]; omega
    refine ⟨_, rfl, fun K hK => ?_⟩
    refine ⟨_, rfl, _, rfl, .inl rfl, _, rfl, _, lst, P.map cD, pne, plen, rfl, fun x hx => ?_⟩
    obtain ⟨a, ha, rfl⟩ := List.mem_map.mp hx
    refine ⟨_, rfl, .inl rfl, _, rfl, _, lst, P.map cD, pne, plen, rfl, fun y hy => ?_⟩
    obtain ⟨b, hb, rfl⟩ := List.mem_map.mp hy
    refine ⟨a, b, rfl, by rw [List.length_map]; omega, ?_⟩
    have e1 : T.map wayD ++ [wayD (min a b, max a b)] = (T ++ [(min a b, max a b)]).map wayD := by rw [List.map_append]; rfl
    rw [e1]
    have hT' : ∀ p ∈ T ++ [(min a b, max a b)], p.1 ∈ P ∧ p.2 ∈ P ∧ p.1 ≤ p.2 := fun p hp => by
      rcases List.mem_append.mp hp with hp | hp
      · exact hT p hp
      · rw [List.mem_singleton] at hp; subst hp; exact tie_mk ha hb
    have hl' : (T ++ [(min a b, max a b)]).length = i + 1 := by rw [List.length_append, List.length_singleton, hlen]
    generalize T ++ [(min a b, max a b)] = T' at hT' hl'
    refine ⟨_, rfl, .inl rfl, 5, by decide, by decide, rfl, fun d3 hd3 => ⟨_, eqD_int _ _, _, rfl, ?_⟩⟩
    by_cases z : ((d3 : Nat) : Int) = 0
    · rw [decide_eq_true z]
      have h0 : T'[0]? = some (T'[0]'(by omega)) := List.getElem?_eq_getElem (by omega)
      refine ⟨_, rfl, _, ix_lst (f := wayD) (i := 0) h0, _, rfl, -1, T'.length - 1, rfl, ?_, ?_⟩
      · unfold ixN
        rw [if_neg (by decide), if_pos (by rw [List.length_map]; omega), List.length_map]
        congr 1
        omega
      · have e2 : (T'.map wayD).set (T'.length - 1) (wayD (T'[0]'(by omega))) = (T'.set (T'.length - 1) (T'[0]'(by omega))).map wayD := by rw [List.map_set]
        rw [e2]
        refine hK _ _ ⟨rfl, _, .val (natD i), by rw [List.length_set]; exact hl', fun p hp => ?_, rfl⟩
        rcases List.mem_or_eq_of_mem_set hp with hp | hp
        · exact hT' p hp
        · rw [hp]; exact hT' _ (List.getElem_mem _)
    · rw [decide_eq_false z]
      exact hK _ _ ⟨rfl, T', .val (natD i), hl', hT', rfl⟩
end K03
namespace K03
open PySem L2 G T K15
structure Se (d : D) (n : Nat) : Prop where
  c : d.okd n = true
  e : PyData.eqv d.py d.py = true
theorem okdL_all : ∀ {ds : List D} {n : Nat}, (∀ d ∈ ds, d.okd n = true) → okdL ds n = true
  | [], _, _ => rfl
  | d :: r, n, h => by
    unfold okdL
    rw [h d (by simp), okdL_all fun x hx => h x (by simp [hx])]; rfl
theorem eqvL_all : ∀ {ds : List D}, (∀ d ∈ ds, PyData.eqv d.py d.py = true) → PyData.eqvAll (pyL ds) (pyL ds) = true
  | [], _ => rfl
  | d :: r, h => by
    simp only [pyL, PyData.eqvAll]
    rw [h d (by simp), eqvL_all fun x hx => h x (by simp [hx])]; rfl
theorem Se.int (i : Int) (n : Nat) : Se (.int i) n := ⟨rfl, by simp [D.py, PyData.eqv]⟩
theorem Se.bl (b : Bool) (n : Nat) : Se (.bl b) n := ⟨rfl, by simp [D.py, PyData.eqv]⟩
theorem Se.pl {h : List Nat} (hs : ∀ a ∈ h, a < 1000) (n : Nat) : Se (plD h) n := ⟨strOk_pl hs, by simp [D.py, PyData.eqv]⟩
theorem Se.tup {ds : List D} {n : Nat} (h : ∀ d ∈ ds, Se d n) : Se (.tup ds) (n + 1) where
  c := by
    unfold D.okd
    rw [show n + 1 - 1 = n from rfl, okdL_all fun d hd => (h d hd).c]; simp
  e := by
    simp only [D.py, PyData.eqv]
    exact eqvL_all fun d hd => (h d hd).e
theorem Se.lst {ds : List D} {n : Nat} (h : ∀ d ∈ ds, Se d n) : Se (.lst ds) (n + 1) where
  c := by
    unfold D.okd
    rw [show n + 1 - 1 = n from rfl, okdL_all fun d hd => (h d hd).c]; simp
  e := by
    simp only [D.py, PyData.eqv]
    exact eqvL_all fun d hd => (h d hd).e
theorem se_lot (L : List Nat) (n : Nat) : Se (lotD L) (n + 1) := Se.tup fun d hd => by
  obtain ⟨j, _, rfl⟩ := List.mem_map.mp hd
  exact .int _ _
theorem eq_lstS {ds : List D} (h : Se (.lst ds) 60) : eqD (.lst ds) (.lst ds) = some (.bl true) := by
  show (deepEq _ _).map _ = _
  unfold deepEq
  rw [h.c, h.e]; rfl
theorem law_law_right : ∀ as m Q, S_law_right as m Q → d_law_right (padn n_law_right as) m (fin Q) := by
  rintro as m Q ⟨rfl, q⟩
  have hll := llv
  refine ⟨_, rfl, .inl rfl, rfl, fun P T hW h4 h5 => ?_⟩
  refine ⟨_, rfl, plD P, rfl, _, rfl, .lst (T.map wayD), rfl, _, rfl, P, T, hW, rfl, _, rfl, P, T, by omega, rfl, fun Ls hp => ⟨_, _, rfl, ?_⟩⟩
  have lot : ∀ L ∈ Ls, Lot T.length L := fun L hL => gen_mem.mp (hp.mem_iff.mp hL)
  have hlen : (Ls.map lotD).length ≤ 100 := by
    rw [List.length_map, hp.length_eq, gen_len]
    have : 2 ^ T.length ≤ 2 ^ 6 := Nat.pow_le_pow_right (by decide) (by omega)
    omega
  have hne : Ls.map lotD ≠ [] := fun z => by
    have := congrArg List.length z
    rw [List.length_map, hp.length_eq, gen_len] at this
    have h2 : 0 < 2 ^ T.length := Nat.pow_pos (by decide)
    rw [this] at h2
    exact absurd h2 (by decide)
  refine ⟨_, rfl, Ls.map lotD, rfl, ?_⟩
  refine forR_l lotD Ls (fun _ env m' => m' = m ∧ ∃ s4, env = [.cask, .val (netD P T), .val (webD P T), .val (.lst (Ls.map lotD)), s4, .no]) ?_ ?_ _ _ ⟨rfl, .no, rfl⟩
  · rintro env m' ⟨rfl, s4, rfl⟩
    refine ⟨((6 : Nat) : Int), rfl, by decide, by decide, ?_⟩
    rw [natD_map]
    refine forR_rg natD 6 (fun _ env m2 => m2 = m' ∧ ∃ s5, env = [.cask, .val (netD P T), .val (webD P T), .val (.lst (Ls.map lotD)), s4, s5]) ?_ ?_ _ _ ⟨rfl, .no, rfl⟩
    · rintro env m2 ⟨rfl, s5, rfl⟩
      exact ⟨_, rfl, _, rfl, _, rfl, P, T, Ls, hW, by omega, hp, rfl, q⟩
    · rintro i _ env m2 ⟨rfl, s5, rfl⟩
      refine ⟨_, rfl, fun K hK => ?_⟩
      refine ⟨_, rfl, .inl rfl, _, rfl, _, rfl, P, T, Ls, hW, by omega, hp, rfl, _, rfl, ?_⟩
      refine ⟨_, rfl, _, rfl, _, rfl, .inl rfl, _, rfl, Ls.map lotD, hne, hlen, rfl, fun x hx => ?_⟩
      obtain ⟨L, hL, rfl⟩ := List.mem_map.mp hx
      exact ⟨P, T, L, hW, lot L hL, rfl, _, rfl, hK _ _ ⟨rfl, _, rfl⟩⟩
  · rintro i L hL env m' ⟨rfl, s4, rfl⟩
    refine ⟨_, rfl, fun K hK => ?_⟩
    exact ⟨_, rfl, _, rfl, _, rfl, P, T, L, hW, lot L (List.mem_of_getElem? hL), rfl, _, rfl, hK _ _ ⟨rfl, _, rfl⟩⟩
end K03
namespace K04
open PySem L2 G T K15 K03
open Classical in
noncomputable def brg (P : List Nat) (T : List (Nat × Nat)) : List Nat := (List.range T.length).filter fun i => decide (rk P (tl T (rest T.length [i])) ≠ rk P T)
def Exch (Ls : List (List Nat)) : Prop := ∀ A ∈ Ls, ∀ B ∈ Ls, B ≠ A → ∀ k ∈ A, k ∈ B → ∃ C ∈ Ls, ∀ i ∈ C, (i ∈ A ∨ i ∈ B) ∧ i ≠ k
open Classical in
def S_is_ring : G.Spec := fun as m Q => ∃ P T L, WbOk P T ∧ Lot T.length L ∧ as = [.val (webD P T), .val (lotD L)] ∧ Q (.bl (decide (Rnd P T L))) m
open Classical in
def S_is_bond : G.Spec := fun as m Q => ∃ P T L, WbOk P T ∧ Lot T.length L ∧ as = [.val (webD P T), .val (lotD L)] ∧ Q (.bl (decide (Prt P T L))) m
open Classical in
def S_is_even : G.Spec := fun as m Q => ∃ P T L, WbOk P T ∧ Lot T.length L ∧ as = [.val (webD P T), .val (lotD L)] ∧ Q (.bl (decide (Evn P (tl T L)))) m
def S_is_two_sided : G.Spec := fun as m Q => ∃ P T L, WbOk P T ∧ Lot T.length L ∧ as = [.val (webD P T), .val (lotD L)] ∧ Q (.bl (decide (L ∈ cutsL P T))) m
def S_bridge_lot : G.Spec := fun as m Q => ∃ P T, WbOk P T ∧ as = [.val (webD P T)] ∧ Q (lotD (brg P T)) m
def S_bridges : G.Spec := S_bridge_lot
open Classical in
def S_law_is_round : G.Spec := fun as m Q => ∃ P T L, WbOk P T ∧ Lot T.length L ∧ as = [.val (netD P T), .val (lotD L)] ∧ Q (.bl (decide (Rnd P T L))) m
def S_law_spots_lots : G.Spec := fun as m Q => ∃ P T, WbOk P T ∧ as = [.val (netD P T)] ∧ Q (.lst ((cutsL P T).map lotD)) m
def S_law_parts : G.Spec := fun as m Q => ∃ P T L, WbOk P T ∧ as = [.val (netD P T), .val (lotD L)] ∧ Q (natD (nc P (tl T (rest T.length L)))) m
def S_law_met : G.Spec := fun as m Q => ∃ A B x, A.length ≤ 100 ∧ (x = lotD B ∨ x = .lst (B.map natD)) ∧ as = [.val (lotD A), .val x] ∧ Q (natD (A.filter fun k => decide (k ∈ B)).length) m
open Classical in
def S_law_even_one : G.Spec := fun as m Q => ∃ P T L, WbOk P T ∧ Lot T.length L ∧ as = [.val (netD P T), .val (lotD L)] ∧ Q (.bl (decide (Evn P (tl T L)))) m
def S_law_exchanged : G.Spec := fun as m Q => ∃ Ls : List (List Nat), Ls.length ≤ 100 ∧ (∀ L ∈ Ls, L.length ≤ 20) ∧ Exch Ls ∧ as = [.val (.lst (Ls.map lotD))] ∧ Q (.bl true) m
def S_law_right : G.Spec := fun as m Q => as = [.cask] ∧ Q (.bl true) m
theorem S_law_right_len : ∀ as m Q, S_law_right as m Q → as.length = 1 := by rintro as m Q ⟨rfl, _⟩; rfl
end K04
namespace K04
open PySem L2 G K15 K03
open T hiding S_law_lots
def pm0 {α : Type} : List α → List α
  | [x0] => [x0]
  | l => l
def pm10 {α : Type} : List α → List α
  | [x0, x1] => [x1, x0]
  | l => l
def d_law_right : DS := (dSeq (dAsg 1 (dCall S_law_net (dConsC 0 (dConsA (dC (.int 4)) (dConsA (dC (.int 5)) dNilA)))))
  (dSeq (dPar 2 3 (dConsL (dMake (dConsA (dOp ixD (dVarB 1) (dC (.int 0))) (dConsA (dCallB tupleD (dConsL (dOp ixD (dVarB 1) (dC (.int 1))) dNilL)) dNilA))) (dConsL (dCall S_law_lots (dConsA (dVar 1) dNilA)) dNilL)))
  (dSeq (dAsg 5 (dNew (dCallN sortedD (dConsL (dNew (dLc (dISrc (dVarB 3)) (tgN 4) (dTest (dCall S_law_is_round (dConsA (dVar 1) (dConsA (dVar 4) dNilA)))) (dVar 4) [4])) dNilL))))
  (dSeq (dAsgT (tgT (tgCons (tgN 6) (tgCons (tgN 7) tgNil)) 2) (dTup (dConsL (dCall S_law_spots_lots (dConsA (dVar 1) dNilA)) (dConsL (dCall S_law_parts (dConsA (dVar 1) (dConsA (dTup dNilL) dNilA))) dNilL))))
  (dSeq (dAsg 8 (dNew (dLc (dISrc (dVarB 6)) (tgN 4) (dTest (dOp eqD (dCall S_law_parts (dConsA (dVar 1) (dConsA (dVar 4) dNilA))) (dOp addD (dVarB 7) (dC (.int 1))))) (dVar 4) [4])))
  (dSeq (dIf (dOr (dTest (dOp neD (dCall S_rings (dConsA (dVar 2) dNilA)) (dCallB tupleD (dConsL (dVarB 5) dNilL)))) (dTest (dOp neD (dCallK S_rings pm0 (dConsA (dVar 2) dNilA)) (dCall S_rings (dConsA (dVar 2) dNilA))))) (dRet (dC (.bl false))) dNext)
  (dSeq (dIf (dOr (dTest (dOp neD (dCall S_bonds (dConsA (dVar 2) dNilA)) (dCallB tupleD (dConsL (dVarB 8) dNilL)))) (dTest (dOp neD (dCallK S_bonds pm0 (dConsA (dVar 2) dNilA)) (dCall S_bonds (dConsA (dVar 2) dNilA))))) (dRet (dC (.bl false))) dNext)
  (dSeq (dAsg 9 (dNew (dLc (dISrc (dVarB 3)) (tgN 4) (dTest (dCall S_law_even_one (dConsA (dVar 1) (dConsA (dVar 4) dNilA)))) (dVar 4) [4])))
  (dSeq (dFor (dISrc (dVar 3)) (tgN 4) (dSeq (dAsg 10 (dNew (dLst (dConsL (dOp inDpD (dVarB 4) (dVarB 5)) (dConsL (dOp inDpD (dVarB 4) (dVarB 8)) (dConsL (dOp inDpD (dVarB 4) (dVarB 9)) (dConsL (dOp inDpD (dVarB 4) (dVarB 6)) dNilL)))))))
  (dSeq (dAsg 11 (dNew (dLst (dConsL (dCall S_is_ring (dConsA (dVar 2) (dConsA (dVar 4) dNilA))) (dConsL (dCall S_is_bond (dConsA (dVar 2) (dConsA (dVar 4) dNilA))) (dConsL (dCall S_is_even (dConsA (dVar 2) (dConsA (dVar 4) dNilA))) (dConsL (dCall S_is_two_sided (dConsA (dVar 2) (dConsA (dVar 4) dNilA))) dNilL)))))))
  (dIf (dTest (dOp neD (dVarB 11) (dVarB 10))) (dRet (dC (.bl false))) dNext))))
  (dSeq (dAsg 12 (dCall S_law_pick (dConsC 0 (dConsA (dVar 3) dNilA))))
  (dSeq (dAsg 10 (dNew (dLst (dConsL (dOp inDpD (dVarB 12) (dVarB 5)) (dConsL (dOp inDpD (dVarB 12) (dVarB 8)) (dConsL (dOp inDpD (dVarB 12) (dVarB 9)) (dConsL (dOp inDpD (dVarB 12) (dVarB 6)) dNilL)))))))
  (dSeq (dAsg 11 (dNew (dLst (dConsL (dCallK S_is_ring pm10 (dConsA (dVar 12) (dConsA (dVar 2) dNilA))) (dConsL (dCallK S_is_bond pm10 (dConsA (dVar 12) (dConsA (dVar 2) dNilA))) (dConsL (dCallK S_is_even pm10 (dConsA (dVar 12) (dConsA (dVar 2) dNilA))) dNilL))))))
  (dSeq (dIf (dTest (dOp neD (dOp addD (dVarB 11) (dNew (dLst (dConsL (dCallK S_is_two_sided pm10 (dConsA (dVar 12) (dConsA (dVar 2) dNilA))) dNilL)))) (dVarB 10))) (dRet (dC (.bl false))) dNext)
  (dSeq (dAsg 13 (dTupRg (dCallB lenD0 (dConsL (dOp ixD (dVarB 1) (dC (.int 1))) dNilL))))
  (dSeq (dIf (dOr (dTest (dOp neD (dCallB lenD0 (dConsL (dVarB 9) dNilL)) (dOp oneShlD (dC (.int 1)) (dCall S_spare (dConsA (dVar 2) (dConsA (dVar 13) dNilA)))))) (dTest (dOp neD (dCallB lenD0 (dConsL (dVarB 6) dNilL)) (dOp oneShlD (dC (.int 1)) (dCall S_rank (dConsA (dVar 2) (dConsA (dVar 13) dNilA))))))) (dRet (dC (.bl false))) dNext)
  (dSeq (dFor (dISrc (dVar 9)) (tgN 4) (dIf (dTest (dOp neD (dNew (dLc (dISrc (dVarB 6)) (tgN 15) (dTest (dOp eqD (dOp modD (dCallB intD (dConsL (dCall S_law_met (dConsA (dVar 4) (dConsA (dVar 15) dNilA))) dNilL)) (dC (.int 2))) (dC (.int 1)))) (dVar 15) [15])) (dNew (dLst dNilL)))) (dRet (dC (.bl false))) dNext))
  (dSeq (dAsg 14 (dNew (dLc (dIRng (dCallB lenD0 (dConsL (dOp ixD (dVarB 1) (dC (.int 1))) dNilL))) (tgN 16) (dTest (dOp eqD (dNew (dLc (dISrc (dVarB 5)) (tgN 4) (dTest (dOp inD (dVarB 16) (dVarB 4))) (dVar 4) [4])) (dNew (dLst dNilL)))) (dVar 16) [16])))
  (dSeq (dIf (dOr (dTest (dOp neD (dCall S_bridges (dConsA (dVar 2) dNilA)) (dCallB tupleD (dConsL (dVarB 14) dNilL)))) (dTest (dOp neD (dVarB 14) (dNew (dLc (dISrc (dVarB 8)) (tgN 4) (dTest (dOp eqD (dCallB lenD0 (dConsL (dVarB 4) dNilL)) (dC (.int 1)))) (dOp ixD (dVarB 4) (dC (.int 0))) [4]))))) (dRet (dC (.bl false))) dNext)
  (dRet (dAndV (dCall S_law_exchanged (dConsA (dVar 5) dNilA)) (dCall S_law_exchanged (dConsA (dVar 8) dNilA))))))))))))))))))))))
abbrev n_law_right : Nat := 17
end K04
namespace K04
open PySem L2 G T K15 K03
def toI (L : List Nat) : List Int := L.map fun i => ((i : Nat) : Int)
def leL (a b : List Nat) : Prop := ¬ toI b < toI a
section
variable {P : List Nat} {T : List (Nat × Nat)} (hW : WbOk P T)
include hW
end
section
variable {P : List Nat} {T : List (Nat × Nat)} (hW : WbOk P T)
include hW
theorem ring_through : ∀ (n : Nat) {M : List Nat} {k : Nat}, M.length = n → Lot T.length M → k < T.length → k ∉ M → Conn (tl T M) (T.getD k (0, 0)).1 (T.getD k (0, 0)).2 → ∃ R ∈ rngs P T, k ∈ R ∧ ∀ i ∈ R, i ∈ M ∨ i = k := by
  intro n
  induction n with
  | zero =>
    intro M k hn hM hk nk c
    rw [List.eq_nil_of_length_eq_zero hn] at c
    have l1 : Lot T.length [k] := ⟨by simp, fun i hi => by rw [List.mem_singleton] at hi; omega⟩
    refine ⟨[k], (mem_rngs hW).mpr ⟨l1, ⟨?_, fun j hj => ?_⟩⟩, by simp, fun i hi => by right; simpa using hi⟩
    · have := r_skip hW (A := []) (B := [k]) c fun i => by simp
      rw [this]
      show 1 = rk P [] + 1
      rw [rk_nil]
    · rw [List.mem_singleton] at hj
      subst hj
      have : out [j] j = [] := by unfold out; simp
      rw [this]
      exact (rk_nil P).symm
  | succ n ih =>
    intro M k hn hM hk nk c
    by_cases z : ∃ j ∈ M, Conn (tl T (out M j)) (T.getD k (0, 0)).1 (T.getD k (0, 0)).2
    · obtain ⟨j, hj, cj⟩ := z
      have l2 := out_len (K03.Lot.nd hM) hj
      obtain ⟨R, r1, r2, r3⟩ := ih (by omega) (K03.Lot.out hM j) hk (fun y => nk (mem_out.mp y).1) cj
      exact ⟨R, r1, r2, fun i hi => (r3 i hi).imp (fun y => (mem_out.mp y).1) id⟩
    · have need : ∀ j ∈ M, ¬ Conn (tl T (out M j)) (T.getD k (0, 0)).1 (T.getD k (0, 0)).2 := fun j hj y => z ⟨j, hj, y⟩
      have fr : M.length = rk P (tl T M) := by
        apply Classical.byContradiction
        intro nf
        obtain ⟨R, r1, r2, r3⟩ := ring_in hW _ rfl hM nf
        obtain ⟨j, hj⟩ : ∃ j, j ∈ R := List.exists_mem_of_ne_nil R fun y => by have := r2.1; rw [y] at this; simp at this
        have cj := even_conn hW r1 (ring_even hW r1 r2) hj
        have cj' : Conn (tl T (out M j)) (T.getD j (0, 0)).1 (T.getD j (0, 0)).2 := cj.sub (tl_sub fun i hi => mem_out.mpr ⟨r3 i (mem_out.mp hi).1, (mem_out.mp hi).2⟩)
        refine need j (r3 j hj) (c.mono fun p hp => ?_)
        obtain ⟨i, hi, rfl⟩ := mem_tl.mp hp
        by_cases e : i = j
        · subst e; exact cj'
        · exact .tie (mem_tl.mpr ⟨i, mem_out.mpr ⟨hi, e⟩, rfl⟩)
      have lR := add_lot hM hk nk
      have hl := (srt_perm (M ++ [k])).length_eq
      rw [List.length_append, List.length_singleton] at hl
      have memR : ∀ i, i ∈ srt (M ++ [k]) ↔ i ∈ M ∨ i = k := fun i => by rw [mem_srt, List.mem_append, List.mem_singleton]
      refine ⟨srt (M ++ [k]), (mem_rngs hW).mpr ⟨lR, ⟨?_, fun j hj => ?_⟩⟩, (memR k).mpr (.inr rfl), fun i hi => (memR i).mp hi⟩
      · rw [r_skip hW (A := M) (B := srt (M ++ [k])) c memR]; omega
      · have lo := out_len (K03.Lot.nd lR) hj
        by_cases e : j = k
        · subst e
          have : rk P (tl T (out (srt (M ++ [j])) j)) = rk P (tl T M) := r_same fun i => by
            rw [mem_out, memR]
            constructor
            · rintro ⟨y | y, w⟩
              · exact y
              · exact absurd y w
            · intro y
              exact ⟨.inl y, fun w => nk (w ▸ y)⟩
          omega
        · have hjM : j ∈ M := ((memR j).mp hj).resolve_right e
          have l2 := out_len (K03.Lot.nd hM) hjM
          have f2 := free_sub hW hM (K03.Lot.out hM j) (fun i hi => (mem_out.mp hi).1) fr
          have : rk P (tl T (out (srt (M ++ [k])) j)) = rk P (tl T (out M j)) + 1 := r_join hW (A := out M j) (B := out (srt (M ++ [k])) j) hk (need j hjM) fun i => by
            rw [mem_out, memR, mem_out]
            constructor
            · rintro ⟨y | y, w⟩
              · exact .inl ⟨y, w⟩
              · exact .inr y
            · rintro (⟨y, w⟩ | rfl)
              · exact ⟨.inl y, w⟩
              · exact ⟨.inr rfl, fun w => e w.symm⟩
          omega
end
end K04
namespace K04
open PySem L2 G T K15 K03
def sf (T : List (Nat × Nat)) (k : Nat) (p : Nat → Bool) (a : Nat) : Nat := ((List.range k).map fun i => if p i = true then ht (T.getD i (0, 0)) a else 0).sum
theorem dg_filter (T : List (Nat × Nat)) (p : Nat → Bool) (a : Nat) (xs : List Nat) : dg (tl T (xs.filter p)) a = (xs.map fun i => if p i = true then ht (T.getD i (0, 0)) a else 0).sum := by
  induction xs with
  | nil => rfl
  | cons i r ih =>
    rw [List.map_cons, List.sum_cons, ← ih]
    by_cases h : p i = true
    · rw [List.filter_cons_of_pos h, if_pos h]; rfl
    · rw [List.filter_cons_of_neg h, if_neg h, Nat.zero_add]
theorem lot_filter {k : Nat} {L : List Nat} (h : Lot k L) : (List.range k).filter (fun i => decide (i ∈ L)) = L := inc_ext (List.pairwise_lt_range.filter _) h.inc fun i => by
  rw [List.mem_filter, List.mem_range, decide_eq_true_eq]
  exact ⟨fun z => z.2, fun z => ⟨h.inb i z, z⟩⟩
theorem dg_lot (T : List (Nat × Nat)) {k : Nat} {L : List Nat} (h : Lot k L) (a : Nat) : dg (tl T L) a = sf T k (fun i => decide (i ∈ L)) a := by
  have := dg_filter T (fun i => decide (i ∈ L)) a (List.range k)
  rw [lot_filter h] at this
  exact this
theorem sf_xor (T : List (Nat × Nat)) (k : Nat) (p q : Nat → Bool) (a : Nat) : sf T k (fun i => p i != q i) a % 2 = (sf T k p a + sf T k q a) % 2 := by
  unfold sf
  induction List.range k with
  | nil => rfl
  | cons i r ih =>
    simp only [List.map_cons, List.sum_cons]
    dsimp only at ih
    have h0 : (if (p i != q i) = true then ht (T.getD i (0, 0)) a else 0) % 2 = ((if p i = true then ht (T.getD i (0, 0)) a else 0) + (if q i = true then ht (T.getD i (0, 0)) a else 0)) % 2 := by
      generalize p i = x
      generalize q i = y
      cases x <;> cases y <;> simp <;> omega
    omega
def xr (k : Nat) (L R : List Nat) : List Nat := (List.range k).filter fun i => decide (i ∈ L) != decide (i ∈ R)
theorem xr_lot (k : Nat) (L R : List Nat) : Lot k (xr k L R) := ⟨List.pairwise_lt_range.filter _, fun i hi => List.mem_range.mp (List.mem_filter.mp hi).1⟩
theorem mem_xr {k i : Nat} {L R : List Nat} : i ∈ xr k L R ↔ i < k ∧ (decide (i ∈ L) != decide (i ∈ R)) = true := by unfold xr; rw [List.mem_filter, List.mem_range]
section
variable {P : List Nat} {T : List (Nat × Nat)} (hW : WbOk P T)
include hW
end
end K04
namespace K04
open PySem L2 G K15 K03
open T hiding S_law_lots
theorem eqv_lot (A B : List Nat) : PyData.eqv (lotD A).py (lotD B).py = decide (A = B) := by
  show PyData.eqv (D.tup (A.map natD)).py (D.tup (B.map natD)).py = _
  simp only [D.py]
  show PyData.eqvAll _ _ = _
  exact eqvL_ints A B
theorem okd_lots (Ls : List (List Nat)) : (D.lst (Ls.map lotD)).okd 60 = true := (Se.lst (n := 59) fun d hd => by
  obtain ⟨L, _, rfl⟩ := List.mem_map.mp hd
  exact se_lot L 58).c
theorem se_tups (Ls : List (List Nat)) : Se (.tup (Ls.map lotD)) 60 := Se.tup (n := 59) fun d hd => by
  obtain ⟨L, _, rfl⟩ := List.mem_map.mp hd
  exact se_lot L 58
def fl (E : List (Nat × Nat)) : List Nat := (E.map fun e => [e.1, e.2]).flatten
end K04
namespace G
open PySem L2
theorem Rel.but {K : PySem.W.Frag} {g : Gp} {c : Option Addr} {F F' H H' : Hp} {env : Env'} {m m' : Nat} {σ : St} {Dl : Addr} (r : Rel K g c F env m σ H) (no : ∀ a, Own env σ a → a ≠ Dl) (ff : Ex F F') (fh : Ex F' H') (hh : ∀ a o, H a = some o → c ≠ some a → a ≠ Dl → Kp o (H' a))
    (new : ∀ a o, F' a = some o → F a = some o ∨ H a = none) (ck : Ck g c m' F' H') : Rel K g c F' env m' σ H' :=
  ⟨fh, r.len, fun i s h => (r.slot i s h).keep ff fun a ha => (by
    obtain ⟨h1, h2, u, h3, h4, _⟩ := (r.slot i s h).at' ha
    refine ⟨?_, by rw [h3, (hh a u h3 h2 (no a ⟨i, s, h, ha⟩)).get h4]⟩
    cases q : F' a with
    | none => rfl
    | some o =>
      rcases new a o q with z | z
      · rw [h1] at z; cases z
      · rw [h3] at z; cases z), r.sep, ck⟩
section
variable (f : D → Env' → Option Env') (dt : DT) (di1 : DL) (f1 : D → Env' → Option Env') (dt1 : DT) (de : DE) (vs1 : List Nat)
def Lc2R (env : Env') : List D → Nat → (List D → Nat → Prop) → Prop
  | [], m, Q => Q [] m
  | d :: ds, m, Q => ∃ env2, f d env = some env2 ∧ dt env2 m fun b m1 => if b = true then di1 env2 m1 fun its m2 => its.length ≤ 100 ∧ LcR f1 dt1 de (wipeE env2 vs1) its m2 fun ys m3 => Lc2R env ds m3 fun zs m4 => Q (ys ++ zs) m4 else Lc2R env ds m1 Q
end
def dLc2 (di : DL) (f : D → Env' → Option Env') (dt : DT) (di1 : DL) (f1 : D → Env' → Option Env') (dt1 : DT) (de : DE) (vs vs1 : List Nat) : DL := fun env m Q => di env m fun its m1 => its.length ≤ 100 ∧ Lc2R f dt di1 f1 dt1 de vs1 (wipeE env vs) its m1 Q
section
variable {g : Gp} {X : Cx} {elt tg iter tg1 iter1 : Expr} {ifs ifs1 : List Expr} {scope : Scope} {own : List (Str × Nat)} {pos : Pos} {di di1 : DL} {T T1 : TG} {f f1 : D → Env' → Option Env'} {js js1 : List Nat} {dt dt1 : DT} {de : DE}
abbrev GOk (X : Cx) (g : Gp) (T : TG) (f : D → Env' → Option Env') (js : List Nat) : Prop := ∀ (c : Option Addr) (F : Hp) (env : Env') (m : Nat) (σ : St) (H : Hp) (d : D) (v : V) (env2 : Env') (Q : St → Hp → Prop), Rel X.K g c F env m σ H → Rep X.K g F d v → f d env = some env2 →
    (∀ σ2, Rel X.K g c F env2 m σ2 H → (∀ a, Own env2 σ2 a → Own env σ a) → σ2.length = σ.length → (∀ i, i ∉ js → σ2[i]? = σ[i]?) → Q σ2 H) → T v σ H Q
theorem own_wipe {env : Env'} {σ : St} {a : Addr} : ∀ (vs : List Nat), Own (wipeE env vs) (L2.wipe σ vs) a → Own env σ a
  | [], h => h
  | v :: vs, ⟨i, s, h1, h2⟩ => by
    refine own_wipe vs ?_
    unfold wipeE at h1
    unfold L2.wipe at h2
    by_cases e : v = i
    · subst e
      by_cases hl : v < (wipeE env vs).length
      · rw [List.getElem?_set_self hl] at h1
        cases h1
        simp [Sl.adr] at h2
      · rw [List.getElem?_eq_none (by rw [List.length_set]; omega)] at h1; cases h1
    · rw [List.getElem?_set_ne e] at h1
      rw [List.getElem?_set_ne e] at h2
      exact ⟨i, s, h1, h2⟩
theorem lc2_weak (vs vs1 : List Nat) (hj : ∀ j ∈ js, j ∈ vs) (hj1 : ∀ j ∈ js1, j ∈ vs1) (hg : GOk X g T f js) (hg1 : GOk X g T1 f1 js1) :
    ∀ σ H Q, tN X.K g (dLc2 di f dt di1 f1 dt1 de vs vs1) σ H Q → tLc2 (tI X.K g true di) T (tT X.K g dt) (tI X.K g false di1) T1 (tT X.K g dt1) (tD X.K g de) vs vs1 σ H Q := fun σ H Q ⟨c, F, env, m, Q1, r, h, k⟩ =>
  ⟨c, F, env, m, _, r, h, fun J H1 F1 m1 its lk r1 fr1 _ hk w ⟨hz, q⟩ => fun Dl hD => by
    have nD : F1 Dl = none := ex_none r1.sub hD
    have cD : c ≠ some Dl := fun z => by obtain ⟨_, xs, e, _⟩ := r1.ck Dl z; rw [hD] at e; cases e
    have hD0 : H Dl = none := by
      cases z : H Dl with
      | none => rfl
      | some o => exact (fr1.sm z cD hD).elim
    have noD : ∀ a, Own env σ a → a ≠ Dl := fun a ⟨i, s, h1, h2⟩ e => by
      obtain ⟨_, _, u, hu⟩ := (r1.slot i s h1).at h2
      rw [e, hD] at hu; cases hu
    refine ⟨fun i kk H' => ∃ F' m' acc accD, kk = its.length - i ∧ i ≤ its.length ∧ Fresh c F1 H1 F' H' ∧ Ck g c m' F' H' ∧ F' Dl = none ∧ H' Dl = some (.lst acc) ∧ RepL X.K g F' accD acc ∧ accD.length ≤ 100 * i ∧ Lc2R f dt di1 f1 dt1 de vs1 (wipeE env vs) (its.drop i) m' (fun ys m3 => Q1 (accD ++ ys) m3), ⟨its.length, F1, m1, [], [], rfl, Nat.zero_le _, ?_, ?_, nD, upd_same, .nil, Nat.le_refl _, q⟩, ?_⟩
    · have n := New.lay (F := F1) (o := .lst []) r1.sub hD
      exact n.fresh r1.ck
    · exact r1.ck.new (New.lay r1.sub hD)
    · rintro i kk H' ⟨F', m', acc, accD, rfl, hi, fr, ck, nF, hA, rA, lA, q'⟩
      have r' := r1.fresh fr ck
      have lk' : ∀ p ∈ lk, H' p.1 = some p.2 := fun p hp => fr.hh p.1 p.2 (hk p hp).1 (hk p hp).2.1 (hk p hp).2.2
      obtain ⟨go, stop⟩ := w i F' H' fr.ff r'.sub lk'
      by_cases hlt : i < its.length
      · have hd : its[i]? = some its[i] := List.getElem?_eq_getElem hlt
        rw [List.drop_eq_getElem_cons hlt] at q'
        obtain ⟨g1, g2⟩ := go _ hd
        obtain ⟨env2, e2, q2⟩ := q'
        refine .inr ⟨g1, fun H2 => ∃ F2 m2 acc2 accD2, Fresh c F1 H1 F2 H2 ∧ Ck g c m2 F2 H2 ∧ F2 Dl = none ∧ H2 Dl = some (.lst acc2) ∧ RepL X.K g F2 accD2 acc2 ∧ accD2.length ≤ 100 * (i + 1) ∧ Lc2R f dt di1 f1 dt1 de vs1 (wipeE env vs) (its.drop (i + 1)) m2 (fun ys m3 => Q1 (accD2 ++ ys) m3), fun H2 ⟨F2, m2, acc2, accD2, a1, a2, a3, a4, a5, a6, a7⟩ => ⟨its.length - (i + 1), by omega, F2, m2, acc2, accD2, rfl, by omega, a1, a2, a3, a4, a5, a6, a7⟩, fun x H3 y => ?_⟩
        obtain ⟨F3, n3, rp3⟩ := g2 x H3 y
        have r3 := (r'.wipe vs).new n3
        have fr3 := fr.trans (n3.fresh ck)
        have ck3 := ck.new n3
        have kp : ∀ {Fa Ha : Hp} {ac : List V}, Fa Dl = none → Ha Dl = some (.lst ac) → ∀ {F5 H5 : Hp}, Fresh c Fa Ha F5 H5 → F5 Dl = none ∧ H5 Dl = some (.lst ac) := fun {Fa Ha ac} na ha {F5 H5} f5 => by
          refine ⟨?_, f5.hh _ _ ha cD⟩
          cases z : F5 Dl with
          | none => rfl
          | some o =>
            rcases f5.new Dl o z with y | y
            · rw [na] at y; cases y
            · rw [ha] at y; cases y
        refine hg c F3 _ m' _ H3 _ x env2 _ r3 rp3 e2 fun σ4 r4 o4 l4 a4 => ⟨?_, ?_⟩
        · refine Eq.trans (wipe_same l4 fun j hj' => a4 j fun z => hj' (hj j z)) (wipe_wipe σ vs)
        · obtain ⟨k3, k3'⟩ := kp nF hA (n3.fresh ck)
          have no2 : ∀ a, Own env2 σ4 a → a ≠ Dl := fun a ha => noD a (own_wipe vs (o4 a ha))
          refine ⟨c, F3, env2, m', _, r4, q2, fun b H5 F5 m5 r5 f5 q5 => ?_⟩
          obtain ⟨k5, k5'⟩ := kp k3 k3' f5
          cases b with
          | false => exact ⟨F5, m5, acc, accD, fr3.trans f5, r5.ck, k5, k5', (rA.mono n3.ff).mono f5.ff, by omega, q5⟩
          | true =>
            refine ⟨c, F5, env2, m5, _, r5, q5, fun J1 H6 F6 m6 its1 lk1 r6 f6 hl1 hk1 w1 ⟨hz1, q6⟩ => ?_⟩
            have hl1 := hl1 rfl
            subst hl1
            obtain ⟨k6, k6'⟩ := kp k5 k5' f6
            have fr6 := (fr3.trans f5).trans f6
            refine ⟨fun j kk H' => ∃ F' m' acc accD, kk = its1.length - j ∧ j ≤ its1.length ∧ Fresh c F1 H1 F' H' ∧ Ex F6 F' ∧ (∀ a o, H6 a = some o → c ≠ some a → a ≠ Dl → Kp o (H' a)) ∧ (∀ a o, F' a = some o → F6 a = some o ∨ H6 a = none) ∧ Ck g c m' F' H' ∧ F' Dl = none ∧ H' Dl = some (.lst acc) ∧ RepL X.K g F' accD acc ∧ accD.length ≤ 100 * i + j ∧
                LcR f1 dt1 de (wipeE env2 vs1) (its1.drop j) m' (fun ys m3 => Lc2R f dt di1 f1 dt1 de vs1 (wipeE env vs) (its.drop (i + 1)) m3 fun zs m4 => Q1 (accD ++ (ys ++ zs)) m4), ⟨its1.length, F6, m6, acc, accD, rfl, Nat.zero_le _, fr6, fun _ _ z => z, fun _ _ z _ _ => .of z, fun _ _ z => .inl z, r6.ck, k6, k6', ((rA.mono n3.ff).mono f5.ff).mono f6.ff, by omega, q6⟩, ?_⟩
            rintro j kk Hj ⟨Fj, mj, accj, accDj, rfl, hj', frj, ej, hhj, newj, ckj, nFj, hAj, rAj, lAj, qj⟩
            have rj : Rel X.K g c Fj env2 mj σ4 Hj := r6.but no2 ej frj.fh hhj newj ckj
            obtain ⟨go1, stop1⟩ := w1 j Fj Hj ej rj.sub (fun _ z => by cases z)
            by_cases hlt1 : j < its1.length
            · have hd1 : its1[j]? = some its1[j] := List.getElem?_eq_getElem hlt1
              rw [List.drop_eq_getElem_cons hlt1] at qj
              obtain ⟨g3, g4⟩ := go1 _ hd1
              obtain ⟨env3, e3, q3⟩ := qj
              refine .inr ⟨g3, fun H2 => ∃ F' m' acc accD, Fresh c F1 H1 F' H2 ∧ Ex F6 F' ∧ (∀ a o, H6 a = some o → c ≠ some a → a ≠ Dl → Kp o (H2 a)) ∧ (∀ a o, F' a = some o → F6 a = some o ∨ H6 a = none) ∧ Ck g c m' F' H2 ∧ F' Dl = none ∧ H2 Dl = some (.lst acc) ∧ RepL X.K g F' accD acc ∧ accD.length ≤ 100 * i + (j + 1) ∧
                LcR f1 dt1 de (wipeE env2 vs1) (its1.drop (j + 1)) m' (fun ys m3 => Lc2R f dt di1 f1 dt1 de vs1 (wipeE env vs) (its.drop (i + 1)) m3 fun zs m4 => Q1 (accD ++ (ys ++ zs)) m4), fun H2 ⟨F2, m2, acc2, accD2, a1, a2, a3, a4, a5, a6, a7, a8, a9, a10⟩ => ⟨its1.length - (j + 1), by omega, F2, m2, acc2, accD2, rfl, by omega, a1, a2, a3, a4, a5, a6, a7, a8, a9, a10⟩, fun x7 H7 y7 => ?_⟩
              obtain ⟨F7, n7, rp7⟩ := g4 x7 H7 y7
              have r7 := (rj.wipe vs1).new n7
              obtain ⟨k7, k7'⟩ := kp nFj hAj (n7.fresh ckj)
              refine hg1 c F7 _ mj _ H7 _ x7 env3 _ r7 rp7 e3 fun σ8 r8 o8 l8 a8 => ⟨?_, ?_⟩
              · exact Eq.trans (wipe_same l8 fun j' hj2 => a8 j' fun z => hj2 (hj1 j' z)) (wipe_wipe σ4 vs1)
              · -- what a step from here keeps
                have up : ∀ {F9 H9 : Hp}, Fresh c F7 H7 F9 H9 → Ex F6 F9 ∧ (∀ a o, H6 a = some o → c ≠ some a → a ≠ Dl → Kp o (H9 a)) ∧ (∀ a o, F9 a = some o → F6 a = some o ∨ H6 a = none) := fun {F9 H9} f9 => by
                  have f := (n7.fresh ckj).trans f9
                  refine ⟨ej.trans f.ff, fun a o z n d => (hhj a o z n d).trans fun u hu => f.hk a u hu n, fun a o z => ?_⟩
                  rcases f.new a o z with y | y
                  · exact newj a o y
                  · cases u : H6 a with
                    | none => exact .inr rfl
                    | some o6 =>
                      by_cases e1 : c = some a
                      · rw [f.nc a e1] at z; cases z
                      · by_cases e2 : a = Dl
                        · rw [e2, hAj] at y; cases y
                        · exact ((hhj a o6 u e1 e2).ne y).elim
                refine ⟨c, F7, env3, mj, _, r8, q3, fun b H9 F9 m9 r9 f9 q9 => ?_⟩
                have frj7 := frj.trans (n7.fresh ckj)
                obtain ⟨k9, k9'⟩ := kp k7 k7' f9
                cases b with
                | false =>
                  obtain ⟨u1, u2, u3⟩ := up f9
                  exact ⟨F9, m9, accj, accDj, frj7.trans f9, u1, u2, u3, r9.ck, k9, k9', (rAj.mono n7.ff).mono f9.ff, by omega, q9⟩
                | true =>
                  refine ⟨c, F9, env3, m9, _, r9, q9, fun v0 H0 F0 m0 y0 r0 f0 rp0 q0 => ?_⟩
                  obtain ⟨u1, u2, u3⟩ := up (f9.trans f0)
                  obtain ⟨k0, k0'⟩ := kp k9 k9' f0
                  have lacc : accj.length = accDj.length := rAj.length
                  have fr0 := (frj7.trans f9).trans f0
                  refine ⟨accj, k0', ll' (by show accj.length < 100000; omega), F0, m0, accj ++ [v0], accDj ++ [y0], ⟨fr0.ff, fun a o z => ?_, fun a o z n => ?_, fr0.new, fr0.nc⟩, u1, fun a o z n d => ?_, u3, ⟨fun a z => ?_, TabF.upd r0.ck.tb k0' rfl no_code⟩, k0, upd_same, (((rAj.mono n7.ff).mono f9.ff).mono f0.ff).append (.cons rp0 .nil), ?_, ?_⟩
                  · have : a ≠ Dl := fun e => by subst e; rw [k0] at z; cases z
                    rw [upd_ne this]; exact fr0.fh a o z
                  · have : a ≠ Dl := fun e => by subst e; rw [hD] at z; cases z
                    rw [upd_ne this]; exact fr0.hk a o z n
                  · rw [upd_ne d]; exact u2 a o z n d
                  · have : a ≠ Dl := fun e => by subst e; exact cD z
                    obtain ⟨b1, xs, b2, b3⟩ := r0.ck a z
                    exact ⟨b1, xs, by rw [upd_ne this]; exact b2, b3⟩
                  · rw [List.length_append, List.length_singleton]; omega
                  · have : (fun ys m3 => Lc2R f dt di1 f1 dt1 de vs1 (wipeE env vs) (its.drop (i + 1)) m3 fun zs m4 => Q1 (accDj ++ [y0] ++ (ys ++ zs)) m4) = fun ys m3 => Lc2R f dt di1 f1 dt1 de vs1 (wipeE env vs) (its.drop (i + 1)) m3 fun zs m4 => Q1 (accDj ++ (y0 :: ys ++ zs)) m4 := by
                      funext ys m3; congr; funext zs m4; rw [List.append_assoc]; rfl
                    rw [this]; exact q0
            · have hi' : j = its1.length := by omega
              refine .inl ⟨stop1 hi', ?_⟩
              rw [List.drop_eq_nil_of_le (by omega)] at qj
              have q'' : Lc2R f dt di1 f1 dt1 de vs1 (wipeE env vs) (its.drop (i + 1)) mj (fun zs m4 => Q1 (accDj ++ zs) m4) := qj
              exact ⟨Fj, mj, accj, accDj, frj, ckj, nFj, hAj, rAj, by omega, q''⟩
      · have hi' : i = its.length := by omega
        refine .inl ⟨stop hi', ?_⟩
        rw [List.drop_eq_nil_of_le (by omega)] at q'
        have q'' : Q1 (accD ++ []) m' := q'
        rw [List.append_nil] at q''
        exact k Dl H' F' m' accD acc r' (fr1.trans fr) hD0 nF cD hA rA q''⟩
theorem gn_lc2 {vs vs1 : List Nat} (hc : X.calm = true) (hN : X.N.Nodup) (hi : GI true g X tg iter di) (ok : BlkOk X.N X.env.scope scope own) (hg : AllB X scope fun Y => GG g Y tg T f js) (ht : AllB X scope fun Y => GTs g Y ifs dt)
    (hi1 : AllB X scope fun Y => GI false g Y tg1 iter1 di1) (hg1 : AllB X scope fun Y => GG g Y tg1 T1 f1 js1) (ht1 : AllB X scope fun Y => GTs g Y ifs1 dt1) (he : AllB X scope fun Y => GE g Y elt de)
    (hv : own.map (·.2) = vs := by rfl) (hv1 : ∀ i ∈ vs1, i ∈ own.map (·.2) := by decide) (hj : ∀ j ∈ js, j ∈ own.map (·.2) := by decide) (hj1 : ∀ j ∈ js1, j ∈ vs1 := by decide) (hs : ∀ x, foldedSetIterable iter X.env x = pure x := by intro _; rfl) (hs1 : ∀ env x, foldedSetIterable iter1 env x = pure x := by intro _ _; rfl) :
    GN g X (.ListComp elt [⟨tg, iter, ifs, 0⟩, ⟨tg1, iter1, ifs1, 0⟩] scope pos) (dLc2 di f dt di1 f1 dt1 de vs vs1) := by
  subst hv
  exact ⟨fun pins s σ H Q I q => (pe_lc2 (wi := tI X.K g true di) (g := T) (tt := tT X.K g dt) (wi1 := tI X.K g false di1) (g1 := T1) (tt1 := tT X.K g dt1) (te := tD X.K g de) (vs1 := vs1) hc hN hi ok hv1 (fun s H C cl fp => (hg s H C cl fp).pg) (fun s H C cl fp => ht s H C cl fp) (fun s H C cl fp => hi1 s H C cl fp) (fun s H C cl fp => (hg1 s H C cl fp).pg) (fun s H C cl fp => ht1 s H C cl fp) (fun s H C cl fp => he s H C cl fp) hs hs1).run pins s σ H Q I
    (lc2_weak (T := T) (T1 := T1) _ vs1 hj hj1 (hg s H 0 [] []).ok (hg1 s H 0 [] []).ok σ H Q q)⟩
end
end G
namespace G
open PySem L2
def rInQ (K : PySem.W.Frag) (neg : Bool) : R2 := fun x y H Q => ∃ d ds, Dp K H x d ∧ (Dp K H y (.list ds) ∨ Dp K H y (.tuple ds)) ∧ SeqAt.shaped d = true ∧ SeqAt.shaped (.list ds) = true ∧ SeqAt.shaped (.tuple ds) = true ∧ Q (.bl (neg != ds.any fun z => PyData.eqv z d)) H
theorem op_notInQ {X : Cx} (hu : X.A.units + 65 < cLine) : OpR X (compareOp .NotIn) (rInQ X.K true) := by
  intro pins s σ H x y v u Q I rx ry h
  obtain ⟨d, ds, hd, he, sd, se, st, q⟩ := h
  obtain ⟨as, r1⟩ := Dp.reads I d x v hd rx
  have e : (true != ds.any fun z => PyData.eqv z d) = !ds.any fun z => PyData.eqv z d := by cases ds.any fun z => PyData.eqv z d <;> rfl
  rw [e] at q
  rcases he with he | he
  · obtain ⟨bs, r2⟩ := Dp.reads I (.list ds) y u he ry
    exact SeqAt.notIn_list_reads r2 r1 (SeqAt.canLay_of_shaped se) (SeqAt.canLay_of_shaped sd) (PyProof.Rows.room_in_shaped sd hu) ⟨.bl _, H, I, rfl, q⟩
  · obtain ⟨bs, r2⟩ := Dp.reads I (.tuple ds) y u he ry
    exact SeqAt.notIn_tuple_reads r2 r1 (SeqAt.canLay_of_shaped se) (SeqAt.canLay_of_shaped sd) (PyProof.Rows.room_in_shaped sd hu) ⟨.bl _, H, I, rfl, q⟩
def seqOf : D → Option (List D)
  | .lst ds => some ds
  | .tup ds => some ds
  | _ => none
def inQ (x y : D) : Option Bool := match seqOf y with
  | some ds => if x.okd 60 && (D.lst ds).okd 60 && (D.tup ds).okd 60 then some (ds.any fun z => PyData.eqv z.py x.py) else none
  | none => none
def notInQD (x y : D) : Option D := (inQ x y).map fun b => .bl (!b)
theorem od_inQn {K : PySem.W.Frag} {g : Gp} {neg : Bool} : OpD K g (rInQ K neg) (fun x y => (inQ x y).map fun b => .bl (neg != b)) := fun c F H x y z v w Q' e nc rx ry hz k => by
  obtain ⟨b, hb, rfl⟩ := Option.map_eq_some_iff.mp hz
  unfold inQ at hb
  split at hb
  · rename_i ds hs
    split at hb
    · rename_i ok
      cases hb
      simp only [Bool.and_eq_true] at ok
      refine ⟨x.py, pyL ds, repT_dp e ok.1.1 rx, ?_, okd_shaped ok.1.1, by simpa only [D.py] using okd_shaped ok.1.2, by simpa only [D.py] using okd_shaped ok.2, ?_⟩
      · cases y with
        | lst es => cases hs; exact .inl (by simpa only [D.py] using repT_dp e ok.1.2 ry)
        | tup es => cases hs; exact .inr (by simpa only [D.py] using repT_dp e ok.2 ry)
        | _ => cases hs
      rw [pyL_map, List.any_map]
      exact k _ H F (New.refl e) (.bl _)
    · cases hb
  · cases hb
theorem od_notInQ {K : PySem.W.Frag} {g : Gp} : OpD K g (rInQ K true) notInQD := by
  have : notInQD = fun x y => (inQ x y).map fun b => D.bl (true != b) := by
    funext x y; unfold notInQD; congr 1; funext b; cases b <;> rfl
  rw [this]; exact od_inQn
end G
namespace G
open PySem L2
section
variable {g : Gp} {X : Cx} {iter e1 ek : Expr} {di : DL} {d1 dk : DE}
end
end G
namespace G
open PySem L2
def putX (xs : List (List Key × Addr × V)) (k : List Key) (b : Addr) (v : V) : List (List Key × Addr × V) := if (xs.any fun x => decide (x.1 = k)) = true then xs.map (fun x => if x.1 = k then (x.1, x.2.1, v) else x) else xs ++ [(k, b, v)]
def getX (xs : List (List Key × Addr × V)) (k : List Key) : Option V := (xs.find? fun x => decide (x.1 = k)).map (·.2.2)
section
variable {X : Cx} {pos : Pos}
end
end G
namespace G
open PySem L2
section
open PySem.Spec PyProof.Rows
variable {P : Program} {w : World} {K : PySem.W.Frag} {tg : Expr} {d : Addr} {o : Obj} {es : Array DictEntry} {ep : Nat} {xs : List (List Key × Addr × V)}
end
section
open PySem.Spec PyProof.Rows
variable {X : Cx} {tg e : Expr} {td : TE} {apos cpos : Pos}
end
section
variable {K : PySem.W.Frag} {g : Gp} {F H : Hp}
inductive KtR (K : PySem.W.Frag) (g : Gp) (F : Hp) : List (List Key × D) → List (List Key × Addr × V) → Prop
  | nil : KtR K g F [] []
  | cons {k : List Key} {b : Addr} {d : D} {v : V} {kds : List (List Key × D)} {xs : List (List Key × Addr × V)} : SqT K F b (k.map kV) → Rep K g F d v → KtR K g F kds xs → KtR K g F ((k, d) :: kds) ((k, b, v) :: xs)
theorem KtR.of : ∀ {kds : List (List Key × D)} {xs : List (List Key × Addr × V)}, xs.map (·.1) = kds.map (·.1) → (∀ x ∈ xs, SqT K F x.2.1 (x.1.map kV)) → RepL K g F (kds.map (·.2)) (xs.map (·.2.2)) → KtR K g F kds xs
  | [], [], _, _, _ => .nil
  | [], _ :: _, h, _, _ => by cases h
  | _ :: _, [], h, _, _ => by cases h
  | (k, d) :: kds, (k', b, v) :: xs, h, hx, r => by
    rw [List.map_cons, List.map_cons] at h
    obtain ⟨h1, h2⟩ := List.cons.inj h
    cases (show k' = k from h1)
    cases r with
    | cons r1 r2 => exact .cons (hx _ (List.mem_cons_self ..)) r1 (KtR.of h2 (fun x z => hx x (List.mem_cons_of_mem _ z)) r2)
theorem KtR.keys : ∀ {kds : List (List Key × D)} {xs : List (List Key × Addr × V)}, KtR K g F kds xs → xs.map (·.1) = kds.map (·.1)
  | _, _, .nil => rfl
  | _, _, .cons _ _ t => by rw [List.map_cons, List.map_cons, t.keys]
theorem KtR.sq : ∀ {kds : List (List Key × D)} {xs : List (List Key × Addr × V)}, KtR K g F kds xs → ∀ x ∈ xs, SqT K F x.2.1 (x.1.map kV)
  | _, _, .nil, x, h => by cases h
  | _, _, .cons a _ t, x, h => by
    rcases List.mem_cons.mp h with rfl | h
    · exact a
    · exact t.sq x h
theorem KtR.vals : ∀ {kds : List (List Key × D)} {xs : List (List Key × Addr × V)}, KtR K g F kds xs → RepL K g F (kds.map (·.2)) (xs.map (·.2.2))
  | _, _, .nil => .nil
  | _, _, .cons _ r t => .cons r t.vals
theorem KtR.mono {F' : Hp} (e : Ex F F') : ∀ {kds : List (List Key × D)} {xs : List (List Key × Addr × V)}, KtR K g F kds xs → KtR K g F' kds xs
  | _, _, .nil => .nil
  | _, _, .cons a r t => .cons (Evl.ex_t e a) (r.mono e) (t.mono e)
theorem KtR.len : ∀ {kds : List (List Key × D)} {xs : List (List Key × Addr × V)}, KtR K g F kds xs → xs.length = kds.length
  | _, _, .nil => rfl
  | _, _, .cons _ _ t => by rw [List.length_cons, List.length_cons, t.len]
theorem KtR.at : ∀ {kds : List (List Key × D)} {xs : List (List Key × Addr × V)} {i : Nat} {kd : List Key × D}, KtR K g F kds xs → kds[i]? = some kd → ∃ b v, xs[i]? = some (kd.1, b, v) ∧ SqT K F b (kd.1.map kV) ∧ Rep K g F kd.2 v
  | _, _, _, _, .nil, e => by simp at e
  | _, _, 0, _, .cons a r _, e => by simp at e; subst e; exact ⟨_, _, rfl, a, r⟩
  | _, _, i + 1, _, .cons _ _ t, e => by
    obtain ⟨b, v, h1, h2⟩ := KtR.at (i := i) t (by simpa using e)
    exact ⟨b, v, by simpa using h1, h2⟩
def ktGet (kds : List (List Key × D)) (k : List Key) : Option D := (kds.find? fun kv => decide (kv.1 = k)).map (·.2)
def ktPut (kds : List (List Key × D)) (k : List Key) (d : D) : List (List Key × D) := if (kds.any fun kv => decide (kv.1 = k)) = true then kds.map (fun kv => if kv.1 = k then (kv.1, d) else kv) else kds ++ [(k, d)]
theorem KtR.get (k : List Key) {d : D} {v : V} (r : Rep K g F d v) : ∀ {kds : List (List Key × D)} {xs : List (List Key × Addr × V)}, KtR K g F kds xs → Rep K g F ((ktGet kds k).getD d) ((getX xs k).getD v)
  | _, _, .nil => r
  | _, _, @KtR.cons _ _ _ k' b d' v' kds xs a r1 t => by
    have ih := KtR.get k r t
    unfold ktGet getX at ih ⊢
    rw [List.find?_cons, List.find?_cons]
    cases z : decide (k' = k) with
    | true => exact r1
    | false => exact ih
theorem KtR.any (k : List Key) : ∀ {kds : List (List Key × D)} {xs : List (List Key × Addr × V)}, KtR K g F kds xs → (xs.any fun x => decide (x.1 = k)) = kds.any fun kv => decide (kv.1 = k)
  | _, _, .nil => rfl
  | _, _, .cons _ _ t => by rw [List.any_cons, List.any_cons, t.any k]
theorem KtR.snoc {k : List Key} {b : Addr} {d : D} {v : V} (a : SqT K F b (k.map kV)) (r : Rep K g F d v) : ∀ {kds : List (List Key × D)} {xs : List (List Key × Addr × V)}, KtR K g F kds xs → KtR K g F (kds ++ [(k, d)]) (xs ++ [(k, b, v)])
  | _, _, .nil => .cons a r .nil
  | _, _, .cons a' r' t => .cons a' r' (t.snoc a r)
theorem KtR.repl {k : List Key} {d : D} {v : V} (r : Rep K g F d v) : ∀ {kds : List (List Key × D)} {xs : List (List Key × Addr × V)}, KtR K g F kds xs → KtR K g F (kds.map fun kv => if kv.1 = k then (kv.1, d) else kv) (xs.map fun x => if x.1 = k then (x.1, x.2.1, v) else x)
  | _, _, .nil => .nil
  | _, _, @KtR.cons _ _ _ k' b d' v' kds xs a r1 t => by
    rw [List.map_cons, List.map_cons]
    by_cases z : k' = k
    · rw [if_pos z, if_pos z]; exact .cons a r (t.repl r)
    · rw [if_neg z, if_neg z]; exact .cons a r1 (t.repl r)
theorem KtR.put {k : List Key} {b : Addr} {d : D} {v : V} (a : SqT K F b (k.map kV)) (r : Rep K g F d v) {kds : List (List Key × D)} {xs : List (List Key × Addr × V)} (h : KtR K g F kds xs) : KtR K g F (ktPut kds k d) (putX xs k b v) := by
  unfold ktPut putX
  rw [h.any k]
  split
  · exact h.repl r
  · exact h.snoc a r
end
section
variable {g : Gp} {X : Cx} {tg a b e e2 : Expr} {d da db dk dv d2 : DE} {pos p cpos apos : Pos}
end
end G
namespace G
open PySem L2
section
open Builtin Builtin.ObjectAttr
variable {prog : Program} {w : World} {A : Around} {R : Result → Shared → Prop} {K : PySem.W.Frag}
end
section
variable {X : Cx} {pins : List (Addr × Obj)} {σ : St} {H : Hp} {s : Shared} {a C dx : Addr} {f : Str} {y : V} {u : Value}
end
section
variable {P : Program} {w : World} {K : PySem.W.Frag} {mg : Str → Option Value} {base : Heap}
end
structure Exc where
  C : Str
  f : Str
  d : D
section
variable {X : Cx} {g : Gp} {e : Expr} {d : DE} {x f : Str} {C fI : Addr} {k : Nat} {fd : FuncData} {ps : List Str} {p pos : Pos}
end
end G
namespace G
open PySem L2
inductive XB | v | l | a
def XB.new : XB → String
  | .v => "ValueError.__new__" | .l => "LookupError.__new__" | .a => "ArithmeticError.__new__"
end G
namespace G
open PySem L2
open PySem.Spec PyProof.Rows
abbrev Cl := (Value → Option Bool) × Nat × (Addr → Value → Option Addr → TS)
section
variable {X : Cx} {body : List Stmt} {h₀ : ExceptHandler} {hds : List ExceptHandler} {l : List Cl} {pos : Pos} {tb : WX → TS} {Wout : WX}
end
end G
namespace G
open PySem L2
abbrev SpecX := List Sl → Nat → (Exc → Nat → Prop) → Prop
section
variable {P : Program} {w : World} {K : PySem.W.Frag} {mg : Str → Option Value} {base : Heap} {g : Gp}
end
abbrev DX := Env' → Nat → (Exc → Nat → Prop) → Prop
section
variable {g : Gp} {X : Cx} {st : Stmt} {sts : List Stmt} {e : Expr} {s : DS} {dx dy : DX} {t : DT} {pos : Pos} {W : WX}
section
variable {k : Nat} {f : Addr} {fd : FuncData} {ps : List Str} {R : SpecX} {x : Str} {p : Pos} {es : List Expr} {da : DA} {sp : Sp}
end
end
section
variable {P : Program} {w : World} {K : PySem.W.Frag} {mg : Str → Option Value} {base : Heap} {g : Gp}
end
end G
namespace G
open PySem L2
section
variable {g : Gp} {X : Cx} {sts : List Stmt} {e : Expr} {dx dy : DX} {t : DT} {pos : Pos}
end
end G
namespace G
open PySem L2
section
variable {g : Gp} {X : Cx} {e : Expr} {es : List Expr} {da : DA} {k : Nat} {f : Addr} {fd : FuncData} {ps : List Str} {S : Spec} {R : SpecX} {x : Str} {p pos : Pos} {W : WX}
end
section
variable {X : Cx} {pins : List (Addr × Obj)} {σ : St} {H : Hp} {s : Shared}
end
end G
namespace G
open PySem L2
section
variable {K : PySem.W.Frag} {g : Gp} {F : Hp} {a : Addr} {oe : Obj} {φ : Heap → Prop}
end
end G
namespace G
open PySem L2
section
variable {g : Gp} {X : Cx} {e : Expr} {d : DE} {p pos : Pos}
end
section
open LamX
variable {g : Gp} {X : Cx}
end
end G
namespace G
open PySem L2
end G
namespace G
open PySem L2
end G
namespace G
open PySem L2
section
variable {P : Program} {w : World} {K : PySem.W.Frag} {mg : Str → Option Value} {base : Heap} {g : Gp}
end
end G
namespace G
open PySem L2
end G
namespace SE
open PySem L2 G T
structure Se (d : D) (n : Nat) : Prop where
  c : d.okd n = true
  e : PyData.eqv d.py d.py = true
theorem okdL_all : ∀ {ds : List D} {n : Nat}, (∀ d ∈ ds, d.okd n = true) → okdL ds n = true
  | [], _, _ => rfl
  | d :: r, n, h => by
    unfold okdL
    rw [h d (by simp), okdL_all fun x hx => h x (by simp [hx])]; rfl
theorem eqvL_all : ∀ {ds : List D}, (∀ d ∈ ds, PyData.eqv d.py d.py = true) → PyData.eqvAll (pyL ds) (pyL ds) = true
  | [], _ => rfl
  | d :: r, h => by
    simp only [pyL, PyData.eqvAll]
    rw [h d (by simp), eqvL_all fun x hx => h x (by simp [hx])]; rfl
theorem Se.int (i : Int) (n : Nat) : Se (.int i) n := ⟨rfl, by simp [D.py, PyData.eqv]⟩
theorem Se.bl (b : Bool) (n : Nat) : Se (.bl b) n := ⟨rfl, by simp [D.py, PyData.eqv]⟩
theorem Se.tup {ds : List D} {n : Nat} (h : ∀ d ∈ ds, Se d n) : Se (.tup ds) (n + 1) where
  c := by
    unfold D.okd
    rw [show n + 1 - 1 = n from rfl, okdL_all fun d hd => (h d hd).c]; simp
  e := by
    simp only [D.py, PyData.eqv]
    exact eqvL_all fun d hd => (h d hd).e
theorem Se.lst {ds : List D} {n : Nat} (h : ∀ d ∈ ds, Se d n) : Se (.lst ds) (n + 1) where
  c := by
    unfold D.okd
    rw [show n + 1 - 1 = n from rfl, okdL_all fun d hd => (h d hd).c]; simp
  e := by
    simp only [D.py, PyData.eqv]
    exact eqvL_all fun d hd => (h d hd).e
theorem se_lot (L : List Nat) (n : Nat) : Se (lotD L) (n + 1) := Se.tup fun d hd => by
  obtain ⟨j, _, rfl⟩ := List.mem_map.mp hd
  exact .int _ _
theorem eqv_lot (A B : List Nat) : PyData.eqv (lotD A).py (lotD B).py = decide (A = B) := by
  show PyData.eqv (D.tup (A.map natD)).py (D.tup (B.map natD)).py = _
  simp only [D.py]
  show PyData.eqvAll _ _ = _
  exact eqvL_ints A B
theorem okd_lots (Ls : List (List Nat)) : (D.lst (Ls.map lotD)).okd 60 = true := (Se.lst (n := 59) fun d hd => by
  obtain ⟨L, _, rfl⟩ := List.mem_map.mp hd
  exact se_lot L 58).c
theorem se_tups (Ls : List (List Nat)) : Se (.tup (Ls.map lotD)) 60 := Se.tup (n := 59) fun d hd => by
  obtain ⟨L, _, rfl⟩ := List.mem_map.mp hd
  exact se_lot L 58
theorem okd_tups (Ls : List (List Nat)) : (D.tup (Ls.map lotD)).okd 60 = true := (se_tups Ls).c
theorem inQ_lots (X : List Nat) (Ls : List (List Nat)) {y : D} (hy : y = .lst (Ls.map lotD) ∨ y = .tup (Ls.map lotD)) : inQ (lotD X) y = some (decide (X ∈ Ls)) := by
  have e : (Ls.map lotD).any (fun z => PyData.eqv z.py (lotD X).py) = decide (X ∈ Ls) := by
    rw [List.any_map]
    by_cases h : X ∈ Ls
    · rw [decide_eq_true h, List.any_eq_true]
      exact ⟨X, h, by show PyData.eqv (lotD X).py (lotD X).py = true; rw [eqv_lot]; simp⟩
    · rw [decide_eq_false h, List.any_eq_false]
      intro Y hY z
      have z' : PyData.eqv (lotD Y).py (lotD X).py = true := z
      rw [eqv_lot, decide_eq_true_eq] at z'
      exact h (z' ▸ hY)
  rcases hy with rfl | rfl
  · show (if (lotD X).okd 60 && (D.lst (Ls.map lotD)).okd 60 && (D.tup (Ls.map lotD)).okd 60 then some ((Ls.map lotD).any fun z => PyData.eqv z.py (lotD X).py) else none) = _
    rw [okd_lot, okd_lots, okd_tups, e]; rfl
  · show (if (lotD X).okd 60 && (D.lst (Ls.map lotD)).okd 60 && (D.tup (Ls.map lotD)).okd 60 then some ((Ls.map lotD).any fun z => PyData.eqv z.py (lotD X).py) else none) = _
    rw [okd_lot, okd_lots, okd_tups, e]; rfl
theorem notInQl (X : List Nat) (Ls : List (List Nat)) : notInQD (lotD X) (.lst (Ls.map lotD)) = some (.bl (!decide (X ∈ Ls))) := by unfold notInQD; rw [inQ_lots X Ls (.inl rfl)]; rfl
theorem eq_lstS {ds : List D} (h : Se (.lst ds) 60) : eqD (.lst ds) (.lst ds) = some (.bl true) := by
  show (deepEq _ _).map _ = _
  unfold deepEq
  rw [h.c, h.e]; rfl
end SE
namespace G
open PySem L2
open PySem.W (dataLe AllAlike Sortable EachIs dataLt alike alikeAll)
section
variable {K : PySem.W.Frag} {g : Gp} {P : Program} {w : World}
end
end G
namespace G
open PySem L2
section
variable {g : Gp} {X : Cx} {e : Expr} {d : DE} {pos : Pos}
end
end G
namespace G
open PySem L2
end G
namespace G
open PySem L2
end G
namespace K10
open PySem L2 G T
def ind (a z : Nat) : Int := if a = z then 1 else 0
structure DD (N : List Nat) (M : Nat → Nat → Int) : Prop where
  sym : ∀ a ∈ N, ∀ b ∈ N, M a b = M b a
  off : ∀ a ∈ N, ∀ b ∈ N, a ≠ b → M a b ≤ 0
  row : ∀ a ∈ N, 0 ≤ (N.map (M a)).sum
  few : ∀ a ∈ N, ∀ b ∈ N, -100 ≤ M a b ∧ M a b ≤ 100
structure Hm (P : List Nat) (E : List (Nat × Nat)) (h : Nat → Nat) : Prop where
  inP : ∀ a ∈ P, h a ∈ P
  con : ∀ a ∈ P, Conn E a (h a)
  low : ∀ a ∈ P, ∀ b ∈ P, Conn E a b → h a ≤ b
def rest (n : Nat) (L : List Nat) : List Nat := (List.range n).filter fun i => decide (i ∉ L)
def wth (I O L : List Nat) : Bool := I.all (fun k => decide (k ∈ L)) && !O.any fun k => decide (k ∈ L)
noncomputable def ctw (P : List Nat) (T : List (Nat × Nat)) (I O : List Nat) : Nat := ((trees P T).filter (wth I O)).length
def S_every_lot : G.Spec := fun as m Q => ∃ P T, T.length ≤ 11 ∧ as = [.val (webD P T)] ∧ Q (.lst ((lots T.length).map lotD)) m
def S_every_tree : G.Spec := fun as m Q => ∃ P T, WbOk P T ∧ as = [.val (webD P T)] ∧ Q (.lst ((trees P T).map lotD)) m
def S_trees_by : G.Spec := fun as m Q => ∃ P T I O, WbOk P T ∧ P.length ≤ 5 ∧ Lot T.length I ∧ Lot T.length O ∧ as = [.val (webD P T), .val (lotD I), .val (lotD O)] ∧ Q (natD (ctw P T I O)) m
def S_trees_counted : G.Spec := fun as m Q => ∃ P T, WbOk P T ∧ P.length ≤ 5 ∧ as = [.val (webD P T)] ∧ Q (natD (trees P T).length) m
def S_count_trees : G.Spec := S_trees_counted
def S_all_trees : G.Spec := fun as m Q => ∃ P T, WbOk P T ∧ as = [.val (webD P T)] ∧ Q (.tup ((trees P T).map lotD)) m
def S_trees_with : G.Spec := S_trees_by
def S_law_with : G.Spec := fun as m Q => ∃ P T I O, WbOk P T ∧ T.length ≤ 6 ∧ Lot T.length I ∧ Lot T.length O ∧ as = [.val (.lst ((trees P T).map lotD)), .val (lotD I), .val (lotD O)] ∧ Q (natD (ctw P T I O)) m
def S_law_lot : G.Spec := fun as m Q => ∃ n : Nat, n ≤ 6 ∧ as = [.cask, .val (natD n)] ∧ ∀ L, Lot n L → Q (lotD L) m
def S_law_right : G.Spec := fun as m Q => as = [.cask] ∧ Q (.bl true) m
theorem S_every_lot_len : ∀ as m Q, S_every_lot as m Q → as.length = 1 := by rintro as m Q ⟨_, _, _, rfl, _⟩; rfl
theorem S_every_tree_len : ∀ as m Q, S_every_tree as m Q → as.length = 1 := by rintro as m Q ⟨_, _, _, rfl, _⟩; rfl
theorem S_all_trees_len : ∀ as m Q, S_all_trees as m Q → as.length = 1 := by rintro as m Q ⟨_, _, _, rfl, _⟩; rfl
theorem S_law_right_len : ∀ as m Q, S_law_right as m Q → as.length = 1 := by rintro as m Q ⟨rfl, _⟩; rfl
end K10
namespace K10
open PySem L2 G T
def pm0 {α : Type} : List α → List α
  | [x0] => [x0]
  | l => l
def pm120 {α : Type} : List α → List α
  | [x0, x1, x2] => [x1, x2, x0]
  | l => l
def d_every_lot : DS := (dSeq (dAsg 1 (dNew (dLst (dConsL (dTup dNilL) dNilL))))
  (dSeq (dFor (dISrc (dCall S_every_tie (dConsA (dVar 0) dNilA))) (tgN 2) (dAsg 1 (dOp addD (dVarB 1) (dNew (dLc (dISrc (dVarB 1)) (tgN 3) dYes (dOp addD (dVarB 3) (dTup (dConsL (dVar 2) dNilL))) [3])))))
  (dRet (dNew (dCallN sorted0D (dConsL (dVarB 1) dNilL))))))
abbrev n_every_lot : Nat := 4
def d_every_tree : DS := (dSeq (dAsg 1 (dCall S_rank_of (dConsA (dVar 0) (dConsA (dCall S_every_tie (dConsA (dVar 0) dNilA)) dNilA))))
  (dRet (dNew (dLc (dISrc (dCall S_every_lot (dConsA (dVar 0) dNilA))) (tgN 2) (dAnd (dTest (dOp eqD (dCallB lenD0 (dConsL (dVarB 2) dNilL)) (dVarB 1))) (dTest (dCall S_is_free_lot (dConsA (dVar 0) (dConsA (dVar 2) dNilA))))) (dVar 2) [2]))))
abbrev n_every_tree : Nat := 3
def d_all_trees : DS := (dSeq (dDrop (dCall S_check_web (dConsA (dVar 0) dNilA)))
  (dRet (dCallB tupleD (dConsL (dCall S_every_tree (dConsA (dVar 0) dNilA)) dNilL))))
abbrev n_all_trees : Nat := 1
def d_law_right : DS := (dSeq (dAsgT (tgT (tgCons (tgN 1) (tgCons (tgN 2) tgNil)) 2) (dCall S_law_parts (dConsC 0 (dConsA (dC (.int 4)) (dConsA (dC (.int 6)) dNilA)))))
  (dSeq (dPar 3 4 (dConsL (dMake (dConsA (dVar 1) (dConsA (dVar 2) dNilA))) (dConsL (dCall S_law_trees (dConsA (dVar 1) (dConsA (dVar 2) dNilA))) dNilL)))
  (dSeq (dIf (dOr (dTest (dOp neD (dCallB reprID (dConsL (dCall S_all_trees (dConsA (dVar 3) dNilA)) dNilL)) (dCallB reprID (dConsL (dCallB tupleD (dConsL (dVarB 4) dNilL)) dNilL)))) (dTest (dOp neD (dCallB reprID (dConsL (dCallK S_count_trees pm0 (dConsA (dVar 3) dNilA)) dNilL)) (dCallB reprID (dConsL (dCallB lenD0 (dConsL (dVarB 4) dNilL)) dNilL))))) (dRet (dC (.bl false))) dNext)
  (dSeq (dFor (dIRng (dC (.int 3))) (tgN 5) (dSeq (dPar 6 7 (dConsL (dCall S_law_lot (dConsC 0 (dConsA (dCallB lenD0 (dConsL (dVarB 2) dNilL)) dNilA))) (dConsL (dCall S_law_lot (dConsC 0 (dConsA (dCallB lenD0 (dConsL (dVarB 2) dNilL)) dNilA))) dNilL)))
  (dSeq (dAsg 8 (dCall S_law_with (dConsA (dVar 4) (dConsA (dVar 6) (dConsA (dVar 7) dNilA)))))
  (dSeq (dIf (dTest (dOp neD (dCallB reprID (dConsL (dCall S_trees_with (dConsA (dVar 3) (dConsA (dVar 6) (dConsA (dVar 7) dNilA)))) dNilL)) (dCallB reprID (dConsL (dVarB 8) dNilL)))) (dRet (dC (.bl false))) dNext)
  (dIf (dTest (dOp neD (dCallK S_trees_with pm120 (dConsA (dVar 7) (dConsA (dVar 3) (dConsA (dVar 6) dNilA)))) (dVarB 8))) (dRet (dC (.bl false))) dNext)))))
  (dSeq (dFor (dIRng (dCallB lenD0 (dConsL (dVarB 2) dNilL))) (tgN 9) (dIf (dOr (dTest (dOp neD (dOp addD (dCall S_trees_with (dConsA (dVar 3) (dConsA (dTup (dConsL (dVar 9) dNilL)) (dConsA (dTup dNilL) dNilA)))) (dCall S_trees_with (dConsA (dVar 3) (dConsA (dTup dNilL) (dConsA (dTup (dConsL (dVar 9) dNilL)) dNilA))))) (dCallB lenD0 (dConsL (dVarB 4) dNilL)))) (dTest (dOp neD (dCall S_trees_with (dConsA (dVar 3) (dConsA (dTup (dConsL (dVar 9) dNilL)) (dConsA (dTup (dConsL (dVar 9) dNilL)) dNilA)))) (dC (.int 0))))) (dRet (dC (.bl false))) dNext))
  (dRet (dOp eqD (dCallB reprID (dConsL (dNew (dLst (dConsL (dCallK S_all_trees pm0 (dConsA (dVar 3) dNilA)) (dConsL (dCall S_count_trees (dConsA (dVar 3) dNilA)) (dConsL (dTs (dVar 3)) dNilL))))) dNilL)) (dCallB reprID (dConsL (dNew (dLst (dConsL (dCallB tupleD (dConsL (dVarB 4) dNilL)) (dConsL (dCallB lenD0 (dConsL (dVarB 4) dNilL)) (dConsL (dVar 2) dNilL))))) dNilL)))))))))
abbrev n_law_right : Nat := 10
end K10
namespace K10
open PySem L2 G T
section
variable {P : List Nat} {E : List (Nat × Nat)} {h : Nat → Nat}
theorem Hm.eq_iff (H : Hm P E h) {a b : Nat} (ha : a ∈ P) (hb : b ∈ P) : h a = h b ↔ Conn E a b := by
  constructor
  · intro e
    exact (H.con a ha).trans (e ▸ (H.con b hb).symm)
  · intro c
    have h1 := H.low a ha (h b) (H.inP b hb) (c.trans (H.con b hb))
    have h2 := H.low b hb (h a) (H.inP a ha) (c.symm.trans (H.con a ha))
    omega
theorem Hm.le (H : Hm P E h) {a : Nat} (ha : a ∈ P) : h a ≤ a := H.low a ha a ha (.refl a)
theorem Hm.start (P : List Nat) : Hm P [] id := ⟨fun a ha => ha, fun a _ => .refl a, fun a _ b _ c => by have e : a = b := c.nil; show a ≤ b; omega⟩
def up (h : Nat → Nat) (u v : Nat) (x : Nat) : Nat := if h x = max (h u) (h v) then min (h u) (h v) else h x
theorem Hm.step (H : Hm P E h) {u v : Nat} (hu : u ∈ P) (hv : v ∈ P) : Hm P (E ++ [(u, v)]) (up h u v) := by
  have sub : ∀ {a b}, Conn E a b → Conn (E ++ [(u, v)]) a b := fun c => c.sub fun p hp => List.mem_append_left _ hp
  have uv : Conn (E ++ [(u, v)]) u v := Conn.tie (p := (u, v)) (by simp)
  have hlo : min (h u) (h v) ∈ P ∧ Conn (E ++ [(u, v)]) u (min (h u) (h v)) := by
    rcases Nat.le_total (h u) (h v) with l | l
    · rw [Nat.min_eq_left l]; exact ⟨H.inP u hu, sub (H.con u hu)⟩
    · rw [Nat.min_eq_right l]; exact ⟨H.inP v hv, uv.trans (sub (H.con v hv))⟩
  have hhi : ∀ a ∈ P, h a = max (h u) (h v) → Conn (E ++ [(u, v)]) u a := fun a ha e => by
    rcases Nat.le_total (h u) (h v) with l | l
    · rw [Nat.max_eq_right l] at e
      exact uv.trans (sub ((H.eq_iff hv ha).mp e.symm))
    · rw [Nat.max_eq_left l] at e
      exact sub ((H.eq_iff hu ha).mp e.symm)
  refine ⟨fun a ha => ?_, fun a ha => ?_, fun a ha b hb c => ?_⟩
  · unfold up; split
    · exact hlo.1
    · exact H.inP a ha
  · unfold up; split
    · rename_i e; exact (hhi a ha e).symm.trans hlo.2
    · exact sub (H.con a ha)
  · rcases conn_add c with c | ⟨c1, c2⟩ | ⟨c1, c2⟩
    · have e := (H.eq_iff ha hb).mpr c
      have := H.le hb
      unfold up
      split <;> omega
    · have e1 := (H.eq_iff ha hu).mpr c1
      have e2 := (H.eq_iff hv hb).mpr c2
      have := H.le hb
      unfold up
      split <;> omega
    · have e1 := (H.eq_iff ha hv).mpr c1
      have e2 := (H.eq_iff hu hb).mpr c2
      have := H.le hb
      unfold up
      split <;> omega
theorem Hm.ex (P : List Nat) : ∀ (E : List (Nat × Nat)), Ok P E → ∃ h, Hm P E h := by
  intro E
  have key : ∀ (n : Nat) (E : List (Nat × Nat)), E.length = n → Ok P E → ∃ h, Hm P E h := by
    intro n
    induction n with
    | zero => intro E hn _; rw [List.eq_nil_of_length_eq_zero hn]; exact ⟨id, Hm.start P⟩
    | succ n ih =>
      intro E hn ok
      obtain ⟨E', e, rfl⟩ : ∃ E' e, E = E' ++ [e] := by
        rcases List.eq_nil_or_concat E with z | ⟨l, a, z⟩
        · rw [z] at hn; simp at hn
        · exact ⟨l, a, by rw [z, List.concat_eq_append]⟩
      obtain ⟨h, H⟩ := ih E' (by simpa using hn) fun p hp => ok p (List.mem_append_left _ hp)
      obtain ⟨h1, h2⟩ := ok e (by simp)
      exact ⟨_, H.step h1 h2⟩
  exact key E.length E rfl
def mp (h : Nat → Nat) (e : Nat × Nat) : Nat × Nat := (h e.1, h e.2)
def nm (P : List Nat) (h : Nat → Nat) : List Nat := P.filter fun a => decide (h a = a)
noncomputable def ns (P : List Nat) (h : Nat → Nat) (G : List (Nat × Nat)) : List Nat := P.filter fun a => decide (h a = a) && !decide (a ∈ leasts P G)
end
end K10
namespace K10
open PySem L2 G T
def mg (M : Nat → Nat → Int) (lo hi : Nat) (a b : Nat) : Int := M a b + ind lo a * M hi b + ind lo b * M a hi + ind lo a * ind lo b * M hi hi
def pt (M : Nat → Nat → Int) (lo hi : Nat) (a b : Nat) : Int := M a b + (ind lo a - ind hi a) * (ind lo b - ind hi b)
def fl (lo hi : Nat) (e : Nat × Nat) : Nat × Nat := (if e.1 = hi then lo else e.1, if e.2 = hi then lo else e.2)
theorem sum_mul (c : Int) (f : Nat → Int) (N : List Nat) : (N.map fun b => c * f b).sum = c * (N.map f).sum := by
  induction N with
  | nil => simp
  | cons b N ih => simp only [List.map_cons, List.sum_cons, ih, Int.mul_add]
theorem sum_add (f g : Nat → Int) (N : List Nat) : (N.map fun b => f b + g b).sum = (N.map f).sum + (N.map g).sum := by
  induction N with
  | nil => simp
  | cons b N ih => simp only [List.map_cons, List.sum_cons, ih]; omega
end K10
namespace K10
open PySem L2 G T
def left (n : Nat) (I O : List Nat) : List Nat := (rest n I).filter fun i => decide (i ∉ O)
end K10
namespace K10
open PySem L2 G T
theorem law_every_lot : ∀ as m Q, S_every_lot as m Q → d_every_lot (padn n_every_lot as) m (fin Q) := by
  rintro as m Q ⟨P, T, hn, rfl, q⟩
  have hll := llv
  refine ⟨by show 0 ≤ LL; omega, by show 1 ≤ LL; omega, _, rfl, P, T, hn, rfl, _, rfl, ?_⟩
  refine forR_l natD (List.range T.length) (fun k env m' => m' = m ∧ ∃ x y : Sl, env = [.val (webD P T), .val (.lst ((gen k).map lotD)), x, y]) ?_ ?_ _ _ ⟨rfl, .no, .no, rfl⟩
  · rintro env m' ⟨rfl, x, y, rfl⟩
    rw [List.length_range]
    refine ⟨_, rfl, (lots T.length).map lotD, ?_, q⟩
    show (if sortOk0 ((gen T.length).map lotD) then some (sortL ((gen T.length).map lotD)) else none) = _
    rw [if_pos (sortOk0_lots hn), sort_lots]
  · rintro i k hk env m' ⟨rfl, x, y, rfl⟩
    have hi' : i < T.length := by have := (List.getElem?_eq_some_iff.mp hk).1; simpa using this
    rw [rg_get hi'] at hk
    cases hk
    have hp : 2 ^ i ≤ 2 ^ 11 := Nat.pow_le_pow_right (by decide) (by omega)
    refine ⟨_, rfl, fun K hK => ?_⟩
    refine ⟨_, rfl, _, rfl, _, rfl, by rw [List.length_map, gen_len]; omega, ?_⟩
    refine lcR_m lotD (fun l => lotD (l ++ [i])) (gen i) m' _ (fun l hl => ⟨_, rfl, fun m Q q => ⟨_, rfl, _, rfl, by show 1 ≤ LL; omega, lotD (l ++ [i]), ?_, q⟩⟩) ?_
    · have := (gen_mem.mp hl).few
      show (if _ then some (D.tup (l.map natD ++ [natD i])) else none) = _
      rw [if_pos (by rw [List.length_map]; show l.length + 1 ≤ _; omega)]
      unfold lotD
      rw [List.map_append]; rfl
    · refine ⟨.lst ((gen (i + 1)).map lotD), ?_, hK _ _ ⟨rfl, .val (natD i), y, rfl⟩⟩
      show (if _ then some (D.lst ((gen i).map lotD ++ (gen i).map fun l => lotD (l ++ [i]))) else none) = _
      rw [if_pos (by rw [List.length_map, List.length_map, gen_len]; omega)]
      rw [show gen (i + 1) = gen i ++ (gen i).map fun l => l ++ [i] from rfl, List.map_append, List.map_map]; rfl
theorem rng_in (n : Nat) : ∀ i ∈ List.range n, i < n := fun i hi => List.mem_range.mp hi
open Classical in
theorem law_every_tree : ∀ as m Q, S_every_tree as m Q → d_every_tree (padn n_every_tree as) m (fin Q) := by
  rintro as m Q ⟨P, T, hW, rfl, q⟩
  have hll := llv
  have h11 := hW.few
  refine ⟨_, rfl, _, rfl, P, T, h11, rfl, P, T, List.range T.length, hW, by rw [List.length_range]; omega, rng_in _, rfl, ?_⟩
  rw [tl_range]
  have z2 : 2 ^ T.length ≤ 2 ^ 11 := Nat.pow_le_pow_right (by decide) h11
  refine ⟨_, rfl, P, T, h11, rfl, _, rfl, by rw [List.length_map, lots_len]; omega, ?_⟩
  refine lcR_fm lotD (fun L => decide (Tree P T L)) lotD (lots T.length) m _ (fun L hL => ⟨_, rfl, fun m Q q => ?_, fun _ m Q q => ⟨_, rfl, q⟩⟩) q
  have lot := lots_mem.mp hL
  have hfew := lot.few
  by_cases e1 : L.length = rk P T
  · refine ⟨_, rfl, _, len_tup natD L, _, rfl, _, eq_nat_t e1, true, rfl, ?_⟩
    refine ⟨_, rfl, _, rfl, P, T, L, hW, by omega, lot.inb, rfl, _, rfl, ?_⟩
    have : decide (L.length = rk P (tl T L)) = decide (Tree P T L) := by
      rw [decide_eq_decide]
      exact ⟨fun e => ⟨lot, e1, by rw [← e, e1]⟩, fun t => by rw [t.full, e1]⟩
    rw [this]; exact q
  · refine ⟨_, rfl, _, len_tup natD L, _, rfl, _, eq_nat_f e1, false, rfl, ?_⟩
    rw [decide_eq_false fun t : Tree P T L => e1 t.size] at q
    exact q
theorem law_all_trees : ∀ as m Q, S_all_trees as m Q → d_all_trees (padn n_all_trees as) m (fin Q) := by
  rintro as m Q ⟨P, T, hW, rfl, q⟩
  exact ⟨_, rfl, P, T, rfl, _, rfl, P, T, hW, rfl, _, rfl, q⟩
theorem hd_new {l : List Nat} {h : Nat → Nat} {a : Nat} (ha : a ∉ l) : kvPut (hdK l h) (.inr (c1 a)) (cD (h a)) = hdK (l ++ [a]) h := by
  unfold kvPut
  rw [if_neg]
  · unfold hdK; rw [List.map_append]; rfl
  · rw [List.any_eq_true]
    rintro ⟨kv, h1, h2⟩
    obtain ⟨b, hb, rfl⟩ := List.mem_map.mp h1
    have : (Sum.inr (c1 b) : Key) = .inr (c1 a) := of_decide_eq_true h2
    exact ha (c1_inj (Sum.inr.inj this) ▸ hb)
end K10
namespace K10
open PySem L2 G T
theorem flats_c : ∀ N : List Nat, flats (N.map cD) = some (N.map fun a => V.str (c1 a))
  | [] => rfl
  | a :: N => by
    rw [List.map_cons]
    show (some (V.str (c1 a))).bind (fun v => (flats (N.map cD)).map (v :: ·)) = _
    rw [flats_c N]; rfl
theorem index_c {N : List Nat} (nd : N.Nodup) {i a : Nat} (h : N[i]? = some a) : indexD (.lst (N.map cD)) [cD a] = some (natD i) := by
  show ((flats (N.map cD)).bind fun vs => (some (V.str (c1 a))).bind fun v => (vs.findIdx? fun z => eqV z v).map fun (i : Nat) => D.int i) = _
  rw [flats_c]
  show (((N.map fun a => V.str (c1 a)).findIdx? fun z => eqV z (V.str (c1 a))).map fun (i : Nat) => D.int i) = _
  have : (N.map fun a => V.str (c1 a)).findIdx? (fun z => eqV z (V.str (c1 a))) = some i := by
    rw [List.findIdx?_map]
    have e : ((fun z => eqV z (V.str (c1 a))) ∘ fun a => V.str (c1 a)) = fun b => decide (b = a) := by
      funext b
      show (c1 b == c1 a) = _
      by_cases z : b = a
      · subst z; simp
      · rw [decide_eq_false z]
        simpa using fun w => z (c1_inj w)
    rw [e]
    clear e
    induction N generalizing i with
    | nil => simp at h
    | cons b N ih =>
      obtain ⟨n1, n2⟩ := List.nodup_cons.mp nd
      rw [List.findIdx?_cons]
      cases i with
      | zero =>
        simp at h
        subst h
        simp
      | succ i =>
        have h' : N[i]? = some a := by simpa using h
        have : b ≠ a := fun z => n1 (z ▸ List.mem_of_getElem? h')
        rw [decide_eq_false this, ih n2 h']; rfl
  rw [this]; rfl
theorem map_set {β : Type} (f : Nat → β) : ∀ {N : List Nat} {i a : Nat} (x : β), N.Nodup → N[i]? = some a → (N.map f).set i x = N.map fun b => if b = a then x else f b
  | [], i, a, x, _, h => by simp at h
  | c :: N, 0, a, x, nd, h => by
    simp at h
    subst h
    obtain ⟨n1, n2⟩ := List.nodup_cons.mp nd
    rw [List.map_cons, List.set_cons_zero, List.map_cons, if_pos rfl]
    congr 1
    exact List.map_congr_left fun b hb => by rw [if_neg (fun e : b = c => n1 (e ▸ hb))]
  | c :: N, i + 1, a, x, nd, h => by
    obtain ⟨n1, n2⟩ := List.nodup_cons.mp nd
    have h' : N[i]? = some a := by simpa using h
    have : c ≠ a := fun z => n1 (z ▸ List.mem_of_getElem? h')
    rw [List.map_cons, List.set_cons_succ, List.map_cons, if_neg this, map_set f x n2 h']
def ct (n f a b : Nat) : Int := if n = f then 0 else (if a = n ∧ b = n then 1 else 0) - (if a = n ∧ b = f then 1 else 0)
end K10
namespace K10
open PySem L2 G T
structure DW (N : List Nat) (M : Nat → Nat → Int) : Prop where
  sym : ∀ a ∈ N, ∀ b ∈ N, M a b = M b a
  off : ∀ a ∈ N, ∀ b ∈ N, a ≠ b → M a b ≤ 0
  row : ∀ a ∈ N, 0 ≤ (N.map (M a)).sum
theorem sum_np {f : Nat → Int} : ∀ {N : List Nat}, (∀ a ∈ N, f a ≤ 0) → (N.map f).sum ≤ 0 ∧ (0 ≤ (N.map f).sum → ∀ a ∈ N, f a = 0)
  | [], _ => ⟨by simp, fun _ a h => by simp at h⟩
  | b :: N, h => by
    obtain ⟨h1, h2⟩ := sum_np (f := f) (N := N) fun a ha => h a (by simp [ha])
    have hb := h b (by simp)
    rw [List.map_cons, List.sum_cons]
    refine ⟨by omega, fun z a ha => ?_⟩
    rcases List.mem_cons.mp ha with rfl | ha
    · omega
    · exact h2 (by omega) a ha
section
variable {a : Nat} {N : List Nat} {M : Nat → Nat → Int}
theorem DW.rest (h : DW (a :: N) M) (na : a ∉ N) : (N.map (M a)).sum ≤ 0 ∧ (0 ≤ (N.map (M a)).sum → ∀ p ∈ N, M a p = 0) :=
  sum_np fun p hp => h.off a (by simp) p (by simp [hp]) fun e => na (e ▸ hp)
theorem DW.zero (h : DW (a :: N) M) (na : a ∉ N) (z : M a a = 0) : ∀ p ∈ N, M a p = 0 ∧ M p a = 0 := fun p hp => by
  have h1 := h.row a (by simp)
  rw [List.map_cons, List.sum_cons] at h1
  have := (h.rest na).2 (by omega) p hp
  exact ⟨this, by rw [h.sym p (by simp [hp]) a (by simp)]; exact this⟩
def sch (M : Nat → Nat → Int) (a p q : Nat) : Int := M p q * M a a - M p a * M a q
theorem DW.step (h : DW (a :: N) M) (na : a ∉ N) (hp : 0 < M a a) : DW N (sch M a) where
  sym := fun p hp q hq => by
    unfold sch
    rw [h.sym p (by simp [hp]) q (by simp [hq]), h.sym p (by simp [hp]) a (by simp), h.sym a (by simp) q (by simp [hq]), Int.mul_comm (M a p)]
  off := fun p hpn q hq ne => by
    unfold sch
    have e1 := h.off p (by simp [hpn]) q (by simp [hq]) ne
    have e2 := h.off p (by simp [hpn]) a (by simp) fun e => na (e ▸ hpn)
    have e3 := h.off a (by simp) q (by simp [hq]) fun e => na (e ▸ hq)
    have f1 : M p q * M a a ≤ 0 := Int.mul_nonpos_of_nonpos_of_nonneg e1 (by omega)
    have f2 : 0 ≤ M p a * M a q := Int.mul_nonneg_of_nonpos_of_nonpos e2 e3
    omega
  row := fun p hpn => by
    have e1 := h.row p (by simp [hpn])
    have e2 := h.row a (by simp)
    rw [List.map_cons, List.sum_cons] at e1 e2
    have e3 := h.off p (by simp [hpn]) a (by simp) fun e => na (e ▸ hpn)
    have e4 : (N.map (sch M a p)).sum = M a a * (N.map (M p)).sum + (-(M p a)) * (N.map (M a)).sum := by
      rw [← sum_mul, ← sum_mul, ← sum_add]
      congr 1
      refine List.map_congr_left fun q _ => ?_
      unfold sch
      grind
    rw [e4]
    generalize (N.map (M p)).sum = x at *
    generalize (N.map (M a)).sum = y at *
    generalize M p a = u at *
    generalize M a a = d at *
    have f1 : 0 ≤ d * (u + x) := Int.mul_nonneg (by omega) e1
    have f2 : 0 ≤ (-u) * (d + y) := Int.mul_nonneg (by omega) e2
    have : d * x + -u * y = d * (u + x) + (-u) * (d + y) := by grind
    omega
end
def m3 (M : Nat → Nat → Int) (a b p q : Nat) : Int := M a a * (M b b * M p q - M b q * M p b) - M a b * (M b a * M p q - M b q * M p a) + M a q * (M b a * M p b - M b b * M p a)
end K10
namespace K10
open PySem L2 G T
end K10
namespace HT
open PySem PyProof.Rows
section
variable {prog : Program} {w : World} {A : Around} {E : Value → Shared → Prop} {s : Shared}
end
end HT
namespace G
open PySem L2
section
variable {X : Cx}
theorem Vals.snoc {xs : List V} {vs : List Value} {x : V} {v : Value} (h : Vals xs vs) (r : RelV x v) : Vals (xs ++ [x]) (vs ++ [v]) := by
  induction h with
  | nil => exact .cons r .nil
  | cons a _ ih => exact .cons a ih
end
section
variable {g : Gp} {X : Cx} {e : Expr} {d : DE} {pos : Pos}
theorem RepL.snoc {K : PySem.W.Frag} {F : Hp} {ds : List D} {vs : List V} {x : D} {v : V} (h : RepL K g F ds vs) (r : Rep K g F x v) : RepL K g F (ds ++ [x]) (vs ++ [v]) := by
  induction vs generalizing ds with
  | nil => cases h; exact .cons r .nil
  | cons a t ih =>
    cases h with
    | cons h1 h2 => exact .cons h1 (ih h2)
end
end G
namespace L2
open PySem PySem.Spec PyProof.Rows
def Raw (rc : List (Addr × Value)) (h : Heap) : Prop := ∀ p ∈ rc, h.IsCell p.1 (some p.2)
theorem Raw.keeps {rc : List (Addr × Value)} {h h' : Heap} (r : Raw rc h) (k : ∀ b o, h.get? b = some o → h'.get? b = some o) : Raw rc h' := fun p hp => (r p hp).keeps k
section
variable {X : Cx}
structure RawB (X : Cx) (rc : List (Addr × Value)) (s : Shared) (H : Hp) (fp : List Addr) : Prop where
  raw : Raw rc s.heap
  free : ∀ p ∈ rc, H p.1 = none
  nofs : ∀ p ∈ rc, p.1 ∉ frs X.stack
  nofp : ∀ p ∈ rc, p.1 ∉ fp
theorem RawB.at {X : Cx} {rc : List (Addr × Value)} {s s' : Shared} {H H' : Hp} {fp : List Addr} {scope : Scope} {cenv : Env} {pins : List (Addr × Obj)} {σ : St} (r : RawB X rc s H fp) (I : Inv (X.blk s H scope cenv fp) pins σ H' s') : Raw rc s'.heap := fun p hp => by
  obtain ⟨o, ho, hd⟩ := r.raw p hp
  exact ⟨o, I.base.keep p.1 o ho (r.free p hp) (r.nofs p hp) (r.nofp p hp), hd⟩
end
section
variable {Y : Cx} {pins : List (Addr × Obj)} {σ : St} {H : Hp} {s : Shared}
end
end L2
namespace L2
open PySem PySem.Spec PyProof.Rows
end L2
namespace L2
open PySem PySem.Spec PyProof.Rows G
section
variable {prog : Program} {w : World} {A : Around} {E : Value → Shared → Prop}
end
section
variable {X : Cx} {pins : List (Addr × Obj)} {σ : St} {H : Hp} {s : Shared}
end
end L2
namespace SH
open PySem L2 G T
def S_tie_of : G.Spec := fun as m Q => ∃ a b : Nat, as = [.val (cD a), .val (cD b)] ∧ Q (wayD (min a b, max a b)) m
theorem S_tie_of_len : ∀ as m Q, S_tie_of as m Q → as.length = 2 := by rintro as m Q ⟨_, _, rfl, _⟩; rfl
def sb (p q a : Nat) : Nat := if a = q then p else a
theorem str_ext {x y : Str} (h : x.cps.toList = y.cps.toList) : x = y := by
  cases x; cases y
  simp at h
  rw [h]
theorem con_mm {E : List (Nat × Nat)} {a b : Nat} (h : (min a b, max a b) ∈ E) : Conn E a b := by
  have c : Conn E (min a b) (max a b) := .tie h
  rcases Nat.le_total a b with l | l
  · rw [Nat.min_eq_left l, Nat.max_eq_right l] at c; exact c
  · rw [Nat.min_eq_right l, Nat.max_eq_left l] at c; exact c.symm
noncomputable def rep (P : List Nat) (E : List (Nat × Nat)) (a : Nat) : Nat := by
  classical exact if h : ∃ l, l ∈ leasts P E ∧ Conn E a l then h.choose else 0
section
variable {P : List Nat} {T : List (Nat × Nat)} (hW : WbOk P T) {k : Nat} {e : Nat × Nat} (hk : T[k]? = some e)
include hW hk
end
end SH
namespace SH
open PySem L2 G T
def d_tie_of : DS := (dRet (dOp addD (dCallB minD2 (dConsL (dVarB 0) (dConsL (dVarB 1) dNilL))) (dCallB maxD2 (dConsL (dVarB 0) (dConsL (dVarB 1) dNilL)))))
abbrev n_tie_of : Nat := 2
theorem law_tie_of : ∀ as m Q, S_tie_of as m Q → d_tie_of (padn n_tie_of as) m (fin Q) := by
  rintro as m Q ⟨a, b, rfl, q⟩
  have hll := llv
  have ew : addD (.str (c1 (min a b))) (.str (c1 (max a b))) = some (wayD (min a b, max a b)) := by
    show (if (c1 (min a b)).length + (c1 (max a b)).length ≤ LL then some (D.str (c1 (min a b) ++ c1 (max a b))) else none) = _
    rw [if_pos (by show 1 + 1 ≤ LL; omega)]; rfl
  exact ⟨_, rfl, _, rfl, _, min_c a b, _, rfl, _, rfl, _, max_c a b, _, ew, q⟩
end SH
namespace K05
open PySem L2 G
open T hiding S_law_lots S_law_parts ckOk
open SH hiding sb
open K10 hiding S_every_lot S_every_lot_len S_law_right S_law_right_len d_every_lot d_law_right fl law_every_lot n_every_lot n_law_right pm0 pm120 rest rng_in sum_add
open K15 hiding S_law_right S_law_right_len d_law_right n_law_right pm0
open K03 hiding S_law_right S_law_right_len d_law_right n_law_right pm10
open K04
def Mate (P : List Nat) (T : List (Nat × Nat)) (i j : Nat) : Prop := ∃ R ∈ rngs P T, i ∈ R ∧ j ∈ R
structure Blk (P : List Nat) (T : List (Nat × Nat)) (Bs : List (List Nat)) : Prop where
  all : Bs.flatten.Perm (List.range T.length)
  ne : ∀ B ∈ Bs, B ≠ []
  inc : ∀ B ∈ Bs, B.Pairwise (· < ·)
  ring : ∀ R ∈ rngs P T, ∃ B ∈ Bs, ∀ i ∈ R, i ∈ B
  conn : ∀ B ∈ Bs, ∀ i ∈ B, ∀ j ∈ B, i = j ∨ Mate P T i j
  srt : Bs.Pairwise leL
def jn (R : List Nat) (Bs : List (List Nat)) : List (List Nat) := Bs.filter fun B => B.any fun k => decide (k ∈ R)
def nx (R : List Nat) (Bs : List (List Nat)) : List (List Nat) := srt (jn R Bs).flatten :: Bs.filter fun B => !decide (B ∈ jn R Bs)
noncomputable def blk (P : List Nat) (T : List (Nat × Nat)) : List (List Nat) := srtL ((rngs P T).foldl (fun Bs R => nx R Bs) ((List.range T.length).map fun k => [k]))
def S_more_tie : G.Spec := fun as m Q => ∃ P T a b, WbOk P T ∧ T.length ≤ 10 ∧ a ∈ P ∧ b ∈ P ∧ as = [.val (webD P T), .val (cD a), .val (cD b)] ∧ Q (webD P (T ++ [(min a b, max a b)])) m
def S_put : G.Spec := S_more_tie
def S_blocks : G.Spec := fun as m Q => ∃ P T, WbOk P T ∧ T.length ≤ 7 ∧ as = [.val (webD P T)] ∧ Q (.tup ((blk P T).map lotD)) m
def S_law_spots : G.Spec := fun as m Q => ∃ n : Nat, 1 ≤ n ∧ n ≤ 5 ∧ as = [.cask, .val (natD n)] ∧ ∀ P, PlOk P → P.length = n → Q (plD P) m
def S_law_net : G.Spec := fun as m Q => as = [.cask, .val (.int 5), .val (.int 6)] ∧ ∀ P T, WbOk P T → P.length ≤ 5 → T.length ≤ 6 → Q (netD P T) m
def S_law_pairs_right : G.Spec := fun as m Q => ∃ P T, ∃ Bs : List (List Nat), WbOk P T ∧ T.length ≤ 6 ∧ Blk P T Bs ∧ as = [.val (webD P T), .val (netD P T), .val (.tup (Bs.map lotD))] ∧ Q (.bl true) m
def S_law_product_right : G.Spec := fun as m Q => ∃ P T, ∃ Bs : List (List Nat), WbOk P T ∧ T.length ≤ 6 ∧ Blk P T Bs ∧ as = [.cask, .val (webD P T), .val (netD P T), .val (.tup (Bs.map lotD))] ∧ Q (.bl true) m
def S_law_tie_right : G.Spec := fun as m Q => ∃ P T k, WbOk P T ∧ P.length ≤ 5 ∧ k < T.length ∧ as = [.val (webD P T), .val (netD P T), .val (natD k), .val (lotD (brg P T))] ∧ Q (.bl true) m
def S_law_right : G.Spec := fun as m Q => as = [.cask] ∧ Q (.bl true) m
theorem S_blocks_len : ∀ as m Q, S_blocks as m Q → as.length = 1 := by rintro as m Q ⟨_, _, _, _, rfl, _⟩; rfl
theorem S_law_spots_len : ∀ as m Q, S_law_spots as m Q → as.length = 2 := by rintro as m Q ⟨_, _, _, rfl, _⟩; rfl
theorem S_law_net_len : ∀ as m Q, S_law_net as m Q → as.length = 3 := by rintro as m Q ⟨rfl, _⟩; rfl
theorem S_law_right_len : ∀ as m Q, S_law_right as m Q → as.length = 1 := by rintro as m Q ⟨rfl, _⟩; rfl
end K05
namespace K05
open PySem L2 G
open T hiding S_law_lots S_law_parts ckOk
open SH hiding sb
open K10 hiding S_every_lot S_every_lot_len S_law_right S_law_right_len d_every_lot d_law_right fl law_every_lot n_every_lot n_law_right pm0 pm120 rest rng_in sum_add
open K15 hiding S_law_right S_law_right_len d_law_right n_law_right pm0
open K03 hiding S_law_right S_law_right_len d_law_right n_law_right pm10
open K04
def pm0 {α : Type} : List α → List α
  | [x0] => [x0]
  | l => l
def d_blocks : DS := (dSeq (dDrop (dCall S_check_web (dConsA (dVar 0) dNilA)))
  (dSeq (dAsg 1 (dNew (dLc (dISrc (dCall S_every_tie (dConsA (dVar 0) dNilA))) (tgN 5) dYes (dTup (dConsL (dVar 5) dNilL)) [5])))
  (dSeq (dFor (dISrc (dCall S_all_rings (dConsA (dVar 0) dNilA))) (tgN 2) (dSeq (dAsg 3 (dNew (dLc (dISrc (dVarB 1)) (tgN 6) (dTest (dCallB anyD (dConsL (dNew (dLc (dISrc (dVarB 6)) (tgN 5) dYes (dOp inD (dVarB 5) (dVarB 2)) [5])) dNilL))) (dVar 6) [6])))
  (dSeq (dAsg 4 (dCallB tupleD (dConsL (dNew (dCallN sortedD (dConsL (dNew (dLc2 (dISrc (dVarB 3)) (tgN 6) dYes (dISrc (dVar 6)) (tgN 5) dYes (dVar 5) [6, 5] [5])) dNilL))) dNilL)))
  (dAsg 1 (dOp addD (dNew (dLst (dConsL (dVar 4) dNilL))) (dNew (dLc (dISrc (dVarB 1)) (tgN 6) (dTest (dOp notInQD (dVarB 6) (dVarB 3))) (dVar 6) [6])))))))
  (dRet (dCallB tupleD (dConsL (dNew (dCallN sortedD (dConsL (dVarB 1) dNilL))) dNilL))))))
abbrev n_blocks : Nat := 7
def d_law_spots : DS := (dSeq (dMix [2, 3] (dConsW (dNew (dCallN listD (dConsL (dC (.str "abcdefgh")) dNilL))) (dConsW (dNew (dLst dNilL)) dNilA)))
  (dSeq (dFor (dIRng (dVar 1)) (tgN 4) (dAppPop 3 2 (dCall S_law_tap (dConsC 0 (dConsA (dCallB lenD0 (dConsL (dVarB 2) dNilL)) dNilA)))))
  (dRet (dMt D.isS joinD (dC (.str "")) (dConsL (dNew (dCallN sortedD (dConsL (dVarB 3) dNilL))) dNilL)))))
abbrev n_law_spots : Nat := 5
def d_law_net : DS := (dSeq (dAsg 3 (dCall S_law_spots (dConsC 0 (dConsA (dOp addD (dC (.int 1)) (dCall S_law_tap (dConsC 0 (dConsA (dVar 1) dNilA)))) dNilA))))
  (dSeq (dAsgN 4 (dLst dNilL))
  (dSeq (dFor (dIRng (dCall S_law_tap (dConsC 0 (dConsA (dOp addD (dVarB 2) (dC (.int 1))) dNilA)))) (tgN 5) (dSeq (dApp 4 (dCall S_law_joint (dConsA (dCall S_law_pick (dConsC 0 (dConsA (dNew (dCallN listD (dConsL (dVarB 3) dNilL))) dNilA))) (dConsA (dCall S_law_pick (dConsC 0 (dConsA (dNew (dCallN listD (dConsL (dVarB 3) dNilL))) dNilA))) dNilA))))
  (dIf (dTest (dOp eqD (dCall S_law_tap (dConsC 0 (dConsA (dC (.int 5)) dNilA))) (dC (.int 0)))) (dSetI 4 (dOp ixD (dVarB 4) (dC (.int 0))) (dC (.int (-1)))) dNext)))
  (dFreeze 4 (dRet (dTup (dConsL (dVar 3) (dConsL (dVar 4) dNilL))))))))
abbrev n_law_net : Nat := 6
def d_law_right : DS := (dSeq (dAsg 1 (dCall S_law_net (dConsC 0 (dConsA (dC (.int 5)) (dConsA (dC (.int 6)) dNilA)))))
  (dSeq (dAsg 2 (dMake (dConsA (dOp ixD (dVarB 1) (dC (.int 0))) (dConsA (dCallB tupleD (dConsL (dOp ixD (dVarB 1) (dC (.int 1))) dNilL)) dNilA))))
  (dSeq (dPar 3 4 (dConsL (dCall S_blocks (dConsA (dVar 2) dNilA)) (dConsL (dCall S_bridges (dConsA (dVar 2) dNilA)) dNilL)))
  (dSeq (dIf (dOr (dTest (dOp neD (dCallK S_blocks pm0 (dConsA (dVar 2) dNilA)) (dVarB 3))) (dOr (dTest (dOp neD (dCallK S_bridges pm0 (dConsA (dVar 2) dNilA)) (dVarB 4))) (dNot (dTest (dIsi isTupD (dVarB 3)))))) (dRet (dC (.bl false))) dNext)
  (dSeq (dAsg 5 (dNew (dLst dNilL)))
  (dSeq (dFor (dISrc (dVar 3)) (tgN 6) (dSeq (dAsg 5 (dOp addD (dVarB 5) (dNew (dCallN listD (dConsL (dVarB 6) dNilL)))))
  (dIf (dTest (dOp neD (dNew (dCallN listD (dConsL (dVarB 6) dNilL))) (dNew (dCallN sortedTD (dConsL (dVarB 6) dNilL))))) (dRet (dC (.bl false))) dNext)))
  (dSeq (dIf (dOr (dTest (dOp neD (dNew (dCallN sortedD (dConsL (dVarB 5) dNilL))) (dNew (dLstRg (dCallB lenD0 (dConsL (dOp ixD (dVarB 1) (dC (.int 1))) dNilL)))))) (dTest (dOp neD (dNew (dCallN listD (dConsL (dVarB 3) dNilL))) (dNew (dCallN sortedTD (dConsL (dVarB 3) dNilL)))))) (dRet (dC (.bl false))) dNext)
  (dSeq (dIf (dOr (dNot (dTest (dCall S_law_pairs_right (dConsA (dVar 2) (dConsA (dVar 1) (dConsA (dVar 3) dNilA)))))) (dNot (dTest (dCall S_law_product_right (dConsC 0 (dConsA (dVar 2) (dConsA (dVar 1) (dConsA (dVar 3) dNilA)))))))) (dRet (dC (.bl false))) dNext)
  (dSeq (dIf (dTest (dOp eqD (dOp ixD (dVarB 1) (dC (.int 1))) (dNew (dLst dNilL)))) (dRet (dAndV (dOp eqD (dVarB 3) (dTup dNilL)) (dOp eqD (dVarB 4) (dTup dNilL)))) dNext)
  (dSeq (dAsg 7 (dCall S_law_tap (dConsC 0 (dConsA (dCallB lenD0 (dConsL (dOp ixD (dVarB 1) (dC (.int 1))) dNilL)) dNilA))))
  (dSeq (dIf (dNot (dTest (dCall S_law_tie_right (dConsA (dVar 2) (dConsA (dVar 1) (dConsA (dVar 7) (dConsA (dVar 4) dNilA))))))) (dRet (dC (.bl false))) dNext)
  (dSeq (dAsg 8 (dCall S_put (dConsA (dVar 2) (dConsA (dOp ixD (dOp ixD (dOp ixD (dVarB 1) (dC (.int 1))) (dVarB 7)) (dC (.int 0))) (dConsA (dOp ixD (dOp ixD (dOp ixD (dVarB 1) (dC (.int 1))) (dVarB 7)) (dC (.int 1))) dNilA)))))
  (dSeq (dAsg 9 (dOp eqD (dOp ixD (dOp ixD (dOp ixD (dVarB 1) (dC (.int 1))) (dVarB 7)) (dC (.int 0))) (dOp ixD (dOp ixD (dOp ixD (dVarB 1) (dC (.int 1))) (dVarB 7)) (dC (.int 1)))))
  (dSeq (dAsg 10 (dOp ixD (dNew (dLc (dISrc (dCall S_blocks (dConsA (dVar 8) dNilA))) (tgN 11) (dTest (dOp inD (dCallB lenD0 (dConsL (dOp ixD (dVarB 1) (dC (.int 1))) dNilL)) (dVarB 11))) (dVar 11) [11])) (dC (.int 0))))
  (dRet (dIfE (dTest (dVar 9)) (dOp eqD (dVarB 10) (dTup (dConsL (dCallB lenD0 (dConsL (dOp ixD (dVarB 1) (dC (.int 1))) dNilL)) dNilL))) (dAndV (dOp inD (dVarB 7) (dVarB 10)) (dOp notInD (dVarB 7) (dCall S_bridges (dConsA (dVar 8) dNilA))))))))))))))))))))
abbrev n_law_right : Nat := 12
end K05
namespace K05
open PySem L2 G
open T hiding S_law_lots S_law_parts ckOk
open SH hiding sb
open K10 hiding S_every_lot S_every_lot_len S_law_right S_law_right_len d_every_lot d_law_right fl law_every_lot n_every_lot n_law_right pm0 pm120 rest rng_in sum_add
open K15 hiding S_law_right S_law_right_len d_law_right n_law_right pm0
open K03 hiding S_law_right S_law_right_len d_law_right n_law_right pm10
open K04
def un (n : Nat) (R S : List Nat) : List Nat := (List.range n).filter fun i => decide (i ∈ R ∨ i ∈ S)
theorem mem_un {n i : Nat} {R S : List Nat} : i ∈ un n R S ↔ i < n ∧ (i ∈ R ∨ i ∈ S) := by unfold un; rw [List.mem_filter, List.mem_range, decide_eq_true_eq]
theorem un_lot (n : Nat) (R S : List Nat) : Lot n (un n R S) := ⟨List.pairwise_lt_range.filter _, fun i hi => (mem_un.mp hi).1⟩
theorem un_lt {n f : Nat} {A B R S : List Nat} (h : ∀ i, i < n → i ∈ A ∨ i ∈ B → i ∈ R ∨ i ∈ S) (hf : f < n) (h1 : f ∈ R ∨ f ∈ S) (h2 : f ∉ A) (h3 : f ∉ B) : (un n A B).length < (un n R S).length := by
  have m : f ∈ un n R S := mem_un.mpr ⟨hf, h1⟩
  have sl := lot_sl (K03.Lot.out (un_lot n R S) f) (un_lot n A B) fun i hi => by
    obtain ⟨i1, i2⟩ := mem_un.mp hi
    exact mem_out.mpr ⟨mem_un.mpr ⟨i1, h i i1 i2⟩, fun e => by subst e; exact i2.elim h2 h3⟩
  have l1 := sl.length_le
  have l2 := out_len (K03.Lot.nd (un_lot n R S)) m
  omega
section
variable {P : List Nat} {T : List (Nat × Nat)} (hW : WbOk P T)
include hW
theorem rng_inb {R : List Nat} (h : R ∈ rngs P T) : ∀ i ∈ R, i < T.length := ((mem_rngs hW).mp h).1.inb
theorem rng_ne {R : List Nat} (h : R ∈ rngs P T) : R ≠ [] := fun e => by
  have := ((mem_rngs hW).mp h).2.1
  rw [e] at this; simp at this
theorem ring_sub {R S : List Nat} (hR : R ∈ rngs P T) (hS : S ∈ rngs P T) (h : ∀ i ∈ R, i ∈ S) : ∀ i ∈ S, i ∈ R := by
  obtain ⟨lR, rR⟩ := (mem_rngs hW).mp hR
  obtain ⟨lS, rS⟩ := (mem_rngs hW).mp hS
  intro k hk
  apply Classical.byContradiction
  intro nk
  have f : (out S k).length = rk P (tl T (out S k)) := rS.2 k hk
  have f2 := free_sub hW (K03.Lot.out lS k) lR (fun i hi => mem_out.mpr ⟨h i hi, fun e => nk (e ▸ hi)⟩) f
  have f3 := rR.1
  omega
theorem even_ring {E : List Nat} (hE : Lot T.length E) (ev : Evn P (tl T E)) {k : Nat} (hk : k ∈ E) : ∃ R ∈ rngs P T, k ∈ R ∧ ∀ i ∈ R, i ∈ E := by
  have c := even_conn hW hE ev hk
  obtain ⟨R, r1, r2, r3⟩ := ring_through hW _ rfl (K03.Lot.out hE k) (hE.inb k hk) (fun z => (mem_out.mp z).2 rfl) c
  exact ⟨R, r1, r2, fun i hi => (r3 i hi).elim (fun z => (mem_out.mp z).1) fun e => e ▸ hk⟩
theorem ring_elim {R S : List Nat} (hR : R ∈ rngs P T) (hS : S ∈ rngs P T) {f : Nat} (h1 : f ∈ R) (h2 : f ∉ S) : ∃ U ∈ rngs P T, f ∈ U ∧ ∀ i ∈ U, (i ∈ R ∧ i ∉ S) ∨ (i ∈ S ∧ i ∉ R) := by
  obtain ⟨lR, rR⟩ := (mem_rngs hW).mp hR
  obtain ⟨lS, rS⟩ := (mem_rngs hW).mp hS
  have eR := ring_even hW lR rR
  have eS := ring_even hW lS rS
  have ev : Evn P (tl T (xr T.length R S)) := fun a ha => by
    have e1 := eR a ha
    have e2 := eS a ha
    rw [dg_lot T lR] at e1
    rw [dg_lot T lS] at e2
    have e3 : dg (tl T (xr T.length R S)) a = sf T T.length (fun i => decide (i ∈ R) != decide (i ∈ S)) a := dg_filter T _ a (List.range T.length)
    rw [e3, sf_xor]
    omega
  have hf : f ∈ xr T.length R S := mem_xr.mpr ⟨lR.inb f h1, by rw [decide_eq_true h1, decide_eq_false h2]; rfl⟩
  obtain ⟨U, u1, u2, u3⟩ := even_ring hW (xr_lot _ R S) ev hf
  refine ⟨U, u1, u2, fun i hi => ?_⟩
  have := (mem_xr.mp (u3 i hi)).2
  by_cases a : i ∈ R <;> by_cases b : i ∈ S
  · rw [decide_eq_true a, decide_eq_true b] at this; cases this
  · exact .inl ⟨a, b⟩
  · exact .inr ⟨b, a⟩
  · rw [decide_eq_false a, decide_eq_false b] at this; cases this
theorem ring_trans : ∀ (n : Nat) {e g : Nat} {R S : List Nat}, R ∈ rngs P T → S ∈ rngs P T → e ∈ R → g ∈ S → (∃ f, f ∈ R ∧ f ∈ S) → (un T.length R S).length ≤ n → Mate P T e g := by
  intro n
  induction n with
  | zero =>
    rintro e g R S hR hS he hg ⟨f, f1, f2⟩ hn
    have m : f ∈ un T.length R S := mem_un.mpr ⟨rng_inb hW hR f f1, .inl f1⟩
    rw [List.eq_nil_of_length_eq_zero (Nat.le_zero.mp hn)] at m
    cases m
  | succ n ih =>
    rintro e g R S hR hS he hg ⟨f, f1, f2⟩ hn
    by_cases eS : e ∈ S
    · exact ⟨S, hS, eS, hg⟩
    by_cases gR : g ∈ R
    · exact ⟨R, hR, he, gR⟩
    obtain ⟨U, u1, u2, u3⟩ := ring_elim hW hR hS he eS
    obtain ⟨V, v1, v2, v3⟩ := ring_elim hW hS hR hg gR
    have fU : f ∉ U := fun z => (u3 f z).elim (fun y => y.2 f2) fun y => y.2 f1
    have fV : f ∉ V := fun z => (v3 f z).elim (fun y => y.2 f1) fun y => y.2 f2
    have fn := rng_inb hW hR f f1
    by_cases h : ∀ i ∈ R, i ∉ S → i ∈ U
    · obtain ⟨y, y1, y2⟩ : ∃ y ∈ V, y ∉ S := by
        apply Classical.byContradiction
        intro z
        exact fV (ring_sub hW v1 hS (fun i hi => Classical.byContradiction fun w => z ⟨i, hi, w⟩) f f2)
      have yR : y ∈ R := (v3 y y1).elim (fun w => absurd w.1 y2) fun w => w.1
      refine ih u1 v1 u2 v2 ⟨y, h y yR y2, y1⟩ ?_
      have := un_lt (n := T.length) (A := U) (B := V) (R := R) (S := S) (fun i _ hi => hi.elim (fun z => (u3 i z).elim (fun w => .inl w.1) fun w => .inr w.1) fun z => (v3 i z).elim (fun w => .inr w.1) fun w => .inl w.1) fn (.inl f1) fU fV
      omega
    · obtain ⟨i, h1⟩ := Classical.not_forall.mp h
      obtain ⟨i1, h2⟩ := Classical.not_imp.mp h1
      obtain ⟨i2, i3⟩ := Classical.not_imp.mp h2
      obtain ⟨x, x1, x2⟩ : ∃ x ∈ U, x ∉ R := by
        apply Classical.byContradiction
        intro z
        exact fU (ring_sub hW u1 hR (fun i hi => Classical.byContradiction fun w => z ⟨i, hi, w⟩) f f1)
      have xS : x ∈ S := (u3 x x1).elim (fun w => absurd w.1 x2) fun w => w.1
      refine ih u1 hS u2 hg ⟨x, x1, xS⟩ ?_
      have := un_lt (n := T.length) (A := U) (B := S) (R := R) (S := S) (fun i _ hi => hi.elim (fun z => (u3 i z).elim (fun w => .inl w.1) fun w => .inr w.1) fun z => .inr z) (rng_inb hW hR i i1) (.inl i1) i3 i2
      omega
theorem Mate.trans {i j k : Nat} : Mate P T i j → Mate P T j k → Mate P T i k := fun ⟨R, r1, r2, r3⟩ ⟨S, s1, s2, s3⟩ => ring_trans hW _ r1 s1 r2 s3 ⟨j, r3, s2⟩ (Nat.le_refl _)
end
end K05
namespace K05
open PySem L2 G
open T hiding S_law_lots S_law_parts ckOk
open SH hiding sb
open K10 hiding S_every_lot S_every_lot_len S_law_right S_law_right_len d_every_lot d_law_right fl law_every_lot n_every_lot n_law_right pm0 pm120 rest rng_in sum_add
open K15 hiding S_law_right S_law_right_len d_law_right n_law_right pm0
open K03 hiding S_law_right S_law_right_len d_law_right n_law_right pm10
open K04
open SE (notInQl se_tups eq_lstS)
theorem law_law_spots : ∀ as m Q, S_law_spots as m Q → d_law_spots (padn n_law_spots as) m (fin Q) := by
  rintro as m Q ⟨n, hn1, hn5, rfl, q⟩
  have hll := llv
  have el : listD [.str "abcdefgh"] = some ([97, 98, 99, 100, 101, 102, 103, 104].map cD) := by
    show (if (Str.ofString "abcdefgh").length ≤ LL then some (charsD (Str.ofString "abcdefgh")) else none) = _
    rw [letters_chars, if_pos (by decide +kernel)]
  refine ⟨_, el, by decide, rfl, ?_⟩
  refine ⟨_, rfl, (n : Nat), rfl, by omega, by omega, ?_⟩
  rw [natD_map]
  refine forR_rg natD n (fun i env m' => m' = m ∧ ∃ (left found : List Nat) (x4 : Sl), found.length = i ∧ (left ++ found).Perm [97, 98, 99, 100, 101, 102, 103, 104] ∧ env = [.cask, .val (natD n), .own (left.map cD), .own (found.map cD), x4]) ?_ ?_ _ _ ⟨rfl, [97, 98, 99, 100, 101, 102, 103, 104], [], .no, rfl, by simp, rfl⟩
  · rintro env m' ⟨rfl, left, found, x4, hlen, hp, rfl⟩
    have hin : ∀ a ∈ found, 97 ≤ a ∧ a ≤ 104 := fun a ha => by
      have := hp.mem_iff.mp (List.mem_append_right left ha)
      simp at this
      omega
    have hnd : found.Nodup := by
      have : (left ++ found).Nodup := hp.nodup_iff.mpr (by decide)
      exact (List.nodup_append.mp this).2.1
    have hPl : PlOk (srt found) := ⟨srt_inc hnd, fun a ha => hin a ((srt_perm found).mem_iff.mp ha), by rw [(srt_perm found).length_eq]; omega, by rw [(srt_perm found).length_eq]; omega⟩
    have hpl := (srt_perm found).length_eq
    have hsrt := sorted_c1 (l := found) (by omega) fun a ha => by have := hin a ha; omega
    exact ⟨rfl, _, rfl, (srt found).map cD, hsrt, .str (plS (srt found)), joinD_c1 _ (by omega), q _ hPl (by omega)⟩
  · rintro i hi env m' ⟨rfl, left, found, x4, hlen, hp, rfl⟩
    have hl8 := hp.length_eq
    simp at hl8
    refine ⟨_, rfl, fun K hK => ?_⟩
    refine ⟨_, _, rfl, rfl, by decide, _, rfl, .inl rfl, _, rfl, _, rfl, (left.length : Nat), by omega, by omega, by rw [List.length_map], fun k hk => ?_⟩
    have hk' : k < left.length := by omega
    have hkx : left[k]? = some left[k] := List.getElem?_eq_getElem hk'
    refine ⟨k, cD left[k], rfl, by rw [List.getElem?_map, hkx]; rfl, by rw [List.length_map]; omega, by rw [List.length_map]; omega, hK _ _ ⟨rfl, left.eraseIdx k, found ++ [left[k]], .val (natD i), by rw [List.length_append, List.length_singleton]; omega, ?_, ?_⟩⟩
    · have h1 := _root_.T.erase_perm left k _ hkx
      have h2 : (left.eraseIdx k ++ (found ++ [left[k]])).Perm ((left[k] :: left.eraseIdx k) ++ found) := by
        have : (left.eraseIdx k ++ (found ++ [left[k]])).Perm ((left.eraseIdx k ++ found) ++ [left[k]]) := by rw [List.append_assoc]
        exact this.trans (List.perm_append_comm (l₁ := left.eraseIdx k ++ found) (l₂ := [left[k]]))
      exact (h2.trans (h1.append_right found)).trans hp
    · rw [erase_map, List.map_append]; rfl
theorem law_law_net : ∀ as m Q, S_law_net as m Q → d_law_net (padn n_law_net as) m (fin Q) := by
  rintro as m Q ⟨rfl, q⟩
  have hll := llv
  refine ⟨_, rfl, .inl rfl, _, rfl, .inl rfl, _, rfl, 5, by decide, by decide, rfl, fun d hd => ⟨natD (1 + d), by show some (D.int _) = some (D.int _); congr 1, ?_⟩⟩
  refine ⟨1 + d, by omega, by omega, rfl, fun P hP hPn => ?_⟩
  have hL := len7 hP
  have hne : P ≠ [] := List.length_pos_iff.mp hP.pos
  refine ⟨by show 0 ≤ LL; omega, ?_⟩
  refine ⟨_, rfl, .inl rfl, _, rfl, _, rfl, 7, by decide, by decide, rfl, fun d2 hd2 => ⟨(d2 : Nat), rfl, by omega, by omega, ?_⟩⟩
  rw [natD_map]
  refine forR_rg natD d2 (fun i env m' => m' = m ∧ ∃ (T : List (Nat × Nat)) (x5 : Sl), T.length = i ∧ (∀ p ∈ T, p.1 ∈ P ∧ p.2 ∈ P ∧ p.1 ≤ p.2) ∧ env = [.cask, .val (.int 5), .val (.int 6), .val (plD P), .own (T.map wayD), x5]) ?_ ?_ _ _ ⟨rfl, [], .no, rfl, fun p hp => (by cases hp), rfl⟩
  · rintro env m' ⟨rfl, T, x5, hlen, hT, rfl⟩
    exact ⟨_, rfl, _, rfl, _, rfl, by show 2 ≤ LL; omega, q P T ⟨hP, by omega, hT⟩ (by omega) (by omega)⟩
  · rintro i hi env m' ⟨rfl, T, x5, hlen, hT, rfl⟩
    have lst : listD [plD P] = some (P.map cD) := if_pos hL
    have pne : P.map cD ≠ [] := by simpa using hne
    have plen : (P.map cD).length ≤ 100 := by rw [List.length_map]; omega
    refine ⟨_, rfl, fun K hK => ?_⟩
    refine ⟨_, rfl, _, rfl, .inl rfl, _, rfl, _, lst, P.map cD, pne, plen, rfl, fun x hx => ?_⟩
    obtain ⟨a, ha, rfl⟩ := List.mem_map.mp hx
    refine ⟨_, rfl, .inl rfl, _, rfl, _, lst, P.map cD, pne, plen, rfl, fun y hy => ?_⟩
    obtain ⟨b, hb, rfl⟩ := List.mem_map.mp hy
    refine ⟨a, b, rfl, by rw [List.length_map]; omega, ?_⟩
    have e1 : T.map wayD ++ [wayD (min a b, max a b)] = (T ++ [(min a b, max a b)]).map wayD := by rw [List.map_append]; rfl
    rw [e1]
    have hT' : ∀ p ∈ T ++ [(min a b, max a b)], p.1 ∈ P ∧ p.2 ∈ P ∧ p.1 ≤ p.2 := fun p hp => by
      rcases List.mem_append.mp hp with hp | hp
      · exact hT p hp
      · rw [List.mem_singleton] at hp; subst hp; exact tie_mk ha hb
    have hl' : (T ++ [(min a b, max a b)]).length = i + 1 := by rw [List.length_append, List.length_singleton, hlen]
    generalize T ++ [(min a b, max a b)] = T' at hT' hl'
    refine ⟨_, rfl, .inl rfl, 5, by decide, by decide, rfl, fun d3 hd3 => ⟨_, eqD_int _ _, _, rfl, ?_⟩⟩
    by_cases z : ((d3 : Nat) : Int) = 0
    · rw [decide_eq_true z]
      have h0 : T'[0]? = some (T'[0]'(by omega)) := List.getElem?_eq_getElem (by omega)
      refine ⟨_, rfl, _, ix_lst (f := wayD) (i := 0) h0, _, rfl, -1, T'.length - 1, rfl, ?_, ?_⟩
      · unfold ixN
        rw [if_neg (by decide), if_pos (by rw [List.length_map]; omega), List.length_map]
        congr 1
        omega
      · have e2 : (T'.map wayD).set (T'.length - 1) (wayD (T'[0]'(by omega))) = (T'.set (T'.length - 1) (T'[0]'(by omega))).map wayD := by rw [List.map_set]
        rw [e2]
        refine hK _ _ ⟨rfl, _, .val (natD i), by rw [List.length_set]; exact hl', fun p hp => ?_, rfl⟩
        rcases List.mem_or_eq_of_mem_set hp with hp | hp
        · exact hT' p hp
        · rw [hp]; exact hT' _ (List.getElem_mem _)
    · rw [decide_eq_false z]
      exact hK _ _ ⟨rfl, T', .val (natD i), hl', hT', rfl⟩
theorem lc2_flat (e0 e1 e2 e3 e4 e5 e6 : Sl) : ∀ (xs : List (List Nat)) (m : Nat) (Q : List D → Nat → Prop), (∀ L ∈ xs, L.length ≤ 100) → Q (xs.flatten.map natD) m → Lc2R (tgN 6) dYes (dISrc (dVar 6)) (tgN 5) dYes (dVar 5) [5] [e0, e1, e2, e3, e4, e5, e6] (xs.map lotD) m Q
  | [], m, Q, _, q => q
  | L :: r, m, Q, h, q => by
    refine ⟨_, rfl, ?_⟩
    dsimp only [dYes]
    rw [if_pos rfl]
    refine ⟨_, rfl, L.map natD, rfl, by rw [List.length_map]; exact h L (by simp), ?_⟩
    refine lcR_m natD natD L m _ (fun k _ => ⟨_, rfl, fun m Q q => ⟨_, rfl, q⟩⟩) ?_
    refine lc2_flat e0 e1 e2 e3 e4 e5 e6 r m _ (fun L hL => h L (by simp [hL])) ?_
    show Q (L.map natD ++ r.flatten.map natD) m
    rw [← List.map_append]
    exact q
theorem flat_part {α : Type} (p : List α → Bool) : ∀ Bs : List (List α), ((Bs.filter p).flatten ++ (Bs.filter fun B => !p B).flatten).Perm Bs.flatten
  | [] => .nil
  | B :: r => by
    have ih := flat_part p r
    cases h : p B with
    | true =>
      rw [List.filter_cons_of_pos h, List.filter_cons_of_neg (by rw [h]; decide), List.flatten_cons, List.flatten_cons, List.append_assoc]
      exact ih.append_left B
    | false =>
      rw [List.filter_cons_of_neg (by rw [h]; decide), List.filter_cons_of_pos (by rw [h]; rfl), List.flatten_cons, List.flatten_cons]
      refine List.Perm.trans ?_ (ih.append_left B)
      rw [← List.append_assoc, ← List.append_assoc]
      exact (List.perm_append_comm).append_right _
theorem nx_rest (R : List Nat) (Bs : List (List Nat)) : (Bs.filter fun B => !decide (B ∈ jn R Bs)) = Bs.filter fun B => !(B.any fun k => decide (k ∈ R)) := List.filter_congr fun B hB => by
  congr 1
  rw [Bool.eq_iff_iff, decide_eq_true_iff]
  unfold jn
  rw [List.mem_filter]
  exact ⟨fun h => h.2, fun h => ⟨hB, h⟩⟩
structure Bl (P : List Nat) (T : List (Nat × Nat)) (Rs : List (List Nat)) (Bs : List (List Nat)) : Prop where
  all : Bs.flatten.Perm (List.range T.length)
  ne : ∀ B ∈ Bs, B ≠ []
  inc : ∀ B ∈ Bs, B.Pairwise (· < ·)
  ring : ∀ R ∈ Rs, ∃ B ∈ Bs, ∀ i ∈ R, i ∈ B
  conn : ∀ B ∈ Bs, ∀ i ∈ B, ∀ j ∈ B, i = j ∨ Mate P T i j
theorem sub_flat {A B : List (List Nat)} (h : A.Sublist B) : A.flatten.Sublist B.flatten := by
  induction h with
  | slnil => exact List.Sublist.refl _
  | cons a _ ih => rw [List.flatten_cons]; exact ih.trans (List.sublist_append_right _ _)
  | cons_cons a _ ih => rw [List.flatten_cons, List.flatten_cons]; exact (List.Sublist.refl _).append ih
theorem sub_nod : ∀ {A B : List (List Nat)}, A.Sublist B → B.flatten.Nodup → A.flatten.Nodup := fun h nd => nd.sublist (sub_flat h)
theorem Bl.step {P : List Nat} {T : List (Nat × Nat)} (hW : WbOk P T) {Rs Bs : List (List Nat)} (h : Bl P T Rs Bs) {R : List Nat} (rR : R ∈ rngs P T) : Bl P T (Rs ++ [R]) (nx R Bs) := by
  have hR := rng_inb hW rR
  have nR := rng_ne hW rR
  have inJ : ∀ k, k ∈ R → k ∈ (jn R Bs).flatten := fun k hk => by
    have : k ∈ Bs.flatten := h.all.mem_iff.mpr (List.mem_range.mpr (hR k hk))
    obtain ⟨B, hB, kB⟩ := List.mem_flatten.mp this
    exact List.mem_flatten.mpr ⟨B, List.mem_filter.mpr ⟨hB, List.any_eq_true.mpr ⟨k, kB, decide_eq_true hk⟩⟩, kB⟩
  refine ⟨?_, fun B hB => ?_, fun B hB => ?_, fun S hS => ?_, fun B hB => ?_⟩
  · unfold nx
    rw [List.flatten_cons, nx_rest]
    refine (((srt_perm _).append_right _).trans ?_).trans h.all
    exact flat_part _ Bs
  · unfold nx at hB
    rcases List.mem_cons.mp hB with rfl | hB
    · obtain ⟨k, hk⟩ := List.exists_mem_of_ne_nil R nR
      intro z
      have := mem_srt.mpr (inJ k hk)
      rw [z] at this; cases this
    · exact h.ne B (List.mem_filter.mp hB).1
  · unfold nx at hB
    rcases List.mem_cons.mp hB with rfl | hB
    · exact srt_inc (sub_nod List.filter_sublist (h.all.nodup_iff.mpr List.nodup_range))
    · exact h.inc B (List.mem_filter.mp hB).1
  · rcases List.mem_append.mp hS with hS | hS
    · obtain ⟨B, hB, sB⟩ := h.ring S hS
      by_cases j : B ∈ jn R Bs
      · exact ⟨_, List.mem_cons_self, fun i hi => mem_srt.mpr (List.mem_flatten.mpr ⟨B, j, sB i hi⟩)⟩
      · exact ⟨B, List.mem_cons_of_mem _ (List.mem_filter.mpr ⟨hB, by rw [decide_eq_false j]; rfl⟩), sB⟩
    · rw [List.mem_singleton] at hS
      subst hS
      exact ⟨_, List.mem_cons_self, fun i hi => mem_srt.mpr (inJ i hi)⟩
  · unfold nx at hB
    rcases List.mem_cons.mp hB with rfl | hB
    · have toR : ∀ i, i ∈ srt (jn R Bs).flatten → ∃ r ∈ R, i = r ∨ (Mate P T i r ∧ Mate P T r i) := fun i hi => by
        obtain ⟨C, hC, iC⟩ := List.mem_flatten.mp (mem_srt.mp hi)
        obtain ⟨c1, c2⟩ := List.mem_filter.mp hC
        obtain ⟨r, r1, r2⟩ := List.any_eq_true.mp c2
        refine ⟨r, of_decide_eq_true r2, ?_⟩
        rcases h.conn C c1 i iC r r1 with e | ⟨U, u1, u2, u3⟩
        · exact .inl e
        · exact .inr ⟨⟨U, u1, u2, u3⟩, U, u1, u3, u2⟩
      intro i hi j hj
      obtain ⟨r, r1, r2⟩ := toR i hi
      obtain ⟨s, s1, s2⟩ := toR j hj
      have rs : Mate P T r s := ⟨R, rR, r1, s1⟩
      refine .inr ?_
      rcases r2 with rfl | ⟨r2, _⟩
      · rcases s2 with rfl | ⟨_, s2⟩
        · exact rs
        · exact Mate.trans hW rs s2
      · rcases s2 with rfl | ⟨_, s2⟩
        · exact Mate.trans hW r2 rs
        · exact Mate.trans hW r2 (Mate.trans hW rs s2)
    · exact h.conn B (List.mem_filter.mp hB).1
theorem flat_len {α : Type} : ∀ (Bs : List (List α)), (∀ B ∈ Bs, B ≠ []) → Bs.length ≤ Bs.flatten.length
  | [], _ => Nat.le_refl _
  | B :: r, h => by
    have := flat_len r fun C hC => h C (by simp [hC])
    have hb := List.length_pos_iff.mpr (h B (by simp))
    rw [List.flatten_cons, List.length_append, List.length_cons]; omega
theorem mem_len {α : Type} {Bs : List (List α)} {B : List α} (h : B ∈ Bs) : B.length ≤ Bs.flatten.length := (List.sublist_flatten_of_mem h).length_le
theorem sortOk_ne {Bs : List (List Nat)} (h : ∀ B ∈ Bs, B ≠ []) (hl : Bs.length ≤ LL) : sortOk (Bs.map lotD) = true := by
  have o1 : alikeL (Bs.map lotD) = true := by
    unfold alikeL
    rw [List.all_map]
    refine List.all_eq_true.mpr fun a _ => ?_
    show (Bs.map lotD).all _ = true
    rw [List.all_map]
    exact List.all_eq_true.mpr fun b _ => alike_lot a b
  have o2 : (Bs.map lotD).all D.neT = true := by
    rw [List.all_map]
    refine List.all_eq_true.mpr fun L hL => ?_
    have := h L hL
    cases L with
    | nil => exact absurd rfl this
    | cons a b => rfl
  have o3 : (Bs.map lotD).all (·.okd 60) = true := by rw [List.all_map]; exact List.all_eq_true.mpr fun a _ => okd_lot a
  unfold sortOk
  rw [o1, o2, o3, List.length_map, decide_eq_true hl]; rfl
open Classical in
theorem rngs_128 {P : List Nat} {T : List (Nat × Nat)} (h : T.length ≤ 7) : (rngs P T).length ≤ 128 := by
  unfold rngs
  have h1 := List.length_filter_le (fun L => decide (Evn P (tl T L) ∧ Rnd P T L)) (lots T.length)
  rw [lots_len] at h1
  have : 2 ^ T.length ≤ 2 ^ 7 := Nat.pow_le_pow_right (by decide) h
  omega
theorem Bl.start (P : List Nat) (T : List (Nat × Nat)) : Bl P T [] ((List.range T.length).map fun k => [k]) := by
  refine ⟨?_, fun B hB => ?_, fun B hB => ?_, fun R hR => (by cases hR), fun B hB => ?_⟩
  · have : ((List.range T.length).map fun k => [k]).flatten = List.range T.length := by
      induction List.range T.length with
      | nil => rfl
      | cons a r ih => rw [List.map_cons, List.flatten_cons, ih]; rfl
    rw [this]
  · obtain ⟨k, _, rfl⟩ := List.mem_map.mp hB
    simp
  · obtain ⟨k, _, rfl⟩ := List.mem_map.mp hB
    exact List.pairwise_singleton _ _
  · obtain ⟨k, _, rfl⟩ := List.mem_map.mp hB
    intro i hi j hj
    rw [List.mem_singleton] at hi hj
    exact .inl (hi.trans hj.symm)
theorem law_blocks : ∀ as m Q, S_blocks as m Q → d_blocks (padn n_blocks as) m (fin Q) := by
  rintro as m Q ⟨P, T, hW, h7, rfl, q⟩
  have hll := llv
  have h11 := hW.few
  refine ⟨_, rfl, P, T, rfl, _, rfl, P, T, h11, rfl, _, rfl, by rw [List.length_map, List.length_range]; omega, ?_⟩
  refine lcR_m natD (fun k => lotD [k]) (List.range T.length) m _ (fun k _ => ⟨_, rfl, fun m Q q => ⟨_, rfl, by show 1 ≤ LL; omega, q⟩⟩) ?_
  have e0 : ((List.range T.length).map fun k => lotD [k]) = ((List.range T.length).map fun k => [k]).map lotD := by rw [List.map_map]; rfl
  rw [e0]
  have hRs := rngs_128 (P := P) h7
  refine ⟨_, rfl, P, T, hW, rfl, (rngs P T).map lotD, rfl, ?_⟩
  have start := Bl.start P T
  refine forR_l lotD (rngs P T) (fun i env m' => m' = m ∧ ∃ (Bs : List (List Nat)) (s2 s3 s4 : Sl), Bl P T ((rngs P T).take i) Bs ∧ Bs = ((rngs P T).take i).foldl (fun Bs R => nx R Bs) ((List.range T.length).map fun k => [k]) ∧ env = [.val (webD P T), .val (.lst (Bs.map lotD)), s2, s3, s4, .no, .no]) ?_ ?_ _ _ ⟨rfl, _, .no, .no, .no, by rw [List.take_zero]; exact start, by rw [List.take_zero]; rfl, rfl⟩
  · rintro env m' ⟨rfl, Bs, s2, s3, s4, hB, eB, rfl⟩
    rw [List.take_length] at hB eB
    have hl := hB.all.length_eq
    rw [List.length_range] at hl
    have hb := flat_len Bs hB.ne
    have e9 : srtL Bs = blk P T := by rw [eB]; rfl
    rw [← e9] at q
    refine ⟨_, rfl, (srtL Bs).map lotD, ?_, _, rfl, q⟩
    show (if sortOk (Bs.map lotD) then some (sortL (Bs.map lotD)) else none) = _
    rw [if_pos (sortOk_ne hB.ne (by omega)), sort_any]
  · rintro i R hR env m' ⟨rfl, Bs, s2, s3, s4, hB, eB, rfl⟩
    obtain ⟨lR, rR⟩ := (mem_rngs hW).mp (List.mem_of_getElem? hR)
    have rne : R ≠ [] := fun e => by have := rR.1; rw [e] at this; simp at this
    have hl := hB.all.length_eq
    rw [List.length_range] at hl
    have hb := flat_len Bs hB.ne
    have hBl : ∀ B ∈ Bs, B.length ≤ 7 := fun B h => by have := mem_len h; omega
    refine ⟨_, rfl, fun K hK => ?_⟩
    refine ⟨_, rfl, Bs.map lotD, rfl, by rw [List.length_map]; omega, ?_⟩
    refine lcR_fm lotD (fun B => B.any fun k => decide (k ∈ R)) lotD Bs m' _ (fun B hB' => ⟨_, rfl, fun m Q q => ?_, fun _ m Q q => ⟨_, rfl, q⟩⟩) ?_
    · have := hBl B hB'
      refine ⟨_, rfl, B.map natD, rfl, by rw [List.length_map]; omega, ?_⟩
      exact lcR_m natD (fun k => .bl (decide (k ∈ R))) B m _ (fun k _ => ⟨_, rfl, fun m Q q => ⟨_, rfl, _, rfl, _, in_lot k R, q⟩⟩) ⟨_, any_iff _ B, _, rfl, q⟩
    have jl : (jn R Bs).length ≤ Bs.length := List.length_filter_le _ _
    have jf : (jn R Bs).flatten.length ≤ T.length := by
      have := (flat_part (fun B : List Nat => B.any fun k => decide (k ∈ R)) Bs).length_eq
      rw [List.length_append] at this
      have e : (Bs.filter fun B : List Nat => B.any fun k => decide (k ∈ R)).flatten.length = (jn R Bs).flatten.length := rfl
      omega
    refine ⟨_, rfl, (jn R Bs).map lotD, rfl, by rw [List.length_map]; omega, ?_⟩
    refine lc2_flat _ _ _ _ _ _ _ (jn R Bs) m' _ (fun L hL => by have := hBl L (List.mem_filter.mp hL).1; omega) ?_
    refine ⟨(srt (jn R Bs).flatten).map natD, ?_, _, rfl, ?_⟩
    · show (if sortOk ((jn R Bs).flatten.map natD) then some (sortL ((jn R Bs).flatten.map natD)) else none) = _
      rw [if_pos (sortOk_nat (by omega)), sort_nat]
    refine ⟨_, rfl, by show 1 ≤ LL; omega, _, rfl, Bs.map lotD, rfl, by rw [List.length_map]; omega, ?_⟩
    refine lcR_fm lotD (fun B => !decide (B ∈ jn R Bs)) lotD Bs m' _ (fun B hB' => ⟨_, rfl, fun m Q q => ⟨_, rfl, _, rfl, _, notInQl B _, _, rfl, q⟩, fun _ m Q q => ⟨_, rfl, q⟩⟩) ?_
    have fl := List.length_filter_le (fun B => !decide (B ∈ jn R Bs)) Bs
    refine ⟨.lst ((nx R Bs).map lotD), ?_, hK _ _ ⟨rfl, nx R Bs, _, _, _, ?_, ?_, rfl⟩⟩
    · show (if ([lotD (srt (jn R Bs).flatten)] : List D).length + ((Bs.filter fun B => !decide (B ∈ jn R Bs)).map lotD).length ≤ LL then some (D.lst ([lotD (srt (jn R Bs).flatten)] ++ (Bs.filter fun B => !decide (B ∈ jn R Bs)).map lotD)) else none) = _
      rw [if_pos (by rw [List.length_map]; show 1 + _ ≤ LL; omega)]; rfl
    · have : (rngs P T).take (i + 1) = (rngs P T).take i ++ [R] := by rw [List.take_succ, hR]; rfl
      rw [this]
      exact hB.step hW (List.mem_of_getElem? hR)
    · have : (rngs P T).take (i + 1) = (rngs P T).take i ++ [R] := by rw [List.take_succ, hR]; rfl
      rw [this, List.foldl_append, ← eB]
      rfl
end K05
namespace L2
open PySem PySem.Spec PyProof.Rows
section
open PySem.W
variable {prog : Program} {w : World} {A : Around} {E : Value → Shared → Prop} {s : Shared} {K : Frag} {x C f L : Addr} {h₀ : Heap} {m : Str → Option Value} {ox : Obj} {od : Option Obj}
theorem ifBound_ne {M : Model} {y : Value} {Q : Option Value → Shared → Prop} (X : K.In s.heap) (I : InstAt s.heap x ox C od) (hs : findIn K (.ref C) "__ne__" = some (some (.builtin "object.__ne__")))
    (h : wpAny M A (call (.builtin "object.__ne__") [.ref x, y]) (fun v => Q (some v)) E s) : wpAny M A (callSpecialIfBound? (.ref x) "__ne__" [y]) Q E s := by
  simp only [callSpecialIfBound?, bindSpecialIfBound?]
  refine wpAny_holding (wpAny_bind (wpAny_bind (wpAny_bind (I.type.here ((looks_findIn X hs).here ?_)))))
  simp only [F.cmp_object.ne.bind]
  refine wpAny_bind (wpAny_askSetting (wpAny_ite ?_))
  have fin : wpAny M A (call (.builtin "object.__ne__") ([.ref x] ++ [y]) >>= fun v => pure (some v)) Q E s := wpAny_bind (wpAny_mono h (fun v s' h' => wpAny_pure h') fun _ _ h' => h')
  split
  · exact wpAny_bind (wpAny_pure (wpAny_pure fin))
  · exact wpAny_tryCatch (wpAny_bind (wpAny_pure (wpAny_pure fin)))
theorem check_ne {M : Model} {y : Value} {Q : Unit → Shared → Prop} (X : K.In s.heap) (I : InstAt s.heap x ox C od) (hm : mroIn K C (.type "object") = some true) (hq : Q () s) :
    wpAny M A (checkBuiltinCall "object.__ne__" ⟨[.ref x, y], []⟩) Q E s := by
  exact check_slot F.cmpKind_ne F.cmpSplit_ne ((I.type (M := M)).andThen (looks_mroIn X hm)) (F.cmpArgs_ne _ _) hq
theorem call_ne {y : Value} {Q : Value → Shared → Prop} (X : K.In s.heap) (I : InstAt s.heap x ox C od) (hm : mroIn K C (.type "object") = some true) (hs : findIn K (.ref C) "__eq__" = some (some (.ref f))) (hf : isFn K (.ref f) = true) (hu : A.units + 1 < cLine)
    (h : wpAny (model prog w) A.in1 (call (.ref f) [.ref x, y]) (fun v s' => ∃ b, v = .bool b ∧ Q (.bool (!b)) s') E s) : wpAny (model prog w) A (call (.builtin "object.__ne__") [.ref x, y]) Q E s := by
  refine wpAny_call (codeAny_call_builtin F.cmp_object.ne.plain F.cmpEntry_ne (check_ne X I hm ?_))
  unfold Builtin.«object.__ne__»
  repeat (first
    | with_reducible refine wpAny_cRoomFor hu ?_
    | (refine wpAny_bind (m := callSpecialIfBound? (.ref x) (Str.ofString "__eq__") [y])
        (ifBound_K X I hs hf (wpAny_mono h (fun v s' hr => by
          obtain ⟨b, rfl, hq⟩ := hr
          repeat (first | exact hq | exact wpAny_pure hq | exact wpAny_truthy_bool hq | (refine wpAny_bind (m := truthy (.bool _)) (wpAny_truthy_bool ?_)) | wp_step)) fun _ _ e => e)))
    | wp_step)
theorem cmp_neK {y : Value} {tb : Value} {Q : Value → Shared → Prop} (hu : A.units + 1 < cLine) (F : Fr h₀ L s.heap m) (X₀ : K.In h₀) (I : InstAt s.heap x ox C od) (hb : Looks (model prog w) s.heap (typeOf y) tb) (hn : notFirst K C tb = true)
    (hm : mroIn K C (.type "object") = some true) (hne : findIn K (.ref C) "__ne__" = some (some (.builtin "object.__ne__"))) (hs : findIn K (.ref C) "__eq__" = some (some (.ref f))) (hf : isFn K (.ref f) = true)
    (h : wpAny (model prog w) A.in1 (call (.ref f) [.ref x, y]) (fun v s' => ∃ b, v = .bool b ∧ Q (.bool (!b)) s') E s) : wpAny (model prog w) A (richCompare .NotEq (.ref x) y) Q E s := by
  have X := X₀.keeps F.keep
  have one : wpAny (model prog w) A (tryCompare (.ref x) (cmpInfo .NotEq).2.1 y) (fun r s' => ∃ v, r = some v ∧ Q v s') E s := by
    unfold tryCompare
    refine wpAny_bind (ifBound_ne X I hne (call_ne X I hm hs hf hu (wpAny_mono h (fun v s' hv => ?_) fun _ _ e => e)))
    obtain ⟨b, rfl, hq⟩ := hv
    exact ⟨b, rfl, wpAny_pure ⟨_, rfl, hq⟩⟩
  unfold richCompare
  simp only [oneThing_ref]
  refine wpAny_holding (wpAny_bind (wpAny_cRoomFor (Nat.lt_of_succ_lt hu) ?_))
  refine wpAny_bind (I.type.here (wpAny_bind (hb.here ?_)))
  split
  · rename_i q
    have e : subIn K tb (.ref C) = some false := by
      rcases Bool.or_eq_true_iff.mp hn with e | e
      · rw [beq_iff_eq.mp e] at q; simp at q
      · exact beq_iff_eq.mp e
    refine wpAny_bind ((looks_subIn X e).here ?_)
    simp only [Bool.false_eq_true, if_false]
    refine wpAny_bind (wpAny_mono one (fun r s' z => ?_) fun _ _ e => e)
    obtain ⟨v, rfl, hq⟩ := z
    exact wpAny_pure hq
  · refine wpAny_bind (wpAny_pure ?_)
    simp only [Bool.false_eq_true, if_false]
    refine wpAny_bind (wpAny_mono one (fun r s' z => ?_) fun _ _ e => e)
    obtain ⟨v, rfl, hq⟩ := z
    exact wpAny_pure hq
end
def rEqS (C : Addr) (sp : Sp) (neg : Bool) : R2 := fun x y H Q => (∃ a dx fs, x = .ref a ∧ H a = some (.ins C dx fs)) ∧ (∃ b dy gs, y = .ref b ∧ H b = some (.ins C dy gs)) ∧ sp [x, y] H (fun v H' => ∃ k, v = .bl k ∧ Q (.bl (xor neg k)) H') E0
section
variable {X : Cx} {k : Nat} {C f : Addr} {fd : FuncData} {ps : List Str} {sp : Sp}
theorem or_eqW (F : FnOk X.prog X.w X.K X.mg X.base CX0 k f fd ps sp) (hr : Room k X.A) (hs : PySem.W.findIn X.K (.ref C) "__eq__" = some (some (.ref f))) (hf : PySem.W.isFn X.K (.ref f) = true) (hb : Binds X.K fd ps []) : OpR X (compareOp .Eq) (rEqS C sp false) := by
  intro pins s σ H x y v u Q I rx ry hq
  obtain ⟨⟨a, dx, fs, rfl, ha⟩, ⟨b, dy, gs, rfl, hb'⟩, h⟩ := hq
  cases rx
  cases ry
  obtain ⟨mA, J, _⟩ := ins_get I.hok ha
  obtain ⟨mB, J', _⟩ := ins_get I.hok hb'
  obtain ⟨od, J, _⟩ := J.look
  obtain ⟨od', J', _⟩ := J'.look
  obtain ⟨m, hF⟩ := I.fr
  show wpAny (model X.prog X.w) X.A (richCompare .Eq (.ref a) (.ref b)) _ _ s
  refine PySem.W.cmp_K (op := .Eq) (tb := .ref C) hr.units0 hF I.ok.mod.kin J J'.type (by simp [PySem.W.notFirst]) hs hf ?_
  refine wpAny_mono (run_fn (us := [.ref a, .ref b]) (vs := [.ref a, .ref b]) F hr hb .nil pass0 I (.cons rfl (.cons rfl .nil)) (by rw [List.append_nil]; exact h)) (fun r s' z => ?_) fun _ _ e => e
  obtain ⟨z, H', I', rz, kk, rfl, q⟩ := z
  cases rz
  refine ⟨.bl kk, H', I', rfl, ?_⟩
  simpa using q
theorem or_neW (F : FnOk X.prog X.w X.K X.mg X.base CX0 k f fd ps sp) (hr : Room (k + 1) X.A) (hm : PySem.W.mroIn X.K C (.type "object") = some true) (hne : PySem.W.findIn X.K (.ref C) "__ne__" = some (some (.builtin "object.__ne__")))
    (hs : PySem.W.findIn X.K (.ref C) "__eq__" = some (some (.ref f))) (hf : PySem.W.isFn X.K (.ref f) = true) (hb : Binds X.K fd ps []) : OpR X (compareOp .NotEq) (rEqS C sp true) := by
  intro pins s σ H x y v u Q I rx ry hq
  obtain ⟨⟨a, dx, fs, rfl, ha⟩, ⟨b, dy, gs, rfl, hb'⟩, h⟩ := hq
  cases rx
  cases ry
  obtain ⟨mA, J, _⟩ := ins_get I.hok ha
  obtain ⟨mB, J', _⟩ := ins_get I.hok hb'
  obtain ⟨od, J, _⟩ := J.look
  obtain ⟨od', J', _⟩ := J'.look
  obtain ⟨m, hF⟩ := I.fr
  show wpAny (model X.prog X.w) X.A (richCompare .NotEq (.ref a) (.ref b)) _ _ s
  refine cmp_neK (tb := .ref C) (by have := hr.un; omega) hF I.ok.mod.kin J J'.type (by simp [PySem.W.notFirst]) hm hne hs hf ?_
  have hl : ([Value.ref a, .ref b] ++ []).length = ps.length := F.len _ _ _ _ h
  have hbs := hb s [.ref a, .ref b] I.kIn hl
  rw [List.append_nil] at hbs
  have e0 : Env0 X.prog X.w X.K X.mg X.base X.A.in1 X.stack s H := by
    have e := I.env0
    exact ⟨e.frames, e.mod, e.bs, e.bsz, e.funs, e.frf, e.hok, e.bare⟩
  have r2 : Vals [V.ref a, .ref b] [Value.ref a, .ref b] := .cons rfl (.cons rfl .nil)
  refine wpAny_call (codeAny_mono (F.run X.A.in1 X.stack s H ⟨[.ref a, .ref b], []⟩ [.ref a, .ref b] [.ref a, .ref b] _ E0 hr.in1 e0 hbs r2 h) fun r s' hq => ?_)
  cases r with
  | error e => exact hq.elim
  | ok fl =>
    cases fl with
    | ret u =>
      obtain ⟨z, H', I', rz, kk, rfl, q⟩ := I.after hq
      cases rz
      refine ⟨kk, rfl, .bl (!kk), H', I', rfl, ?_⟩
      simpa using q
    | next => exact False.elim hq
    | brk => exact False.elim hq
    | cont => exact False.elim hq
end
end L2
namespace G
open PySem L2
def dEqW (S : Spec) (neg : Bool) (da db : DE) : DE := fun env m Q => da env m fun x m1 => db env m1 fun y m2 => (∃ pl ts pl2 ts2, x = .web pl ts ∧ y = .web pl2 ts2) ∧ S [.val x, .val y] m2 fun z m3 => ∃ k, z = .bl k ∧ Q (.bl (xor neg k)) m3
def dMeth0 (S : Spec) (da : DE) : DE := fun env m Q => da env m fun x m1 => (∃ pl ts, x = .web pl ts) ∧ S [.val x] m1 Q
section
variable {g : Gp} {X : Cx} {k : Nat} {f : Addr} {fd : FuncData} {ps : List Str} {S : Spec} {pos : Pos} {a b : Expr} {da db : DE}
theorem eqW_weak (neg : Bool) : ∀ σ H Q, tD X.K g (dEqW S neg da db) σ H Q → tOp (rEqS g.Cw (spOf X.K g S) neg) (tD X.K g da) (tD X.K g db) σ H Q := fun σ H Q ⟨c, F, env, m, Q1, r, h, kk⟩ =>
  ⟨c, F, env, m, _, r, h, fun v H1 F1 m1 x r1 f1 rp1 q1 => ⟨c, F1, env, m1, _, r1, q1, fun w H2 F2 m2 y r2 f2 rp2 ⟨⟨pl, ts, pl2, ts2, ex, ey⟩, q2⟩ => by
    subst ex ey
    have w1 : Rep X.K g F2 (.web pl ts) v := rp1.mono f2.ff
    have w2 : Rep X.K g F2 (.web pl2 ts2) w := rp2
    have e1 : ∃ a dx fs, v = .ref a ∧ H2 a = some (.ins g.Cw dx fs) := by
      cases w1 with
      | web h1 _ => exact ⟨_, _, _, rfl, r2.sub _ _ h1⟩
    have e2 : ∃ a dx fs, w = .ref a ∧ H2 a = some (.ins g.Cw dx fs) := by
      cases w2 with
      | web h1 _ => exact ⟨_, _, _, rfl, r2.sub _ _ h1⟩
    refine ⟨e1, e2, c, F2, [.val (.web pl ts), .val (.web pl2 ts2)], m2, _, r2.sub, .cons w1 (.cons w2 .nil), r2.ck, q2, fun v' H' F' m' z f' ck' rp' ⟨k', ez, q'⟩ => ?_⟩
    subst ez
    cases rp'
    exact ⟨k', rfl, kk _ H' F' m' _ (r2.fresh f' ck') ((f1.trans f2).trans f') (.bl _) q'⟩⟩⟩
theorem ge_eqW (F : FnOk X.prog X.w X.K X.mg X.base CX0 k f fd ps (spOf X.K g S)) (hr : Room k X.A) (hs : PySem.W.findIn X.K (.ref g.Cw) "__eq__" = some (some (.ref f))) (hf : PySem.W.isFn X.K (.ref f) = true) (hb : Binds X.K fd ps [])
    (ha : GE g X a da) (hb' : GE g X b db) : GE g X (.Compare a [.Eq] [b] pos) (dEqW S false da db) := PE.weak (pe_cmpR (or_eqW F hr hs hf hb) ha hb' (nomark _)) (eqW_weak false)
theorem gt_neW (F : FnOk X.prog X.w X.K X.mg X.base CX0 k f fd ps (spOf X.K g S)) (hr : Room (k + 1) X.A) (hm : PySem.W.mroIn X.K g.Cw (.type "object") = some true) (hne : PySem.W.findIn X.K (.ref g.Cw) "__ne__" = some (some (.builtin "object.__ne__")))
    (hs : PySem.W.findIn X.K (.ref g.Cw) "__eq__" = some (some (.ref f))) (hf : PySem.W.isFn X.K (.ref f) = true) (hb : Binds X.K fd ps [])
    (ha : GE g X a da) (hb' : GE g X b db) : GT g X (.Compare a [.NotEq] [b] pos) (dTest (dEqW S true da db)) := PT.weak (pt_cmpR (or_neW F hr hm hne hs hf hb) ha hb' (nomark _)) (test_weak (eqW_weak true))
theorem ge_meth0 {o : Expr} {da : DE} {mn : Str} {apos : Pos} {pl : Sem Bool} (F : FnOk X.prog X.w X.K X.mg X.base CX0 k f fd ps (spOf X.K g S)) (hr : Room k X.A) (c : Cls X.K g.Cw) (hm : Meth X.K g.Cw mn f) (hb : Binds X.K fd ps []) (ha : GE g X o da) (hmn : mn ≠ "places" ∧ mn ≠ "ties" := by decide)
    (ht : eval (.Call (.Attribute o mn apos) [] [] pos) X.env = (do
      let ov ← eval o X.env
      standAt apos.atName
      let (f, first) ← holding [ov] (getMethod ov mn pl)
      callWith pos f first (backTo pos (starEach [] X.env)) (backToKw pos (keywordEach [] X.env))) := by rfl) : GE g X (.Call (.Attribute o mn apos) [] [] pos) (dMeth0 S da) := PE.weak (pe_meth0 ha c hm F hr hb .nil pass0 ht) fun σ H Q ⟨c, F, env, m, Q1, r, h, kk⟩ =>
  ⟨c, F, env, m, _, r, h, fun v H1 F1 m1 x r1 f1 rp1 ⟨⟨pl, ts, ex⟩, q1⟩ => by
    subst ex
    have w1 : Rep X.K g F1 (.web pl ts) v := rp1
    cases id w1 with
    | @web a dx t _ _ h1 h2 =>
    refine ⟨a, dx, _, rfl, r1.sub _ _ h1, ?_, c, F1, [.val (.web pl ts)], m1, _, r1.sub, .cons w1 .nil, r1.ck, q1, fun v' H' F' m' z f' ck' rp' q' => kk v' H' F' m' z (r1.fresh f' ck') (f1.trans f') rp' q'⟩
    simp only [List.lookup]
    rw [show (mn == ("places" : Str)) = false from beq_eq_false_iff_ne.mpr hmn.1, show (mn == ("ties" : Str)) = false from beq_eq_false_iff_ne.mpr hmn.2]⟩
end
end G
namespace WB
open PySem L2 G T
open SH (str_ext)
def txL (P : List Nat) (T : List (Nat × Nat)) : List Nat := P ++ T.flatMap fun e => [32, e.1, e.2]
def txS (P : List Nat) (T : List (Nat × Nat)) : Str := plS (txL P T)
def S_Webtext : G.Spec := fun as m Q => ∃ P T, WbOk P T ∧ as = [.val (webD P T)] ∧ Q (.str (txS P T)) m
theorem S_Webtext_len : ∀ as m Q, S_Webtext as m Q → as.length = 1 := by rintro as m Q ⟨_, _, _, rfl, _⟩; rfl
open Classical in
def S_Webeq : G.Spec := fun as m Q => ∃ P T P' T', WbOk P T ∧ WbOk P' T' ∧ as = [.val (webD P T), .val (webD P' T')] ∧ Q (.bl (decide (P = P' ∧ T = T'))) m
theorem S_Webeq_len : ∀ as m Q, S_Webeq as m Q → as.length = 2 := by rintro as m Q ⟨_, _, _, _, _, _, rfl, _⟩; rfl
def d_Webtext : DS := (dRet (dMt D.isS joinD (dC (.str " ")) (dConsL (dOp addD (dNew (dLst (dConsL (dPl (dVar 0)) dNilL))) (dNew (dCallN listD (dConsL (dTs (dVar 0)) dNilL)))) dNilL)))
abbrev n_Webtext : Nat := 1
def d_Webeq : DS := (dRet (dAndV (dIsi isWebD (dVarB 1)) (dOp eqD (dMeth0 S_Webtext (dVar 0)) (dMeth0 S_Webtext (dVar 1)))))
abbrev n_Webeq : Nat := 2
theorem fm_inj : ∀ {T T' : List (Nat × Nat)}, (T.flatMap fun e => [32, e.1, e.2]) = (T'.flatMap fun e => [32, e.1, e.2]) → T = T'
  | [], [], _ => rfl
  | [], e :: r, h => by simp at h
  | e :: r, [], h => by simp at h
  | (a, b) :: r, (c, d) :: r', h => by
    simp only [List.flatMap_cons, List.cons_append, List.nil_append, List.cons.injEq, true_and] at h
    obtain ⟨rfl, rfl, h⟩ := h
    rw [fm_inj h]
theorem fm_hd {T : List (Nat × Nat)} {a : Nat} {r : List Nat} (h : (T.flatMap fun e => [32, e.1, e.2]) = a :: r) : a = 32 := by
  cases T with
  | nil => simp at h
  | cons e t => simp at h; exact h.1.symm
theorem tx_inj : ∀ {P P' : List Nat} {T T' : List (Nat × Nat)}, (∀ a ∈ P, 97 ≤ a) → (∀ a ∈ P', 97 ≤ a) → txL P T = txL P' T' → P = P' ∧ T = T'
  | [], [], _, _, _, _, h => ⟨rfl, fm_inj h⟩
  | [], a :: r, T, T', _, h2, h => by
    have e : (T.flatMap fun e => [32, e.1, e.2]) = a :: (r ++ T'.flatMap fun e => [32, e.1, e.2]) := h
    have := fm_hd e
    have := h2 a (by simp)
    omega
  | a :: r, [], T, T', h1, _, h => by
    have e : (T'.flatMap fun e => [32, e.1, e.2]) = a :: (r ++ T.flatMap fun e => [32, e.1, e.2]) := h.symm
    have := fm_hd e
    have := h1 a (by simp)
    omega
  | a :: r, b :: r', T, T', h1, h2, h => by
    have h' : a :: txL r T = b :: txL r' T' := h
    injection h' with e h'
    obtain ⟨e1, e2⟩ := tx_inj (P := r) (P' := r') (fun x hx => h1 x (by simp [hx])) (fun x hx => h2 x (by simp [hx])) h'
    exact ⟨by rw [e, e1], e2⟩
theorem txS_iff {P P' : List Nat} {T T' : List (Nat × Nat)} (h : WbOk P T) (h' : WbOk P' T') : txS P T = txS P' T' ↔ P = P' ∧ T = T' := by
  constructor
  · intro e
    have : txL P T = txL P' T' := by
      have z := congrArg (fun s : Str => s.cps.toList) e
      simpa [txS, plS] using z
    exact tx_inj (fun a ha => (h.pl.let8 a ha).1) (fun a ha => (h'.pl.let8 a ha).1) this
  · rintro ⟨rfl, rfl⟩; rfl
theorem joinL_tx : ∀ (p : List Nat) (T : List (Nat × Nat)), TL.joinL [32] (p :: T.map fun e => [e.1, e.2]) = p ++ T.flatMap fun e => [32, e.1, e.2]
  | p, [] => by simp [TL.joinL]
  | p, e :: r => by
    show p ++ ([32] ++ TL.joinL [32] ([e.1, e.2] :: r.map fun e => [e.1, e.2])) = _
    rw [joinL_tx [e.1, e.2] r]
    simp
theorem join_tx (P : List Nat) (T : List (Nat × Nat)) : Txt.join " " (plS P :: T.map tS) = txS P T := by
  have h := SX.join_S [32] (P :: T.map fun e => [e.1, e.2])
  rw [joinL_tx, List.map_cons, List.map_map] at h
  have e0 : (" " : Str) = SX.S [32] := by decide +kernel
  rw [e0]
  exact h
theorem sum_tx (P : List Nat) (T : List (Nat × Nat)) : ((plS P :: T.map tS).map (·.length)).sum = P.length + 2 * T.length := by
  rw [List.map_cons, List.sum_cons, List.map_map]
  have : ∀ T : List (Nat × Nat), (T.map ((·.length) ∘ tS)).sum = 2 * T.length := fun T => by
    induction T with
    | nil => rfl
    | cons e r ih =>
      rw [List.map_cons, List.sum_cons, ih, List.length_cons]
      show 2 + _ = _
      omega
  rw [this]
  show P.toArray.size + _ = _
  rw [List.size_toArray]
theorem law_Webtext : ∀ as m Q, S_Webtext as m Q → d_Webtext (padn n_Webtext as) m (fin Q) := by
  rintro as m Q ⟨P, T, hW, rfl, q⟩
  have hll := llv
  have h11 := hW.few
  have h7 := hW.pl.few
  have e1 : addD (.lst [plD P]) (.lst ((T.map tS).map D.str)) = some (.lst ((plS P :: T.map tS).map D.str)) := by
    show (if 1 + ((T.map tS).map D.str).length ≤ LL then some (D.lst ([plD P] ++ (T.map tS).map D.str)) else none) = _
    rw [if_pos (by rw [List.length_map, List.length_map]; omega)]; rfl
  have e2 : joinD (.str " ") [.lst ((plS P :: T.map tS).map D.str)] = some (.str (txS P T)) := by
    show (strsD _).bind _ = _
    rw [strsD_of]
    show (if joinOk " " (plS P :: T.map tS) then some (D.str (Txt.join " " (plS P :: T.map tS))) else none) = _
    rw [if_pos, join_tx]
    unfold joinOk
    rw [sum_tx]
    refine decide_eq_true ?_
    rw [List.length_cons, List.length_map]
    show P.length + 2 * T.length + (T.length + 1) * 1 ≤ _
    omega
  exact ⟨rfl, _, rfl, plS P, T.map tS, rfl, by show 1 ≤ LL; omega, _, rfl, plS P, T.map tS, rfl, _, rfl, _, e1, _, e2, q⟩
theorem law_Webeq : ∀ as m Q, S_Webeq as m Q → d_Webeq (padn n_Webeq as) m (fin Q) := by
  rintro as m Q ⟨P, T, P', T', hW, hW', rfl, q⟩
  refine ⟨_, rfl, true, rfl, true, rfl, ?_⟩
  have e2 : decide (txS P T = txS P' T') = decide (P = P' ∧ T = T') := by
    rw [Bool.eq_iff_iff, decide_eq_true_iff, decide_eq_true_iff, txS_iff hW hW']
  refine ⟨_, rfl, ⟨_, _, rfl⟩, P, T, hW, rfl, _, rfl, ⟨_, _, rfl⟩, P', T', hW', rfl, _, eqD_str _ _, ?_⟩
  rw [e2]; exact q
theorem ix0 (e : Nat × Nat) : ixD (wayD e) (.int 0) = some (cD e.1) := rfl
theorem ix1 (e : Nat × Nat) : ixD (wayD e) (.int 1) = some (cD e.2) := rfl
end WB
namespace G
open PySem L2
section
variable {g : Gp} {X : Cx} {e e2 : Expr} {d d2 : DE} {pos p1 p2 p3 : Pos}
end
end G
namespace G
open PySem L2
structure LamOk (P : Program) (w : World) (K : PySem.W.Frag) (mg : Str → Option Value) (base : Heap) (g : Gp) (k : Nat) (n : Str) (S : Spec) : Prop where
  run : ∀ (A : Around) (outer : List Env) (s : Shared) (H : Hp) (f c' : Addr) (us : List Value) (vs : List V) (Q : VK) (E : XK), Room k A → Calm A → Env0 P w K mg base A outer s H → H f = some (LamO f c' (g.lam n)) → H c' = some (LamX.CodeO c' (g.lam n).qual) → Vals vs us → spOf K g S vs H Q E →
    codeAny (model P w) A (.call (.ref f) ⟨us, []⟩) (CR CX0 outer P w H s Q E) s
section
variable {P : Program} {w : World} {K : PySem.W.Frag} {mg : Str → Option Value} {base : Heap} {g : Gp}
theorem LamOk.mono {j k : Nat} {n : Str} {S : Spec} (L : LamOk P w K mg base g j n S) (h : j ≤ k) : LamOk P w K mg base g k n S := ⟨fun A outer s H f c' us vs Q E hr => L.run A outer s H f c' us vs Q E (hr.mono h)⟩
end
section
variable {g : Gp} {X : Cx} {e : Expr} {es : List Expr} {da : DA} {pos p1 : Pos}
end
end G
namespace G
open PySem L2
end G
namespace G
open PySem L2
section
variable {g : Gp} {X : Cx} {da : DA} {k : Nat} {f : Addr} {fd : FuncData} {ps : List Str} {S : Spec} {x : Str} {p pos : Pos}
end
end G
namespace G
open PySem L2
open PySem.W (AlikeAll minD min_list_data dataLt alike)
mutual
theorem py_inj : ∀ (d e : D) (n m : Nat), d.okd n = true → e.okd m = true → d.py = e.py → d = e
  | .non, e, _, _, _, h, q => by cases e <;> simp [D.py, D.okd] at q h ⊢
  | .bl b, e, _, _, _, h, q => by cases e <;> simp [D.py, D.okd] at q h ⊢; exact q
  | .int b, e, _, _, _, h, q => by cases e <;> simp [D.py, D.okd] at q h ⊢; exact q
  | .str b, e, _, _, _, h, q => by cases e <;> simp [D.py, D.okd] at q h ⊢; exact q
  | .tup ds, e, n, m, h1, h2, q => by
    cases e with
    | tup es =>
      simp only [D.okd, Bool.and_eq_true] at h1 h2
      simp only [D.py, PyData.tuple.injEq] at q
      rw [pyL_inj ds es _ _ h1.2 h2.2 q]
    | _ => simp [D.py, D.okd] at q h2
  | .lst ds, e, n, m, h1, h2, q => by
    cases e with
    | lst es =>
      simp only [D.okd, Bool.and_eq_true] at h1 h2
      simp only [D.py, PyData.list.injEq] at q
      rw [pyL_inj ds es _ _ h1.2 h2.2 q]
    | _ => simp [D.py, D.okd] at q h2
  | .dic _, _, _, _, h, _, _ => by simp [D.okd] at h
  | .web _ _, _, _, _, h, _, _ => by simp [D.okd] at h
  | .fn _, _, _, _, h, _, _ => by simp [D.okd] at h
  | .exc _ _ _, _, _, _, h, _, _ => by simp [D.okd] at h
  | .dit _, _, _, _, h, _, _ => by simp [D.okd] at h
theorem pyL_inj : ∀ (ds es : List D) (n m : Nat), okdL ds n = true → okdL es m = true → pyL ds = pyL es → ds = es
  | [], [], _, _, _, _, _ => rfl
  | [], _ :: _, _, _, _, _, q => by simp [pyL] at q
  | _ :: _, [], _, _, _, _, q => by simp [pyL] at q
  | d :: ds, e :: es, n, m, h1, h2, q => by
    simp only [okdL, Bool.and_eq_true] at h1 h2
    simp only [pyL, List.cons.injEq] at q
    rw [py_inj d e n m h1.1 h2.1 q.1, pyL_inj ds es n m h1.2 h2.2 q.2]
end
def rMinT (K : PySem.W.Frag) : List V → Hp → VK → Prop := fun vs H Q => ∃ (a : Addr) (xs : List V) (d : PyData) (ds : List PyData), vs = [.ref a] ∧ SqL K H a xs ∧ DpAll K H xs (d :: ds) ∧ PyData.canLayAll0 (d :: ds) = true ∧ PyData.depthAll (d :: ds) ≤ 60 ∧ AlikeAll (d :: ds) ∧ ∀ (i : Nat) (v : V) (e : PyData), xs[i]? = some v → (d :: ds)[i]? = some e → e = minD d ds → Q v H
theorem dpAll_get {K : PySem.W.Frag} {H : Hp} : ∀ {vs : List V} {ds : List PyData} {i : Nat} {v : V}, DpAll K H vs ds → vs[i]? = some v → ∃ d, ds[i]? = some d ∧ Dp K H v d
  | _, _, _, _, .nil, e => by simp at e
  | _, _, 0, _, .cons h _, e => by simp at e; subst e; exact ⟨_, rfl, h⟩
  | _, _, i + 1, _, .cons _ t, e => by
    obtain ⟨d, h1, h2⟩ := dpAll_get (i := i) t (by simpa using e)
    exact ⟨d, by simpa using h1, h2⟩
theorem vals_get' : ∀ {vs : List V} {us : List Value} {i : Nat} {u : Value}, Vals vs us → us[i]? = some u → ∃ v, vs[i]? = some v ∧ RelV v u
  | _, _, _, _, .nil, e => by simp at e
  | _, _, 0, _, .cons h _, e => by simp at e; subst e; exact ⟨_, rfl, h⟩
  | _, _, i + 1, _, .cons _ t, e => by
    obtain ⟨v, h1, h2⟩ := vals_get' (i := i) t (by simpa using e)
    exact ⟨v, by simpa using h1, h2⟩
theorem cr_minT {X : Cx} (hc : X.calm = true) (hu : X.A.units + 64 < cLine) : CallR X (.builtin "min") (rMinT X.K) := by
  intro pins s σ H vs us Q I r h
  obtain ⟨a, xs, d, ds, rfl, hs, dp, lay, dep, al, q⟩ := h
  rw [Vals.ref1 r]
  obtain ⟨its, rv, pl, _⟩ := I.list hs
  obtain ⟨as, rs⟩ := Dp.readsAll I (d :: ds) xs its dp rv
  refine min_list_data (I.ok.hd hc) pl.isList (by simpa using rs) al (by show X.A.units + 1 + _ < _; omega) fun i v h' tk bs hv hr hk => ?_
  have hv' : its[i]? = some v := by simpa using hv
  obtain ⟨w, hw, rw'⟩ := vals_get' rv hv'
  obtain ⟨e, he, de⟩ := dpAll_get dp hw
  obtain ⟨as2, r2⟩ := Dp.reads I e w v de rw'
  have := (PySem.Reads.unique (PyProof.Rows.Reads.keeps hk r2) _ _ hr).1
  exact ⟨w, H, I.kept hk, rw', q i w e hw he this⟩
section
variable {K : PySem.W.Frag} {g : Gp}
def minLD (d : D) (ds : List D) : D := ds.foldl (fun a y => if D.lt y a then y else a) d
theorem minLD_py : ∀ (ds : List D) (d : D), (minLD d ds).py = minD d.py (ds.map D.py)
  | [], d => rfl
  | x :: r, d => by
    have := minLD_py r (if D.lt x d then x else d)
    unfold minLD minD at this ⊢
    rw [List.foldl_cons, List.map_cons, List.foldl_cons, this]
    congr 1
    unfold D.lt
    split <;> rfl
theorem minLD_mem : ∀ (ds : List D) (d : D), minLD d ds ∈ d :: ds
  | [], d => by simp [minLD]
  | x :: r, d => by
    have := minLD_mem r (if D.lt x d then x else d)
    unfold minLD at this ⊢
    rw [List.foldl_cons]
    rcases List.mem_cons.mp this with h | h
    · rw [h]; split <;> simp
    · exact List.mem_cons_of_mem _ (List.mem_cons_of_mem _ h)
def D.isNon : D → Bool | .non => true | _ => false
def minOkT (ds : List D) : Bool := alikeL ds && (ds.all (·.okd 60) && ds.all (!·.isNon))
def minTD : List D → Option D
  | [.lst (d :: ds)] => if minOkT (d :: ds) then some (minLD d ds) else none
  | _ => none
theorem okdL_all : ∀ {ds : List D} {n : Nat}, ds.all (·.okd n) = true → okdL ds n = true
  | [], _, _ => by simp [okdL]
  | d :: r, n, h => by
    rw [List.all_cons, Bool.and_eq_true] at h
    simp only [okdL, Bool.and_eq_true]
    exact ⟨h.1, okdL_all h.2⟩
theorem cd_minT : CallD K g (rMinT K) minTD := fun c F H xs z vs Q' e nc rp hz k => by
  unfold minTD at hz
  split at hz
  · rename_i d ds
    split at hz
    · rename_i ok
      cases hz
      unfold minOkT at ok
      simp only [Bool.and_eq_true] at ok
      obtain ⟨o1, o2, o3⟩ := ok
      cases rp with
      | cons h t =>
        cases t
        obtain ⟨p, ys, rfl, g1, g2, g3⟩ := h
        have ol := okdL_all o2
        obtain ⟨l1, l2⟩ := okdL_lay (d :: ds) 60 ol
        rw [pyL_map, List.map_cons] at l1 l2
        refine ⟨p, ys, d.py, ds.map D.py, rfl, SqL.of g1, by have := repL_dp e (d :: ds) 60 ys ol g2; rwa [pyL_map, List.map_cons] at this, l1, l2, ⟨fun a ha b hb => ?_, fun a ha => ?_⟩, fun i v e' hv he hm => ?_⟩
        · rw [← List.map_cons] at ha hb
          obtain ⟨a', ha', rfl⟩ := List.mem_map.mp ha
          obtain ⟨b', hb', rfl⟩ := List.mem_map.mp hb
          unfold alikeL at o1
          exact List.all_eq_true.mp (List.all_eq_true.mp o1 a' ha') b' hb'
        · rw [← List.map_cons] at ha
          obtain ⟨a', ha', rfl⟩ := List.mem_map.mp ha
          have q1 := List.all_eq_true.mp o2 a' ha'
          have q2 := List.all_eq_true.mp o3 a' ha'
          cases a' <;> simp [D.py, D.okd, D.isNon] at q1 q2 ⊢
        · rw [← List.map_cons, List.getElem?_map] at he
          obtain ⟨e2, h2, rfl⟩ := Option.map_eq_some_iff.mp he
          rw [← minLD_py] at hm
          have m1 := List.mem_of_getElem? h2
          have := py_inj e2 (minLD d ds) 60 60 (List.all_eq_true.mp o2 _ m1) (List.all_eq_true.mp o2 _ (minLD_mem ds d)) hm
          obtain ⟨v2, q1, q2⟩ := g2.get h2
          rw [hv] at q1
          cases q1
          rw [this] at q2
          exact k v H F (New.refl e) q2
    · cases hz
  · cases hz
end
end G
namespace G
open PySem L2
section
variable {g : Gp} {X : Cx} {elt tg iter tg1 iter1 : Expr} {ifs ifs1 : List Expr} {scope : Scope} {own : List (Str × Nat)} {pos : Pos} {di di1 : DL} {T T1 : TG} {f f1 : D → Env' → Option Env'} {js js1 : List Nat} {dt dt1 : DT} {de : DE}
theorem gs_setLc2 {vs vs1 : List Nat} {i : Nat} {y : Str} {py spos : Pos} (hc : X.calm = true) (hN : X.N.Nodup) (hy : X.N[i]? = some y) (hyl : X.env.scope.names.lookup y = some .local)
    (hsw : swapsWith (.ListComp elt [⟨tg, iter, ifs, 0⟩, ⟨tg1, iter1, ifs1, 0⟩] scope pos) (some (.Name y py)) spos.line X.env = pure true) (hi : GI true g X tg iter di) (ok : BlkOk X.N X.env.scope scope own) (hg : AllB X scope fun Y => GG g Y tg T f js) (ht : AllB X scope fun Y => GTs g Y ifs dt)
    (hi1 : AllB X scope fun Y => GI false g Y tg1 iter1 di1) (hg1 : AllB X scope fun Y => GG g Y tg1 T1 f1 js1) (ht1 : AllB X scope fun Y => GTs g Y ifs1 dt1) (he : AllB X scope fun Y => GE g Y elt de)
    (hv : own.map (·.2) = vs := by rfl) (hv1 : ∀ i ∈ vs1, i ∈ own.map (·.2) := by decide) (hj : ∀ j ∈ js, j ∈ own.map (·.2) := by decide) (hj1 : ∀ j ∈ js1, j ∈ vs1 := by decide) (hs : ∀ x, foldedSetIterable iter X.env x = pure x := by intro _; rfl) (hs1 : ∀ env x, foldedSetIterable iter1 env x = pure x := by intro _ _; rfl) :
    GS g X (.Assign [.Name y py] (.ListComp elt [⟨tg, iter, ifs, 0⟩, ⟨tg1, iter1, ifs1, 0⟩] scope pos) spos) (dAsg i (dNew (dLc2 di f dt di1 f1 dt1 de vs vs1))) := by
  subst hv
  exact ⟨fun pins s σ H D I q => (ps_setLc2 (wi := tI X.K g true di) (g := T) (tt := tT X.K g dt) (wi1 := tI X.K g false di1) (g1 := T1) (tt1 := tT X.K g dt1) (te := tD X.K g de) (vs1 := vs1) hc hN hy hyl hsw hi ok hv1 (fun s H C cl fp => (hg s H C cl fp).pg) (fun s H C cl fp => ht s H C cl fp) (fun s H C cl fp => hi1 s H C cl fp) (fun s H C cl fp => (hg1 s H C cl fp).pg) (fun s H C cl fp => ht1 s H C cl fp) (fun s H C cl fp => he s H C cl fp) hs hs1).run pins s σ H D I
    (asg_weak (fun σ H Q z => lc2_weak (T := T) (T1 := T1) _ vs1 hj hj1 (hg s H 0 [] []).ok (hg1 s H 0 [] []).ok σ H Q (new_weak σ H Q z)) D σ H q)⟩
end
end G
namespace G
open PySem L2
open PySem.Spec PyProof.Rows
theorem _root_.L2H.RoomH.units {k : Nat} {A : Around} (r : L2H.RoomH k A) : A.units + 64 < cLine := by have := r.un; omega
def HotF (X : Cx) : Prop := ∃ p : Addr × Obj, L2H.Hot1 X.A p ∧ X.H_0 p.1 = some (.frz p.2 (.ext fun _ => True))
section
variable {X : Cx} {pins : List (Addr × Obj)} {σ : L2.St} {H : Hp} {s : Shared}
theorem HotF.blk {scope : Scope} {ce : Env} {fp : List Addr} (c : HotF X) (I : Inv X pins σ H s) : HotF (X.blk s H scope ce fp) := by
  obtain ⟨p, h, e⟩ := c
  exact ⟨p, h, I.base.frzs _ _ _ e⟩
end
structure TurnF (P : Program) (w : World) (K : PySem.W.Frag) (tg : Expr) (J : It) (fp : List Addr) (it : Addr) (tn : Nat → Heap → Prop) : Prop where
  obj : ∀ (i : Nat) (h : Heap), tn i h → ∀ b ∈ fp, ∃ o, h.get? b = some o ∧ ∀ v, o.data ≠ .cell v
  stay : ∀ (i : Nat) (h h2 : Heap), tn i h → (∀ b ∈ fp, ∀ o, h.get? b = some o → h2.get? b = some o) → tn i h2
  step : ∀ (Y : Cx), Y.prog = P → Y.w = w → Y.K = K → HotF Y → ∀ (i : Nat) (pins : List (Addr × Obj)) (z : Shared) (σ : L2.St) (Hz : Hp), Inv Y pins σ Hz z → (∀ b ∈ fp, FpOk Y pins Hz b) → tn i z.heap → J.go i Hz →
    wpAny (model P w) Y.A (pyNext (.ref it)) (fun r z1 => ∃ u, r = some u ∧ wpAny (model P w) Y.A (letOwnedTupleGo tg (.ref it) u) (fun _ z2 => ∃ x H2, Inv Y pins σ H2 z2 ∧ RelV x u ∧ J.yld i Hz x H2 ∧ tn (i + 1) z2.heap ∧ ∀ b ∈ fp, H2 b = none) (fun _ _ => False) z1) (fun _ _ => False) z
  over : ∀ (Y : Cx), Y.prog = P → Y.w = w → Y.K = K → HotF Y → ∀ (i : Nat) (pins : List (Addr × Obj)) (z : Shared) (σ : L2.St) (Hz : Hp), Inv Y pins σ Hz z → (∀ b ∈ fp, FpOk Y pins Hz b) → tn i z.heap → J.stop i Hz →
    wpAny (model P w) Y.A (pyNext (.ref it)) (fun r z1 => r = none ∧ Inv Y pins σ Hz z1) (fun _ _ => False) z
  same : ∀ (A : Around) (i : Nat) (z : Shared) (Q : Value → Shared → Prop) (E : Value → Shared → Prop), tn i z.heap → Q (.ref it) z → wpAny (model P w) A (pyIter (.ref it)) Q E z
def IterF (X : Cx) (pins : List (Addr × Obj)) (σ : L2.St) (tg : Expr) (R : It → Hp → Prop) (v : Value) (z : Shared) : Prop :=
  ∃ (it : Addr) (fp : List Addr) (tn : Nat → Heap → Prop) (J : It) (Hz : Hp), v = .ref it ∧ Inv X pins σ Hz z ∧ TurnF X.prog X.w X.K tg J fp it tn ∧ tn 0 z.heap ∧ (∀ b ∈ fp, FpOk X pins Hz b) ∧ R J Hz
structure PIF (X : Cx) (tg iter : Expr) (wi : TI) : Prop where
  run : ∀ (pins : List (Addr × Obj)) (s : Shared) (σ : L2.St) (H : Hp) (R : It → Hp → Prop), Inv X pins σ H s → wi σ H R →
    wpAny (model X.prog X.w) X.A (eval iter X.env) (fun v s1 => wpAny (model X.prog X.w) X.A (pyIter v) (IterF X pins σ tg R) X.xe s1) X.xe s
section
variable {X : Cx} {elt tg iter : Expr} {tests : List Expr} {scope : Scope} {own : List (Str × Nat)} {pos : Pos} {wi : TI} {T : TG} {tt : TT} {te : TE}
end
section
variable {g : Gp} {X : Cx} {elt tg iter e : Expr} {tests : List Expr} {scope : Scope} {own : List (Str × Nat)} {p pos : Pos} {di : DL} {d : DE} {T : TG} {f : D → Env' → Option Env'} {js : List Nat} {dt : DT} {de : DE}
theorem PIF.weak {t t' : TI} (h : PIF X tg e t) (w : ∀ σ H Q, t' σ H Q → t σ H Q) : PIF X tg e t' := ⟨fun pins s σ H Q I q => h.run pins s σ H Q I (w σ H Q q)⟩
end
end G
namespace G
open PySem L2
section
variable {P : Program} {w : World} {K : PySem.W.Frag} {mg : Str → Option Value} {base : Heap} {g : Gp}
end
end G
namespace G
open PySem L2
section
variable {g : Gp} {X : Cx} {elt tg iter : Expr} {tests : List Expr} {scope : Scope} {own : List (Str × Nat)} {pos : Pos} {di : DL} {T : TG} {f : D → Env' → Option Env'} {js vs : List Nat} {dt : DT} {de : DE}
end
end G
namespace G
open PySem L2
end G
namespace G
open PySem L2
end G
namespace G
open PySem L2
section
variable {g : Gp} {X : Cx} {e : Expr} {d : DE} {p pos tpos : Pos}
end
end G
namespace G
open PySem L2
end G
namespace G
open PySem L2
end G
namespace G
open PySem L2
section
variable {P : Program} {w : World} {K : PySem.W.Frag} {mg : Str → Option Value} {base : Heap} {g : Gp}
end
end G
namespace G
open PySem L2
section
variable {g : Gp} {X : Cx} {a b e e2 k : Expr} {es : List Expr} {d da db dk dv d2 : DE} {pos p cpos apos : Pos}
end
section
variable {g : Gp} {X : Cx} {e : Expr} {es : List Expr} {da : DA} {k : Nat} {x : Str} {p1 pos : Pos}
end
end G
namespace L2
open PySem PySem.Spec PyProof.Rows
section
variable {X : Cx}
end
end L2
namespace G
open PySem L2
section
variable {g : Gp} {X : Cx} {e e2 : Expr} {da db : DE} {pos pos2 : Pos}
end
end G
namespace PySem
open Sem (wp)
section
variable {prog : Program} {w : World} {A : Around} {E : Value → Shared → Prop} {s : Shared} {z TI TO T i1 i2 : Addr} {fp1 fp2 : List Addr} {n1 n2 i : Nat} {P1 P2 : Nat → Value → Prop} {St1 St2 : Nat → Heap → Prop} {f : Bool} {oT : Obj}
theorem zipD2_next_item_held {Q : Value → Shared → Prop} (S : ZipSep2 z TI TO i1 i2 fp1 fp2) (D1 : Draws prog w A i1 fp1 n1 P1 St1) (D2 : Draws prog w A i2 fp2 n2 P2 St2)
    (hz : IsZipHeld s.heap z TI TO T f) (hT : s.heap.get? T = some oT) (hTI : IsPair s.heap TI (.ref i1) (.ref i2)) (st1 : St1 i s.heap) (st2 : St2 i s.heap) (hlt1 : i < n1) (hlt2 : i < n2)
    (hQ : ∀ x1 x2 h' tk, P1 i x1 → P2 i x2 → IsZipHeld h' z TI TO T true → St1 (i + 1) h' → St2 (i + 1) h' → IsPair h' s.heap.objs.size x1 x2 → h'.objs.size = s.heap.objs.size + 1 →
      (∀ c o, c ≠ z → c ≠ i1 → c ≠ i2 → s.heap.get? c = some o → h'.get? c = some o) → Q (.ref s.heap.objs.size) { s with heap := h', toks := tk }) :
    wpAny (model prog w) A (Builtin.«zip.__next__» ⟨[.ref z], []⟩) (fun fin s' => ∃ v, fin = .done (.ret v) ∧ Q v s') E s := by
  obtain ⟨hp, g, d, tk0, os⟩ := s
  show wpAny _ _ (field (.ref z) 2 >>= _) _ _ _
  refine wpAny_bind (wpAny_field hz rfl (x := .bool false) rfl ?_)
  show wpAny _ _ (field (.ref z) 3 >>= _) _ _ _
  refine wpAny_bind (wpAny_field hz rfl (x := .ref TI) rfl ?_)
  refine wpAny_bind (wpAny_seqItems hTI rfl ?_)
  show wpAny _ _ (Builtin.SmallTypes.ownedTupleIsFree (.ref z) >>= _) _ _ _
  refine wpAny_bind (wpAny_tupleHeld_zip hz hT fun h₁ hz₁ hs₁ => ?_)
  replace hs₁ : Heap.SameBut z hp h₁ := hs₁
  simp only [Bool.false_eq_true, if_false]
  refine wpAny_bind ?_
  rw [← Array.forIn_toList]
  simp only [List.forIn_cons, List.forIn_nil]
  refine wpAny_bind (wpAny_bind (wpAny_holding ?_))
  show wpAny _ _ (Builtin.SmallTypes.nextOf (.ref i1) >>= _) _ _ ⟨h₁, g, d, tk0, os⟩
  refine wpAny_bind (D1.item i _ _ _ hlt1 (D1.over st1 hs₁ S.zf1) fun x1 p1 tk1 hx1 sn1 hp1 => wpAny_pure ?_)
  replace hp1 : Heap.SameBut i1 h₁ p1 := hp1
  refine wpAny_pure ?_
  refine wpAny_bind (wpAny_bind (wpAny_holding ?_))
  show wpAny _ _ (Builtin.SmallTypes.nextOf (.ref i2) >>= _) _ _ ⟨p1, g, d, tk1, os⟩
  refine wpAny_bind (D2.item i _ _ _ hlt2 (D2.over (D2.over st2 hs₁ S.zf2) hp1 S.sep1_2) fun x2 p2 tk2 hx2 sn2 hp2 => wpAny_pure ?_)
  replace hp2 : Heap.SameBut i2 p1 p2 := hp2
  refine wpAny_pure (wpAny_pure ?_)
  show wpAny _ _ (newTuple [x1, x2] >>= _) _ _ ⟨p2, g, d, tk2, os⟩
  refine wpAny_bind (wpAny_newTuple ?_)
  have hsz : p2.objs.size = hp.objs.size := by rw [hp2.1, hp1.1, hs₁.1]
  have hz₃ : IsZipHeld p2 z TI TO T true := hp2.extBut _ _ S.zi2 (hp1.extBut _ _ S.zi1 hz₁)
  have hk : ∀ c o, c ≠ z → c ≠ i1 → c ≠ i2 → hp.get? c = some o → p2.get? c = some o := fun c o c1 c2 c3 e => hp2.extBut _ _ c3 (hp1.extBut _ _ c2 (hs₁.extBut _ _ c1 e))
  have hj1 : St1 (i + 1) p2 := D1.over sn1 hp2 S.sep2_1
  refine wpAny_pure ⟨_, rfl, ?_⟩
  show Q (.ref p2.objs.size) _
  have hpp : IsPair (p2.push { cls := .type "tuple", data := .seq #[x1, x2] }) p2.objs.size x1 x2 := Heap.get?_push_size _ rfl
  have hz4 : (p2.push { cls := .type "tuple", data := .seq #[x1, x2] }).objs.size = p2.objs.size + 1 := Heap.size_push ..
  rw [hsz] at hpp hz4 ⊢
  exact hQ x1 x2 _ _ hx1 hx2 (Heap.get?_push_of_some _ hz₃) (D1.frame _ _ _ hj1 fun b _ o e => Heap.get?_push_of_some _ e) (D2.frame _ _ _ sn2 fun b _ o e => Heap.get?_push_of_some _ e) hpp hz4 fun c o c1 c2 c3 e => Heap.get?_push_of_some _ (hk c o c1 c2 c3 e)
theorem zipD2_next_end_held {Q : Fin → Shared → Prop} (S : ZipSep2 z TI TO i1 i2 fp1 fp2) (D1 : Draws prog w A i1 fp1 n1 P1 St1) (D2 : Draws prog w A i2 fp2 n2 P2 St2)
    (hz : IsZipHeld s.heap z TI TO T f) (hT : s.heap.get? T = some oT) (hTI : IsPair s.heap TI (.ref i1) (.ref i2)) (st1 : St1 i s.heap) (st2 : St2 i s.heap) (hle1 : i ≤ n1) (hle2 : i ≤ n2) (hend : i = n1 ∨ i = n2)
    (hE : ∀ h' tk e, (∀ c o, c ≠ z → c ≠ i1 → c ≠ i2 → s.heap.get? c = some o → h'.get? c = some o) → (∃ o, h'.get? e = some o ∧ o.cls = .type "StopIteration") → E (.ref e) { s with heap := h', toks := tk }) :
    wpAny (model prog w) A (Builtin.«zip.__next__» ⟨[.ref z], []⟩) Q E s := by
  obtain ⟨hp, g, d, tk0, os⟩ := s
  show wpAny _ _ (field (.ref z) 2 >>= _) _ _ _
  refine wpAny_bind (wpAny_field hz rfl (x := .bool false) rfl ?_)
  show wpAny _ _ (field (.ref z) 3 >>= _) _ _ _
  refine wpAny_bind (wpAny_field hz rfl (x := .ref TI) rfl ?_)
  refine wpAny_bind (wpAny_seqItems hTI rfl ?_)
  show wpAny _ _ (Builtin.SmallTypes.ownedTupleIsFree (.ref z) >>= _) _ _ _
  refine wpAny_bind (wpAny_tupleHeld_zip hz hT fun h₁ hz₁ hs₁ => ?_)
  replace hs₁ : Heap.SameBut z hp h₁ := hs₁
  simp only [Bool.false_eq_true, if_false]
  refine wpAny_bind ?_
  rw [← Array.forIn_toList]
  simp only [List.forIn_cons, List.forIn_nil]
  refine wpAny_bind (wpAny_bind (wpAny_holding ?_))
  show wpAny _ _ (Builtin.SmallTypes.nextOf (.ref i1) >>= _) _ _ ⟨h₁, g, d, tk0, os⟩
  by_cases hlt1 : i < n1
  · refine wpAny_bind (D1.item i _ _ _ hlt1 (D1.over st1 hs₁ S.zf1) fun x1 p1 tk1 hx1 sn1 hp1 => wpAny_pure ?_)
    replace hp1 : Heap.SameBut i1 h₁ p1 := hp1
    refine wpAny_pure ?_
    have hi2 : i = n2 := by omega
    refine wpAny_bind (wpAny_bind (wpAny_holding ?_))
    show wpAny _ _ (Builtin.SmallTypes.nextOf (.ref i2) >>= _) _ _ ⟨p1, g, d, tk1, os⟩
    refine wpAny_bind (D2.done ⟨p1, g, d, tk1, os⟩ _ _ (by rw [← hi2]; exact (D2.over (D2.over st2 hs₁ S.zf2) hp1 S.sep1_2)) fun q e hq he => ?_)
    exact hE q tk1 e (fun c o c1 c2 c3 x => hq _ _ c3 (hp1.extBut _ _ c2 (hs₁.extBut _ _ c1 x))) he
  · have hi1 : i = n1 := by omega
    refine wpAny_bind (D1.done ⟨h₁, g, d, tk0, os⟩ _ _ (by rw [← hi1]; exact (D1.over st1 hs₁ S.zf1)) fun q e hq he => ?_)
    exact hE q tk0 e (fun c o c1 c2 _ x => hq _ _ c2 (hs₁.extBut _ _ c1 x)) he
theorem wpAny_pyNext_zipD2_item_held {Q : Option Value → Shared → Prop} (S : ZipSep2 z TI TO i1 i2 fp1 fp2) (D1 : Draws prog w A.in1 i1 fp1 n1 P1 St1) (D2 : Draws prog w A.in1 i2 fp2 n2 P2 St2)
    (hz : IsZipHeld s.heap z TI TO T f) (hT : s.heap.get? T = some oT) (hTI : IsPair s.heap TI (.ref i1) (.ref i2)) (st1 : St1 i s.heap) (st2 : St2 i s.heap) (hlt1 : i < n1) (hlt2 : i < n2)
    (hQ : ∀ x1 x2 h' tk, P1 i x1 → P2 i x2 → IsZipHeld h' z TI TO T true → St1 (i + 1) h' → St2 (i + 1) h' → IsPair h' s.heap.objs.size x1 x2 → h'.objs.size = s.heap.objs.size + 1 →
      (∀ c o, c ≠ z → c ≠ i1 → c ≠ i2 → s.heap.get? c = some o → h'.get? c = some o) → Q (some (.ref s.heap.objs.size)) { s with heap := h', toks := tk }) :
    wpAny (model prog w) A (pyNext (.ref z)) Q E s := by
  have hTy : s.TypeIs (.ref z) "zip" := ⟨_, hz, rfl⟩
  unfold pyNext
  exact wpAny_bind (wpAny_attempt (wpAny_callSpecial?_slot (name := Str.ofString "__next__") hTy F.slot_zip_next
    (wpAny_call_entry F.slot_zip_next hTy F.entry_zip_next
      (zipD2_next_item_held S D1 D2 hz hT hTI st1 st2 hlt1 hlt2 fun x1 x2 h' tk a1 a2 a3 a4 a5 a6 a7 a8 => wpAny_pure (hQ x1 x2 h' tk a1 a2 a3 a4 a5 a6 a7 a8)) (F.args_zip_next_1 _))))
theorem wpAny_pyNext_zipD2_end_held {Q : Option Value → Shared → Prop} (S : ZipSep2 z TI TO i1 i2 fp1 fp2) (D1 : Draws prog w A.in1 i1 fp1 n1 P1 St1) (D2 : Draws prog w A.in1 i2 fp2 n2 P2 St2)
    (hz : IsZipHeld s.heap z TI TO T f) (hT : s.heap.get? T = some oT) (hTI : IsPair s.heap TI (.ref i1) (.ref i2)) (st1 : St1 i s.heap) (st2 : St2 i s.heap) (hle1 : i ≤ n1) (hle2 : i ≤ n2) (hend : i = n1 ∨ i = n2)
    (hQ : ∀ h' tk, (∀ c o, c ≠ z → c ≠ i1 → c ≠ i2 → s.heap.get? c = some o → h'.get? c = some o) → Q none { s with heap := h', toks := tk }) : wpAny (model prog w) A (pyNext (.ref z)) Q E s := by
  have hTy : s.TypeIs (.ref z) "zip" := ⟨_, hz, rfl⟩
  unfold pyNext
  refine wpAny_bind (wpAny_attempt (wpAny_callSpecial?_slot (name := Str.ofString "__next__") hTy F.slot_zip_next
    (wpAny_call_entry F.slot_zip_next hTy F.entry_zip_next (zipD2_next_end_held S D1 D2 hz hT hTI st1 st2 hle1 hle2 hend fun h' tk e hk he => ?_) (F.args_zip_next_1 _))))
  obtain ⟨o, ho, hc⟩ := he
  refine wpAny_bind (wpAny_isInstance (T := "StopIteration") (b := true) ⟨o, ho, hc⟩ isSubtype_stop ?_)
  exact wpAny_pure (hQ _ _ hk)
end
section
variable {prog : Program} {w : World}
theorem Heap.IsStrIter.at' {h h' : Heap} {a : Addr} {ty : String} {x : Str} {t : Tok} {i : Nat} (y : h.IsStrIter a ty x t i) (e : ∀ o, h.get? a = some o → h'.get? a = some o) : h'.IsStrIter a ty x t i :=
  let ⟨o, ho, r⟩ := y; ⟨o, e _ ho, r⟩
def SgAt (x : Str) (i : Nat) (v : Value) : Prop := ∃ c u, x.cps[i]? = some c ∧ v = .str ⟨#[c]⟩ u
theorem PairArg.zipTexts (z TI TO i1 i2 : Addr) (S : ZipSep2 z TI TO i1 i2 [i1] [i2]) (x y : Str) (t u : Tok) :
    PairArg prog w "zip" z [z, TI, TO, i1, i2] [z, TO, i1, i2] (min x.cps.size y.cps.size) (fun i k v => SgAt x i k ∧ SgAt y i v)
      (fun h => IsZip h z TI TO .none ∧ IsPair h TI (.ref i1) (.ref i2) ∧ (∃ a b, IsPair h TO a b) ∧ h.IsStrIter i1 (strIterType x) x t 0 ∧ h.IsStrIter i2 (strIterType y) y u 0) where
  type := fun s ok => ⟨_, ok.1, rfl⟩
  notDict := by decide
  keep := fun h h' ok hk => by
    obtain ⟨hz, hTI, ⟨a, b, hTO⟩, h1, h2⟩ := ok
    exact ⟨hk _ _ hz, hk _ _ hTI, ⟨a, b, hk _ _ hTO⟩, h1.at' fun o e => hk _ o e, h2.at' fun o e => hk _ o e⟩
  there := fun h ok b hb => by
    obtain ⟨hz, hTI, ⟨a, c, hTO⟩, ⟨o1, h1, _⟩, ⟨o2, h2, _⟩⟩ := ok
    simp only [List.mem_cons, List.not_mem_nil, or_false] at hb
    rcases hb with rfl | rfl | rfl | rfl | rfl
    all_goals first | exact ⟨_, hz⟩ | exact ⟨_, hTI⟩ | exact ⟨_, hTO⟩ | exact ⟨_, h1⟩ | exact ⟨_, h2⟩
  sub := fun b hb => by simp at hb ⊢; rcases hb with rfl | rfl | rfl | rfl <;> simp
  noKeys := fun A s Q E hA ok h => getAttrOr_miss_zip ok.1 rfl rfl rfl zip_no_keys (by decide +kernel) hA h
  iter := fun A s d Q E hA ok hd hdf h => by
    obtain ⟨hz, hTI, ⟨a, b, hTO⟩, h1, h2⟩ := ok
    simp only [List.mem_cons, List.not_mem_nil, or_false, not_or] at hdf
    obtain ⟨dz, dTI, dTO, di1, di2⟩ := hdf
    have hA1 : A.in1.handled = none := hA
    have D1 := Draws.text (prog := prog) (w := w) hA1 i1 x t
    have D2 := Draws.text (prog := prog) (w := w) hA1 i2 y u
    refine wpAny_pyIter_zip hz (h z [z, TO, i1, i2] (fun i h => IsPair h TI (.ref i1) (.ref i2) ∧ h.IsStrIter i1 (strIterType x) x t i ∧ h.IsStrIter i2 (strIterType y) y u i ∧
      ((IsZip h z TI TO .none ∧ ∃ a b, IsPair h TO a b) ∨ ∃ T f oT, IsZipHeld h z TI TO T f ∧ h.get? T = some oT ∧ T ≠ z ∧ T ≠ i1 ∧ T ≠ i2 ∧ T ≠ d)) s.heap s.toks ?_
      ⟨hTI, h1, h2, .inl ⟨hz, a, b, hTO⟩⟩ (fun _ _ e => e) fun b hb => .inl hb)
    exact {
      off := fun hm => by
        simp only [List.mem_cons, List.not_mem_nil, or_false] at hm
        rcases hm with e | e | e | e
        · exact dz e
        · exact dTO e
        · exact di1 e
        · exact di2 e
      frame := fun i h₁ h₂ st hk => by
        obtain ⟨hTI, h1, h2, hz⟩ := st
        refine ⟨hk _ _ (Ne.symm dTI) hTI, h1.at' fun o e => hk _ o (Ne.symm di1) e, h2.at' fun o e => hk _ o (Ne.symm di2) e, ?_⟩
        rcases hz with ⟨hz, a, b, hTO⟩ | ⟨T, f, oT, hz, hT, r1, r2, r3, r4⟩
        · exact .inl ⟨hk _ _ (Ne.symm dz) hz, a, b, hk _ _ (Ne.symm dTO) hTO⟩
        · exact .inr ⟨T, f, oT, hk _ _ (Ne.symm dz) hz, hk _ _ r4 hT, r1, r2, r3, r4⟩
      item := fun i s₁ Q₁ E₁ hi st hds hQ => by
        obtain ⟨hTI, h1, h2, hz⟩ := st
        have hix : i < x.cps.size := Nat.lt_of_lt_of_le hi (Nat.min_le_left ..)
        have hiy : i < y.cps.size := Nat.lt_of_lt_of_le hi (Nat.min_le_right ..)
        have lt : ∀ {c o}, s₁.heap.get? c = some o → s₁.heap.objs.size ≠ c := fun e => Nat.ne_of_gt (Heap.lt_size e)
        have n1 : s₁.heap.objs.size ≠ i1 := let ⟨_, e, _⟩ := h1; lt e
        have n2 : s₁.heap.objs.size ≠ i2 := let ⟨_, e, _⟩ := h2; lt e
        rcases hz with ⟨hz, a, b, hTO⟩ | ⟨T, f, oT, hz, hT, r1, r2, r3, r4⟩
        · refine wpAny_pyNext_zipD2_item S D1 D2 hz hTI hTO h1 h2 hix hiy fun x1 x2 h' tk y1 y2 a1 a2 a3 a4 a5 a6 hk => ?_
          exact hQ s₁.heap.objs.size _ _ h' tk ⟨y1, y2⟩ (.inl ⟨_, a5, rfl, _, rfl⟩)
            ⟨hk _ _ S.TIz S.TITO S.TIi1 S.TIi2 hTI, a3, a4, .inr ⟨s₁.heap.objs.size, false, _, a1, a5, lt hz, n1, n2, Nat.ne_of_gt hds⟩⟩
            fun c o hc e => hk c o (fun x => hc (by simp [x])) (fun x => hc (by simp [x])) (fun x => hc (by simp [x])) (fun x => hc (by simp [x])) e
        · refine wpAny_pyNext_zipD2_item_held S D1 D2 hz hT hTI h1 h2 hix hiy fun x1 x2 h' tk y1 y2 a1 a3 a4 a5 a6 hk => ?_
          exact hQ s₁.heap.objs.size _ _ h' tk ⟨y1, y2⟩ (.inl ⟨_, a5, rfl, _, rfl⟩)
            ⟨hk _ _ S.TIz S.TIi1 S.TIi2 hTI, a3, a4, .inr ⟨T, true, oT, a1, hk _ _ r1 r2 r3 hT, r1, r2, r3, r4⟩⟩
            fun c o hc e => hk c o (fun x => hc (by simp [x])) (fun x => hc (by simp [x])) (fun x => hc (by simp [x])) e
      done := fun s₁ Q₁ E₁ st hQ => by
        obtain ⟨hTI, h1, h2, hz⟩ := st
        have e1 : min x.cps.size y.cps.size ≤ x.cps.size := Nat.min_le_left ..
        have e2 : min x.cps.size y.cps.size ≤ y.cps.size := Nat.min_le_right ..
        have e3 : min x.cps.size y.cps.size = x.cps.size ∨ min x.cps.size y.cps.size = y.cps.size := by omega
        rcases hz with ⟨hz, a, b, hTO⟩ | ⟨T, f, oT, hz, hT, r1, r2, r3, r4⟩
        · exact wpAny_pyNext_zipD2_end S D1 D2 hz hTI hTO h1 h2 e1 e2 e3 fun h' tk hk => hQ h' tk fun c o hc e => hk c o (fun x => hc (by simp [x])) (fun x => hc (by simp [x])) (fun x => hc (by simp [x])) (fun x => hc (by simp [x])) e
        · exact wpAny_pyNext_zipD2_end_held S D1 D2 hz hT hTI h1 h2 e1 e2 e3 fun h' tk hk => hQ h' tk fun c o hc e => hk c o (fun x => hc (by simp [x])) (fun x => hc (by simp [x])) (fun x => hc (by simp [x])) e }
end
end PySem
namespace L2
open PySem PySem.Spec PyProof.Rows
section
variable {X : Cx}
def zkv (a b : Str) : List (Key × V) := (a.cps.toList.zip b.cps.toList).map fun p => (.inr ⟨#[p.1]⟩, V.str ⟨#[p.2]⟩)
theorem zkv_len (a b : Str) : (zkv a b).length = min a.cps.size b.cps.size := by unfold zkv; rw [List.length_map, List.length_zip]; simp
theorem zkv_at {a b : Str} {i c d : Nat} (h1 : a.cps[i]? = some c) (h2 : b.cps[i]? = some d) : (zkv a b)[i]? = some (.inr ⟨#[c]⟩, V.str ⟨#[d]⟩) := by
  unfold zkv
  have e1 : a.cps.toList[i]? = some c := by simpa using h1
  have e2 : b.cps.toList[i]? = some d := by simpa using h2
  rw [List.getElem?_map, List.getElem?_zip_eq_some (z := (c, d)) |>.mpr ⟨e1, e2⟩]
  rfl
def tDZS (ta : TA) : TE := fun σ H Q => ta σ H fun vs H1 => ∃ (a b : Str), vs = [.str a, .str b] ∧ a.length ≤ sizeLine ∧ ∀ p, H1 p = none → Q (.ref p) (upd H1 p (.dK (mergeK [] (zkv a b))))
theorem merge_take (ks : List (Key × V)) {i : Nat} {p : Key × V} (h : ks[i]? = some p) : mergeK [] (ks.take (i + 1)) = putK (mergeK [] (ks.take i)) p.1 p.2 := by
  unfold mergeK
  rw [List.take_add_one, h, List.foldl_append]
  rfl
theorem pe_dictZipS {e e2 : Expr} {ta : TA} {p p2 pos pos2 : Pos} (hcalm : X.calm = true) (hg : Gl X "dict") (hm : X.mg "dict" = none) (hg2 : Gl X "zip") (hm2 : X.mg "zip" = none) (ha : PA X [e, e2] ta)
    (hs : starEach [e, e2] X.env = (false, eval e X.env) :: starEach [e2] X.env := by rfl) (hpl : (backTo pos2 (starEach [e2] X.env)).any (·.1) = false := by rfl)
    (hs2 : starEach [.Call (.Name "zip" p2) [e, e2] [] pos2] X.env = (false, eval (.Call (.Name "zip" p2) [e, e2] [] pos2) X.env) :: starEach [] X.env := by rfl) :
    PE X (.Call (.Name "dict" p) [.Call (.Name "zip" p2) [e, e2] [] pos2] [] pos) (tDZS ta) := by
  refine ⟨fun pins s σ H Q I h => ?_⟩
  refine wpAny_Call_Name_kw (ld_blt I hg hm (show bootBuiltins "dict" = some (.type "dict") by decide +kernel) ?_ (by decide) (by decide))
  refine PyProof.Rows.callWith_type1 ?_ hs2 (by rfl)
  rw [hs2]
  show wpAny _ _ (spliced ((false, eval (.Call (.Name "zip" p2) [e, e2] [] pos2) X.env) :: backTo pos (starEach [] X.env))) _ _ s
  refine Calls.spliced_cons ?_
  refine wpAny_Call_Name_kw (ld_blt I hg2 hm2 PyProof.Rows.boot_zip ?_ (by decide) (by decide))
  refine PyProof.Rows.callWith_type1 (thn (ha.run pos2 pins s σ H _ I h) fun us s1 ⟨vs, H1, I1, r1, q1⟩ => ?_) hs hpl
  obtain ⟨a, b, ex, hlen, q⟩ := q1
  subst ex
  cases r1 with
  | cons r rr =>
    cases rr with
    | cons r' rr =>
      cases rr
      obtain ⟨t, rfl⟩ : ∃ t, _ = Value.str a t := r
      obtain ⟨u, rfl⟩ : ∃ u, _ = Value.str b u := r'
      refine zip_begins2 (begins_text a t) (begins_text b u) trivial trivial fun h' hz hTI hTO g1 g2 hsz hk => ?_
      refine Calls.spliced_nil ?_
      have hle : s1.heap.objs.size ≤ h'.objs.size := by omega
      have S : ZipSep2 (s1.heap.objs.size + 4) (s1.heap.objs.size + 2) (s1.heap.objs.size + 3) s1.heap.objs.size (s1.heap.objs.size + 1) [s1.heap.objs.size] [s1.heap.objs.size + 1] := by
        constructor <;> simp <;> omega
      have P := PairArg.zipTexts (prog := X.prog) (w := X.w) _ _ _ _ _ S a b t u
      have hmin : min a.cps.size b.cps.size ≤ sizeLine := Nat.le_trans (Nat.min_le_left ..) (show a.cps.size ≤ sizeLine from hlen)
      refine PySem.call_dict_arg (s := { s1 with heap := h' }) P ⟨hz, hTI, ⟨_, _, hTO⟩, ⟨_, g1, rfl, rfl⟩, ⟨_, g2, rfl, rfl⟩⟩ fun s₂ hs₂ hdf ok₂ => ?_
      subst hs₂
      refine updateFrom_arg (A := X.A.in1) (Tab := fun i h => ∃ vs : List (Key × Value), KV (mergeK [] ((zkv a b).take i)) vs ∧ h.DictOf (mixKind X.prog X.w) h'.objs.size vs) P .none (I1.ok.hd hcalm) ok₂ hdf ⟨[], .nil, Heap.DictOf.new h'⟩ (fun _ _ ⟨_, _, tb⟩ => tb.lt_size) (fun i h h'' wr' hd _ ⟨vs, kv, tb⟩ hk => ⟨vs, kv, tb.at' fun o e => hk _ o hd e⟩) ?_ ?_
      · rintro i key v s' Q' E' hi ⟨⟨c, tk1, hc, rfl⟩, ⟨d, tk2, hd, rfl⟩⟩ ⟨vs, kv, tb⟩ _ hQ
        have ez := zkv_at hc hd
        have hl := kv.length
        have hl2 := length_mergeK ((zkv a b).take i) []
        have hle3 : vs.length + 1 ≤ sizeLine := by
          rw [List.length_nil, List.length_take] at hl2
          omega
        refine wpAny_dictSet_pairs (k := .inr ⟨#[c]⟩) (hsz := by omega) (kV_is (P := X.prog) (w := X.w) (k := .inr ⟨#[c]⟩) ⟨_, rfl⟩) tb fun h'' hm' hs => ?_
        refine hQ h'' _ ⟨_, ?_, hm'⟩ hs
        rw [merge_take _ ez]
        exact kv.put _ ⟨_, rfl⟩
      · rintro h'' tk ⟨vs, kv, tb⟩ hk2
        refine ⟨rfl, ?_⟩
        have e1 : (zkv a b).take (min a.cps.size b.cps.size) = zkv a b := List.take_of_length_le (by rw [zkv_len]; exact Nat.le_refl _)
        rw [e1] at kv
        have kk : ∀ c o, s1.heap.get? c = some o → h''.get? c = some o := fun c o z => by
          have hc := Heap.lt_size z
          refine hk2 c o (Nat.ne_of_lt (Nat.lt_of_lt_of_le hc hle)) (fun m => ?_) (Heap.get?_push_of_some _ (hk c o z))
          have m' : c = s1.heap.objs.size + 4 ∨ c = s1.heap.objs.size + 3 ∨ c = s1.heap.objs.size ∨ c = s1.heap.objs.size + 1 := by simpa using m
          have hle : s1.heap.objs.size ≤ c := by
            rcases m' with z | z | z | z
            · rw [z]; exact Nat.le_add_right _ _
            · rw [z]; exact Nat.le_add_right _ _
            · rw [z]; exact Nat.le_refl _
            · rw [z]; exact Nat.le_add_right _ _
          exact Nat.lt_irrefl _ (Nat.lt_of_lt_of_le hc hle)
        have hmm : (h'.objs.size == sysModules) = false := beq_eq_false_iff_ne.mpr (Nat.ne_of_gt (Nat.lt_of_lt_of_le I1.big hle))
        have hlen2 : (mergeK [] (zkv a b)).length ≤ sizeLine := by
          have := length_mergeK (zkv a b) []
          rw [List.length_nil, zkv_len] at this
          omega
        exact ⟨.ref h'.objs.size, upd H1 h'.objs.size (.dK (mergeK [] (zkv a b))), I1.laid (t' := tk) kk hle (show ObjOk X.prog X.w _ _ _ (.dK (mergeK [] (zkv a b))) from ⟨hlen2, hmm, vs, kv, tb⟩), rfl, q _ (I1.hok.fresh hle)⟩
end
end L2
namespace G
open PySem L2
section
variable {g : Gp} {X : Cx} {e e2 : Expr} {da db : DE} {pos pos2 : Pos}
def zkd (a b : Str) : List (Key × D) := (a.cps.toList.zip b.cps.toList).map fun p => (.inr ⟨#[p.1]⟩, .str ⟨#[p.2]⟩)
def dDictZS (da db : DE) : DE := fun env m Q => da env m fun x m1 => ∃ a, x = .str a ∧ a.length ≤ LL ∧ db env m1 fun y m2 => ∃ b, y = .str b ∧ Q (.dic (kvMerge [] (zkd a b))) m2
theorem zkd_rep {K : PySem.W.Frag} {F : Hp} (a b : Str) : KvR K g F (zkd a b) (zkv a b) := by
  unfold zkd zkv
  generalize a.cps.toList.zip b.cps.toList = l
  induction l with
  | nil => exact .nil
  | cons p r ih => exact .cons (.str _) ih
theorem gnw_dictZS {p p2 : Pos} (hc : X.calm = true) (hg : Gl X "dict") (hm : X.mg "dict" = none) (hg2 : Gl X "zip") (hm2 : X.mg "zip" = none) (he : GE g X e da) (he2 : GE g X e2 db)
    (hs : starEach [e, e2] X.env = (false, eval e X.env) :: starEach [e2] X.env := by rfl) (hsb : starEach [e2] X.env = (false, eval e2 X.env) :: starEach [] X.env := by rfl) (hpl : (backTo pos2 (starEach [e2] X.env)).any (·.1) = false := by rfl)
    (hs2 : starEach [.Call (.Name "zip" p2) [e, e2] [] pos2] X.env = (false, eval (.Call (.Name "zip" p2) [e, e2] [] pos2) X.env) :: starEach [] X.env := by rfl) :
    GNw g X (.Call (.Name "dict" p) [.Call (.Name "zip" p2) [e, e2] [] pos2] [] pos) (dDictZS da db) :=
  PE.weak (pe_dictZipS hc hg hm hg2 hm2 (pa_cons he (pa_cons he2 pa_nil hsb) hs) hs hpl hs2) fun σ H Q ⟨c, F, env, m, Q1, rl, hd, k⟩ =>
  ⟨c, F, env, m, _, rl, hd, fun v H1 F1 m1 x r1 f1 rp1 ⟨a, ex, hal, q1⟩ => ⟨c, F1, env, m1, _, r1, q1, fun w H2 F2 m2 y r2 f2 rp2 ⟨b, ey, q2⟩ => by
    subst ex ey
    have rp1' := rp1.mono f2.ff
    cases rp1'
    cases rp2
    refine ⟨a, b, rfl, ll hal, fun q0 hq => ?_⟩
    have n := New.lay (F := F2) (o := .dK (mergeK [] (zkv a b))) r2.sub hq
    have hc' : c ≠ some q0 := fun z => by obtain ⟨_, _, y, _⟩ := r2.ck q0 z; rw [y] at hq; cases hq
    have f12 := f1.trans f2
    exact k q0 _ F2 m2 _ _ (r2.new n) (f12.trans (n.fresh r2.ck)) (fresh_back f12 q0 hq hc') (ex_none r2.sub hq) hc' upd_same (show ObR X.K g F2 _ (.dic _) (.dK _) from ⟨_, rfl, (KvR.merge (zkd_rep a b) .nil).to⟩) q2⟩⟩
end
end G
namespace K06
open PySem L2 G
open T hiding S_are_letters S_are_letters_len S_law_lots S_law_parts ckOk
open SH hiding sb
open K10 hiding S_every_lot S_every_lot_len S_law_right S_law_right_len d_every_lot d_law_right fl law_every_lot n_every_lot n_law_right pm0 pm120 rest rng_in sum_add
open K15 hiding S_law_right S_law_right_len d_law_right n_law_right pm0
open K03 hiding S_law_net S_law_net_len S_law_right S_law_right_len S_law_spots S_law_spots_len d_law_net d_law_right d_law_spots law_law_net law_law_spots n_law_net n_law_right n_law_spots pm10
open K04 hiding S_law_right S_law_right_len d_law_right n_law_right pm0
open K05 hiding S_law_net S_law_net_len S_law_right S_law_right_len
open WB
structure LtOk (L : List Nat) : Prop where
  nd : L.Nodup
  let8 : ∀ a ∈ L, 97 ≤ a ∧ a ≤ 104
  pos : 0 < L.length
  few : L.length ≤ 7
def ren (P L : List Nat) (a : Nat) : Nat := L.getD (P.idxOf a) 0
def tm (f : Nat → Nat) (T : List (Nat × Nat)) : List (Nat × Nat) := T.map fun e => (min (f e.1) (f e.2), max (f e.1) (f e.2))
def rnT (P L : List Nat) (T : List (Nat × Nat)) : List (Nat × Nat) := tm (ren P L) T
def sT (E : List (Nat × Nat)) : List (Nat × Nat) := E.mergeSort fun a b => !D.lt (wayD b) (wayD a)
def ordN (L : List Nat) : Nat → List (List Nat)
  | 0 => [[]]
  | k + 1 => (ordN L k).flatMap fun o => (L.filter fun c => decide (c ∉ o)).map fun c => o ++ [c]
def ords (L : List Nat) : List (List Nat) := ordN L L.length
def stab (P : List Nat) (T : List (Nat × Nat)) : List (List Nat) := (ords P).filter fun L => decide (sT (rnT P L T) = sT T)
def fst' (n : Nat) : List Nat := (List.range n).map (97 + ·)
def rows (P : List Nat) (T : List (Nat × Nat)) : List (List (Nat × Nat)) := (ords (fst' P.length)).map fun L => sT (rnT P L T)
def kx (R : List (Nat × Nat)) : List Nat := R.flatMap fun e => [e.1, e.2]
def minK {α : Type} (k : α → List Nat) (x : α) (xs : List α) : α := xs.foldl (fun a y => if k y < k a then y else a) x
def plainR (P : List Nat) (T : List (Nat × Nat)) : List (Nat × Nat) := match rows P T with
  | [] => []
  | r :: rs => minK kx r rs
def S_are_letters : G.Spec := fun as m Q => ∃ L, LtOk L ∧ as = [.val (plD L)] ∧ Q (.bl true) m
def S_with_letters : G.Spec := fun as m Q => ∃ P T L, WbOk P T ∧ LtOk L ∧ L.length = P.length ∧ as = [.val (webD P T), .val (plD L)] ∧ Q (webD (srt L) (rnT P L T)) m
def S_renamed : G.Spec := S_with_letters
def S_all_orders : G.Spec := fun as m Q => ∃ L : List Nat, L.Nodup ∧ L.length ≤ 4 ∧ as = [.val (plD L)] ∧ Q (.lst ((ords L).map plD)) m
def S_drawn : G.Spec := fun as m Q => ∃ P T, WbOk P T ∧ as = [.val (webD P T)] ∧ Q (.tup [plD P, .lst ((sT T).map wayD)]) m
def S_renamings_to : G.Spec := fun as m Q => ∃ P T, WbOk P T ∧ P.length ≤ 4 ∧ as = [.val (webD P T), .val (webD P T)] ∧ Q (.lst ((stab P T).map plD)) m
def S_plain_of : G.Spec := fun as m Q => ∃ P T, WbOk P T ∧ P.length ≤ 4 ∧ as = [.val (webD P T)] ∧ Q (.str (txS (fst' P.length) (plainR P T))) m
def S_plain_text : G.Spec := S_plain_of
def S_count_renamings : G.Spec := fun as m Q => ∃ P T, WbOk P T ∧ P.length ≤ 4 ∧ as = [.val (webD P T)] ∧ Q (natD (stab P T).length) m
def S_law_net : G.Spec := fun as m Q => as = [.cask, .val (.int 4), .val (.int 5)] ∧ ∀ P T, WbOk P T → P.length ≤ 4 → T.length ≤ 5 → Q (netD P T) m
def S_law_page : G.Spec := fun as m Q => ∃ P T, WbOk P T ∧ as = [.val (netD P T)] ∧ Q (.str (txS P T)) m
def S_law_orders : G.Spec := S_all_orders
def S_law_by : G.Spec := fun as m Q => ∃ P T L, WbOk P T ∧ LtOk L ∧ L.length = P.length ∧ as = [.val (netD P T), .val (plD L)] ∧ Q (netD (srt L) (rnT P L T)) m
def S_law_single_right : G.Spec := fun as m Q => ∃ P T L, WbOk P T ∧ P.length ≤ 4 ∧ LtOk L ∧ L.length = P.length ∧ as = [.val (webD P T), .val (netD P T), .val (plD L)] ∧ Q (.bl true) m
def S_law_stays : G.Spec := fun as m Q => ∃ P T L, WbOk P T ∧ T.length ≤ 5 ∧ LtOk L ∧ L.length = P.length ∧ as = [.val (webD P T), .val (webD (srt L) (rnT P L T))] ∧ Q (.bl true) m
def S_law_right : G.Spec := fun as m Q => as = [.cask] ∧ Q (.bl true) m
theorem S_are_letters_len : ∀ as m Q, S_are_letters as m Q → as.length = 1 := by rintro as m Q ⟨_, _, rfl, _⟩; rfl
theorem S_with_letters_len : ∀ as m Q, S_with_letters as m Q → as.length = 2 := by rintro as m Q ⟨_, _, _, _, _, _, rfl, _⟩; rfl
theorem S_renamed_len : ∀ as m Q, S_renamed as m Q → as.length = 2 := S_with_letters_len
theorem S_all_orders_len : ∀ as m Q, S_all_orders as m Q → as.length = 1 := by rintro as m Q ⟨_, _, _, rfl, _⟩; rfl
theorem S_drawn_len : ∀ as m Q, S_drawn as m Q → as.length = 1 := by rintro as m Q ⟨_, _, _, rfl, _⟩; rfl
theorem S_renamings_to_len : ∀ as m Q, S_renamings_to as m Q → as.length = 2 := by rintro as m Q ⟨_, _, _, _, rfl, _⟩; rfl
theorem S_plain_of_len : ∀ as m Q, S_plain_of as m Q → as.length = 1 := by rintro as m Q ⟨_, _, _, _, rfl, _⟩; rfl
theorem S_plain_text_len : ∀ as m Q, S_plain_text as m Q → as.length = 1 := S_plain_of_len
theorem S_count_renamings_len : ∀ as m Q, S_count_renamings as m Q → as.length = 1 := by rintro as m Q ⟨_, _, _, _, rfl, _⟩; rfl
theorem S_law_net_len : ∀ as m Q, S_law_net as m Q → as.length = 3 := by rintro as m Q ⟨rfl, _⟩; rfl
theorem S_law_page_len : ∀ as m Q, S_law_page as m Q → as.length = 1 := by rintro as m Q ⟨_, _, _, rfl, _⟩; rfl
theorem S_law_orders_len : ∀ as m Q, S_law_orders as m Q → as.length = 1 := S_all_orders_len
theorem S_law_by_len : ∀ as m Q, S_law_by as m Q → as.length = 2 := by rintro as m Q ⟨_, _, _, _, _, _, rfl, _⟩; rfl
theorem S_law_single_right_len : ∀ as m Q, S_law_single_right as m Q → as.length = 3 := by rintro as m Q ⟨_, _, _, _, _, _, _, rfl, _⟩; rfl
theorem S_law_stays_len : ∀ as m Q, S_law_stays as m Q → as.length = 2 := by rintro as m Q ⟨_, _, _, _, _, _, _, rfl, _⟩; rfl
theorem S_law_right_len : ∀ as m Q, S_law_right as m Q → as.length = 1 := by rintro as m Q ⟨rfl, _⟩; rfl
end K06
namespace K06
open PySem L2 G
open T hiding S_are_letters S_are_letters_len S_law_lots S_law_parts ckOk
open SH hiding sb
open K10 hiding S_every_lot S_every_lot_len S_law_right S_law_right_len d_every_lot d_law_right fl law_every_lot n_every_lot n_law_right pm0 pm120 rest rng_in sum_add
open K15 hiding S_law_right S_law_right_len d_law_right n_law_right pm0
open K03 hiding S_law_net S_law_net_len S_law_right S_law_right_len S_law_spots S_law_spots_len d_law_net d_law_right d_law_spots law_law_net law_law_spots n_law_net n_law_right n_law_spots pm10
open K04 hiding S_law_right S_law_right_len d_law_right n_law_right pm0
open K05 hiding S_law_net S_law_net_len S_law_right S_law_right_len
open WB
def pm0 {α : Type} : List α → List α
  | [x0] => [x0]
  | l => l
def pm10 {α : Type} : List α → List α
  | [x0, x1] => [x1, x0]
  | l => l
def d_are_letters : DS := (dSeq (dIf (dOr (dNot (dTest (dIsi isStrD (dVarB 0)))) (dTest (dOp neD (dLenDc (dISrc (dVarB 0)) (tgN 1) (dVar 1) (dC (.bl true)) [1]) (dCallB lenD0 (dConsL (dVarB 0) dNilL))))) (dRet (dC (.bl false))) dNext)
  (dRet (dCallB allD (dConsL (dNew (dLc (dISrc (dVarB 0)) (tgN 1) dYes (dOp inD (dVarB 1) (dC (.str "abcdefgh"))) [1])) dNilL))))
abbrev n_are_letters : Nat := 2
def d_are_places : DS := (dRet (dAndV (dCall S_are_letters (dConsA (dVar 0) dNilA)) (dAndV (dChain ltD leD (dC (.int 0)) (dCallB lenD0 (dConsL (dVarB 0) dNilL)) (dC (.int 7))) (dOp eqD (dNew (dCallN listD (dConsL (dVarB 0) dNilL))) (dNew (dCallN sortedD (dConsL (dVarB 0) dNilL)))))))
abbrev n_are_places : Nat := 1
def d_with_letters : DS := (dSeq (dAsg 2 (dDictZS (dPl (dVar 0)) (dVar 1)))
  (dRet (dMake (dConsA (dMt D.isS joinD (dC (.str "")) (dConsL (dNew (dCallN sortedD (dConsL (dVarB 1) dNilL))) dNilL)) (dConsA (dCallB tupleD (dConsL (dNew (dLc (dISrc (dTs (dVar 0))) (tgN 3) dYes (dCall S_tie_of (dConsA (dOp dixD (dVarB 2) (dOp ixD (dVarB 3) (dC (.int 0)))) (dConsA (dOp dixD (dVarB 2) (dOp ixD (dVarB 3) (dC (.int 1)))) dNilA))) [3])) dNilL)) dNilA)))))
abbrev n_with_letters : Nat := 4
def d_renamed : DS := (dSeq (dDrop (dCall S_check_web (dConsA (dVar 0) dNilA)))
  (dSeq (dIf (dOr (dNot (dTest (dCall S_are_letters (dConsA (dVar 1) dNilA)))) (dTest (dOp neD (dCallB lenD0 (dConsL (dVarB 1) dNilL)) (dCallB lenD0 (dConsL (dPl (dVar 0)) dNilL))))) dNever dNext)
  (dRet (dCall S_with_letters (dConsA (dVar 0) (dConsA (dVar 1) dNilA))))))
abbrev n_renamed : Nat := 2
def d_all_orders : DS := (dSeq (dAsg 1 (dNew (dLst (dConsL (dC (.str "")) dNilL))))
  (dSeq (dFor (dIRng (dCallB lenD0 (dConsL (dVarB 0) dNilL))) (tgN 2) (dAsg 1 (dNew (dLc2 (dISrc (dVarB 1)) (tgN 3) dYes (dISrc (dVar 0)) (tgN 4) (dTest (dOp notInD (dVarB 4) (dVarB 3))) (dOp addD (dVarB 3) (dVarB 4)) [3, 4] [4]))))
  (dRet (dVar 1))))
abbrev n_all_orders : Nat := 5
def d_drawn : DS := (dRet (dTup (dConsL (dPl (dVar 0)) (dConsL (dNew (dCallN sortedTD (dConsL (dTs (dVar 0)) dNilL))) dNilL))))
abbrev n_drawn : Nat := 1
def d_renamings_to : DS := (dSeq (dIf (dOr (dTest (dOp neD (dCallB lenD0 (dConsL (dPl (dVar 0)) dNilL)) (dCallB lenD0 (dConsL (dPl (dVar 1)) dNilL)))) (dTest (dOp neD (dCallB lenD (dConsL (dVarB 0) dNilL)) (dCallB lenD (dConsL (dVarB 1) dNilL))))) (dRet (dNew (dLst dNilL))) dNext)
  (dSeq (dAsg 2 (dCall S_drawn (dConsA (dVar 1) dNilA)))
  (dRet (dNew (dLc (dISrc (dCall S_all_orders (dConsA (dPl (dVar 1)) dNilA))) (tgN 3) (dTest (dOp eqD (dCall S_drawn (dConsA (dCall S_with_letters (dConsA (dVar 0) (dConsA (dVar 3) dNilA))) dNilA)) (dVarB 2))) (dVar 3) [3])))))
abbrev n_renamings_to : Nat := 4
def d_plain_of : DS := (dSeq (dAsg 1 (dSlice (dC (.str "abcdefgh")) dNoP (dP (dCallB lenD0 (dConsL (dPl (dVar 0)) dNilL)))))
  (dSeq (dAsg 2 (dNew (dLc (dISrc (dCall S_all_orders (dConsA (dVar 1) dNilA))) (tgN 3) dYes (dNew (dCallN sortedTD (dConsL (dTs (dCall S_with_letters (dConsA (dVar 0) (dConsA (dVar 3) dNilA)))) dNilL))) [3])))
  (dRet (dMt D.isS joinD (dC (.str " ")) (dConsL (dOp addD (dNew (dLst (dConsL (dVar 1) dNilL))) (dCallB minTD (dConsL (dVarB 2) dNilL))) dNilL)))))
abbrev n_plain_of : Nat := 4
def d_plain_text : DS := (dSeq (dDrop (dCall S_check_web (dConsA (dVar 0) dNilA)))
  (dRet (dCall S_plain_of (dConsA (dVar 0) dNilA))))
abbrev n_plain_text : Nat := 1
def d_count_renamings : DS := (dSeq (dDrop (dCall S_check_web (dConsA (dVar 0) dNilA)))
  (dRet (dCallB lenD0 (dConsL (dCall S_renamings_to (dConsA (dVar 0) (dConsA (dVar 0) dNilA))) dNilL))))
abbrev n_count_renamings : Nat := 1
def d_law_net : DS := (dSeq (dAsg 3 (dCall S_law_spots (dConsC 0 (dConsA (dOp addD (dC (.int 1)) (dCall S_law_tap (dConsC 0 (dConsA (dVar 1) dNilA)))) dNilA))))
  (dSeq (dAsgN 4 (dLst dNilL))
  (dSeq (dFor (dIRng (dCall S_law_tap (dConsC 0 (dConsA (dOp addD (dVarB 2) (dC (.int 1))) dNilA)))) (tgN 5) (dSeq (dApp 4 (dCall S_law_joint (dConsA (dCall S_law_pick (dConsC 0 (dConsA (dNew (dCallN listD (dConsL (dVarB 3) dNilL))) dNilA))) (dConsA (dCall S_law_pick (dConsC 0 (dConsA (dNew (dCallN listD (dConsL (dVarB 3) dNilL))) dNilA))) dNilA))))
  (dIf (dTest (dOp eqD (dCall S_law_tap (dConsC 0 (dConsA (dC (.int 5)) dNilA))) (dC (.int 0)))) (dSetI 4 (dOp ixD (dVarB 4) (dC (.int 0))) (dC (.int (-1)))) dNext)))
  (dFreeze 4 (dRet (dTup (dConsL (dVar 3) (dConsL (dVar 4) dNilL))))))))
abbrev n_law_net : Nat := 6
def d_law_page : DS := (dRet (dMt D.isS joinD (dC (.str " ")) (dConsL (dOp addD (dNew (dLst (dConsL (dOp ixD (dVarB 0) (dC (.int 0))) dNilL))) (dNew (dCallN listD (dConsL (dOp ixD (dVarB 0) (dC (.int 1))) dNilL)))) dNilL)))
abbrev n_law_page : Nat := 1
def d_law_orders : DS := (dSeq (dAsg 1 (dNew (dLst (dConsL (dC (.str "")) dNilL))))
  (dSeq (dFor (dISrc (dVar 0)) (tgN 2) (dSeq (dAsg 3 (dNew (dLst dNilL)))
  (dSeq (dFor (dISrc (dVar 1)) (tgN 4) (dAsg 3 (dOp addD (dVarB 3) (dNew (dLc (dISrc (dVarB 0)) (tgN 5) (dTest (dOp notInD (dVarB 5) (dVarB 4))) (dOp addD (dVarB 4) (dVarB 5)) [5])))))
  (dAsg 1 (dVar 3)))))
  (dRet (dVar 1))))
abbrev n_law_orders : Nat := 6
def d_law_by : DS := (dSeq (dAsg 2 (dDictP (dNew (dLc (dIRng (dCallB lenD0 (dConsL (dVarB 1) dNilL))) (tgN 4) dYes (dTup (dConsL (dOp ixD (dOp ixD (dVarB 0) (dC (.int 0))) (dVarB 4)) (dConsL (dOp ixD (dVarB 1) (dVarB 4)) dNilL))) [4]))))
  (dSeq (dAsg 3 (dNew (dLc (dISrc (dOp ixD (dVarB 0) (dC (.int 1)))) (tgN 5) dYes (dCall S_law_joint (dConsA (dOp dixD (dVarB 2) (dOp ixD (dVarB 5) (dC (.int 0)))) (dConsA (dOp dixD (dVarB 2) (dOp ixD (dVarB 5) (dC (.int 1)))) dNilA))) [5])))
  (dRet (dTup (dConsL (dMt D.isS joinD (dC (.str "")) (dConsL (dNew (dCallN sortedD (dConsL (dVarB 1) dNilL))) dNilL)) (dConsL (dVar 3) dNilL))))))
abbrev n_law_by : Nat := 6
def d_law_single_right : DS := (dSeq (dAsg 3 (dCall S_law_by (dConsA (dVar 1) (dConsA (dVar 2) dNilA))))
  (dSeq (dAsg 4 (dCall S_renamed (dConsA (dVar 0) (dConsA (dVar 2) dNilA))))
  (dSeq (dIf (dOr (dTest (dOp neD (dMeth0 S_Webtext (dVar 4)) (dCall S_law_page (dConsA (dVar 3) dNilA)))) (dTest (dEqW S_Webeq true (dCallK S_renamed pm10 (dConsA (dVar 2) (dConsA (dVar 0) dNilA))) (dVar 4)))) (dRet (dC (.bl false))) dNext)
  (dSeq (dAsg 5 (dNew (dCallN sortedD (dConsL (dVarB 2) dNilL))))
  (dSeq (dAsg 6 (dMt D.isS joinD (dC (.str "")) (dConsL (dNew (dLc (dISrc (dVarB 5)) (tgN 7) dYes (dOp ixD (dOp ixD (dVarB 1) (dC (.int 0))) (dMt D.isS sindexD (dVarB 2) (dConsL (dVarB 7) dNilL))) [7])) dNilL)))
  (dRet (dAndV (dEqW S_Webeq false (dCall S_renamed (dConsA (dVar 4) (dConsA (dVar 6) dNilA))) (dVar 0)) (dOp eqD (dCall S_plain_text (dConsA (dVar 4) dNilA)) (dCall S_plain_text (dConsA (dVar 0) dNilA))))))))))
abbrev n_law_single_right : Nat := 8
def d_law_stays : DS := (dSeq (dAsg 2 (dNew (dLst (dConsL (dCall S_rings (dConsA (dVar 0) dNilA)) (dConsL (dCall S_blocks (dConsA (dVar 0) dNilA)) (dConsL (dCall S_all_trees (dConsA (dVar 0) dNilA)) (dConsL (dCall S_table (dConsA (dVar 0) dNilA)) dNilL)))))))
  (dRet (dOp eqD (dVarB 2) (dNew (dLst (dConsL (dCall S_rings (dConsA (dVar 1) dNilA)) (dConsL (dCall S_blocks (dConsA (dVar 1) dNilA)) (dConsL (dCall S_all_trees (dConsA (dVar 1) dNilA)) (dConsL (dCall S_table (dConsA (dVar 1) dNilA)) dNilL)))))))))
abbrev n_law_stays : Nat := 3
def d_law_right : DS := (dSeq (dAsg 1 (dCall S_law_net (dConsC 0 (dConsA (dC (.int 4)) (dConsA (dC (.int 5)) dNilA)))))
  (dSeq (dPar 2 3 (dConsL (dMake (dConsA (dOp ixD (dVarB 1) (dC (.int 0))) (dConsA (dCallB tupleD (dConsL (dOp ixD (dVarB 1) (dC (.int 1))) dNilL)) dNilA))) (dConsL (dCallB lenD0 (dConsL (dOp ixD (dVarB 1) (dC (.int 0))) dNilL)) dNilL)))
  (dSeq (dAsg 5 (dNew (dLc (dISrc (dCall S_law_orders (dConsA (dOp ixD (dVarB 1) (dC (.int 0))) dNilA))) (tgN 4) (dTest (dOp eqD (dNew (dCallN sortedD (dConsL (dOp ixD (dCall S_law_by (dConsA (dVar 1) (dConsA (dVar 4) dNilA))) (dC (.int 1))) dNilL))) (dNew (dCallN sortedD (dConsL (dOp ixD (dVarB 1) (dC (.int 1))) dNilL))))) (dVar 4) [4])))
  (dSeq (dAsg 6 (dCall S_law_orders (dConsA (dOp ixD (dVarB 1) (dC (.int 0))) dNilA)))
  (dSeq (dIf (dOr (dTest (dOp neD (dCall S_count_renamings (dConsA (dVar 2) dNilA)) (dCallB lenD0 (dConsL (dVarB 5) dNilL)))) (dTest (dOp neD (dCallK S_count_renamings pm0 (dConsA (dVar 2) dNilA)) (dCallB lenD0 (dConsL (dVarB 5) dNilL))))) (dRet (dC (.bl false))) dNext)
  (dSeq (dIf (dTest (dOp neD (dOp mulD (dOp fdivD (dCallB lenD0 (dConsL (dVarB 6) dNilL)) (dCallB lenD0 (dConsL (dVarB 5) dNilL))) (dCallB lenD0 (dConsL (dVarB 5) dNilL))) (dCallB lenD0 (dConsL (dVarB 6) dNilL)))) (dRet (dC (.bl false))) dNext)
  (dSeq (dAsg 7 (dSlice (dC (.str "abcdefgh")) dNoP (dP (dVar 3))))
  (dSeq (dAsg 8 (dNew (dLc (dISrc (dCall S_law_orders (dConsA (dVar 7) dNilA))) (tgN 4) dYes (dMt D.isS joinD (dC (.str " ")) (dConsL (dOp addD (dNew (dLst (dConsL (dVar 7) dNilL))) (dNew (dCallN sortedD (dConsL (dOp ixD (dCall S_law_by (dConsA (dVar 1) (dConsA (dVar 4) dNilA))) (dC (.int 1))) dNilL)))) dNilL)) [4])))
  (dSeq (dIf (dOr (dTest (dOp neD (dCall S_plain_text (dConsA (dVar 2) dNilA)) (dCallB minTD (dConsL (dVarB 8) dNilL)))) (dTest (dOp neD (dCallK S_plain_text pm0 (dConsA (dVar 2) dNilA)) (dCallB minTD (dConsL (dVarB 8) dNilL))))) (dRet (dC (.bl false))) dNext)
  (dSeq (dFor (dIRng (dC (.int 3))) (tgN 9) (dSeq (dMix [4, 10] (dConsA (dC (.str "")) (dConsW (dNew (dCallN listD (dConsL (dC (.str "abcdefgh")) dNilL))) dNilA)))
  (dSeq (dFor (dIRng (dVar 3)) (tgN 11) (dCatPop 4 10 (dCall S_law_tap (dConsC 0 (dConsA (dCallB lenD0 (dConsL (dVarB 10) dNilL)) dNilA)))))
  (dSeq (dIf (dOr (dNot (dTest (dCall S_law_single_right (dConsA (dVar 2) (dConsA (dVar 1) (dConsA (dVar 4) dNilA)))))) (dNot (dTest (dCall S_law_stays (dConsA (dVar 2) (dConsA (dCall S_renamed (dConsA (dVar 2) (dConsA (dVar 4) dNilA))) dNilA)))))) (dRet (dC (.bl false))) dNext)
  (dSeq (dAsg 12 (dCall S_law_pick (dConsC 0 (dConsA (dVar 6) dNilA))))
  (dSeq (dAsg 13 (dMt D.isS joinD (dC (.str "")) (dConsL (dNew (dLc (dISrc (dVarB 4)) (tgN 14) dYes (dOp ixD (dVarB 12) (dMt D.isL indexD (dNew (dCallN sortedD (dConsL (dVarB 4) dNilL))) (dConsL (dVarB 14) dNilL))) [14])) dNilL)))
  (dIf (dTest (dEqW S_Webeq true (dCall S_renamed (dConsA (dCall S_renamed (dConsA (dVar 2) (dConsA (dVar 4) dNilA))) (dConsA (dVar 12) dNilA))) (dCall S_renamed (dConsA (dVar 2) (dConsA (dVar 13) dNilA))))) (dRet (dC (.bl false))) dNext)))))))
  (dRet (dCall S_law_single_right (dConsA (dVar 2) (dConsA (dVar 1) (dConsA (dCall S_law_pick (dConsC 0 (dConsA (dVar 5) dNilA))) dNilA)))))))))))))))
abbrev n_law_right : Nat := 15
end K06
namespace K06
open PySem L2 G
open T hiding S_are_letters S_are_letters_len S_law_lots S_law_parts ckOk
open SH hiding sb
open K10 hiding S_every_lot S_every_lot_len S_law_right S_law_right_len d_every_lot d_law_right fl law_every_lot n_every_lot n_law_right pm0 pm120 rest rng_in sum_add
open K15 hiding S_law_right S_law_right_len d_law_right n_law_right pm0
open K03 hiding S_law_net S_law_net_len S_law_right S_law_right_len S_law_spots S_law_spots_len d_law_net d_law_right d_law_spots law_law_net law_law_spots n_law_net n_law_right n_law_spots pm10
open K04 hiding S_law_right S_law_right_len d_law_right n_law_right pm0
open K05 hiding S_law_net S_law_net_len S_law_right S_law_right_len
open WB
theorem nd_map {α β : Type} {f : α → β} : ∀ {l : List α}, l.Nodup → (∀ a ∈ l, ∀ b ∈ l, f a = f b → a = b) → (l.map f).Nodup
  | [], _, _ => List.nodup_nil
  | a :: r, nd, h => by
    obtain ⟨n1, n2⟩ := List.nodup_cons.mp nd
    rw [List.map_cons, List.nodup_cons]
    refine ⟨fun z => ?_, nd_map n2 fun x hx y hy => h x (List.mem_cons_of_mem _ hx) y (List.mem_cons_of_mem _ hy)⟩
    obtain ⟨b, hb, e⟩ := List.mem_map.mp z
    exact n1 (h a (by simp) b (List.mem_cons_of_mem _ hb) e.symm ▸ hb)
theorem perm_of_sub {L M : List Nat} (hL : L.Nodup) (hM : M.Nodup) (hs : ∀ a ∈ L, a ∈ M) (hl : L.length = M.length) : L.Perm M := by
  refine (List.perm_ext_iff_of_nodup hL hM).mpr fun a => ⟨hs a, fun ha => ?_⟩
  by_cases z : a ∈ L
  · exact z
  · have := len_le_of_sub (l := a :: L) (m := M) (List.nodup_cons.mpr ⟨z, hL⟩) fun b hb => by
      rcases List.mem_cons.mp hb with rfl | hb
      · exact ha
      · exact hs b hb
    rw [List.length_cons] at this
    omega
theorem ren_at {P L : List Nat} (nd : P.Nodup) {i : Nat} (h : i < P.length) (h2 : i < L.length) : ren P L P[i] = L[i] := by
  unfold ren
  rw [nd.idxOf_getElem i h, List.getD_eq_getElem?_getD, List.getElem?_eq_getElem h2]; rfl
theorem map_ren {P L : List Nat} (nd : P.Nodup) (hl : L.length = P.length) : P.map (ren P L) = L := by
  refine List.ext_getElem (by rw [List.length_map, hl]) fun i h1 h2 => ?_
  rw [List.getElem_map]
  exact ren_at nd (by rw [List.length_map] at h1; exact h1) h2
theorem map_comp {P L : List Nat} (nd : P.Nodup) (hl : L.length = P.length) (g : Nat → Nat) : L.map g = P.map fun a => g (ren P L a) := by
  have := congrArg (List.map g) (map_ren nd hl)
  rw [List.map_map] at this
  exact this.symm
theorem ren_mem {P L : List Nat} (hl : L.length = P.length) {a : Nat} (ha : a ∈ P) : ren P L a ∈ L := by
  unfold ren
  have h : P.idxOf a < L.length := by rw [hl]; exact List.idxOf_lt_length_iff.mpr ha
  rw [List.getD_eq_getElem?_getD, List.getElem?_eq_getElem h]
  exact List.getElem_mem h
theorem ren_inv {P L : List Nat} (nd : L.Nodup) (hl : L.length = P.length) {a : Nat} (ha : a ∈ P) : ren L P (ren P L a) = a := by
  have h0 := List.idxOf_lt_length_iff.mpr ha
  have h : P.idxOf a < L.length := by rw [hl]; exact h0
  have e : ren P L a = L[P.idxOf a] := by unfold ren; rw [List.getD_eq_getElem?_getD, List.getElem?_eq_getElem h]; rfl
  rw [e, ren_at nd h h0]
  exact List.getElem_idxOf h0
theorem ren_inj {P L : List Nat} (nd : L.Nodup) (hl : L.length = P.length) {a b : Nat} (ha : a ∈ P) (hb : b ∈ P) (e : ren P L a = ren P L b) : a = b := by
  rw [← ren_inv nd hl ha, e, ren_inv nd hl hb]
theorem ren_map {P : List Nat} (nd : P.Nodup) (f : Nat → Nat) {a : Nat} (ha : a ∈ P) : ren P (P.map f) a = f a := by
  have h0 := List.idxOf_lt_length_iff.mpr ha
  have : ren P (P.map f) a = ren P (P.map f) P[P.idxOf a] := by rw [List.getElem_idxOf h0]
  rw [this, ren_at nd h0 (by rw [List.length_map]; exact h0), List.getElem_map, List.getElem_idxOf h0]
theorem ren_id {P : List Nat} (nd : P.Nodup) {a : Nat} (ha : a ∈ P) : ren P P a = a := by
  have := ren_map nd id ha
  rw [List.map_id] at this
  exact this
theorem mm (f : Nat → Nat) (a b : Nat) : min (f (min a b)) (f (max a b)) = min (f a) (f b) ∧ max (f (min a b)) (f (max a b)) = max (f a) (f b) := by
  rcases Nat.le_total a b with h | h
  · rw [Nat.min_eq_left h, Nat.max_eq_right h]; exact ⟨rfl, rfl⟩
  · rw [Nat.min_eq_right h, Nat.max_eq_left h]; exact ⟨Nat.min_comm .., Nat.max_comm ..⟩
theorem tm_tm (f g : Nat → Nat) (T : List (Nat × Nat)) : tm f (tm g T) = tm (fun a => f (g a)) T := by
  unfold tm
  rw [List.map_map]
  refine List.map_congr_left fun e _ => ?_
  show (min (f (min _ _)) _, _) = _
  rw [(mm f _ _).1, (mm f _ _).2]
theorem tm_congr {P : List Nat} {f g : Nat → Nat} {T : List (Nat × Nat)} (ok : Ok P T) (h : ∀ a ∈ P, f a = g a) : tm f T = tm g T := by
  unfold tm
  refine List.map_congr_left fun e he => ?_
  rw [h _ (ok e he).1, h _ (ok e he).2]
theorem tm_id {T : List (Nat × Nat)} (h : ∀ e ∈ T, e.1 ≤ e.2) : tm (fun a => a) T = T := by
  unfold tm
  rw [List.map_congr_left (g := id) fun e he => by rw [Nat.min_eq_left (h e he), Nat.max_eq_right (h e he)]; rfl, List.map_id]
theorem tm_len (f : Nat → Nat) (T : List (Nat × Nat)) : (tm f T).length = T.length := by unfold tm; rw [List.length_map]
theorem tm_perm (f : Nat → Nat) {T U : List (Nat × Nat)} (h : T.Perm U) : (tm f T).Perm (tm f U) := h.map _
theorem lt_ok (hP : PlOk P) : LtOk P := ⟨hP.nd, hP.let8, hP.pos, hP.few⟩
theorem srt_ok {L : List Nat} (h : LtOk L) : PlOk (srt L) := ⟨srt_inc h.nd, fun a ha => h.let8 a (srt_mem.mp ha), by rw [srt_len]; exact h.pos, by rw [srt_len]; exact h.few⟩
theorem LtOk.perm {L M : List Nat} (h : LtOk L) (p : M.Perm L) : LtOk M := ⟨p.nodup_iff.mpr h.nd, fun a ha => h.let8 a (p.mem_iff.mp ha), by rw [p.length_eq]; exact h.pos, by rw [p.length_eq]; exact h.few⟩
theorem tm_ok {P P' : List Nat} {T : List (Nat × Nat)} (h : WbOk P T) (hP : PlOk P') {f : Nat → Nat} (hf : ∀ a ∈ P, f a ∈ P') : WbOk P' (tm f T) := by
  refine ⟨hP, by rw [tm_len]; exact h.few, fun e he => ?_⟩
  obtain ⟨e0, he0, rfl⟩ := List.mem_map.mp he
  obtain ⟨h1, h2, _⟩ := h.ties e0 he0
  exact tie_mk (hf _ h1) (hf _ h2)
theorem rn_ok {P L : List Nat} {T : List (Nat × Nat)} (h : WbOk P T) (hL : LtOk L) (hl : L.length = P.length) : WbOk (srt L) (rnT P L T) := tm_ok h (srt_ok hL) fun a ha => srt_mem.mpr (ren_mem hl ha)
theorem rn_rn {P L M : List Nat} {T : List (Nat × Nat)} (h : WbOk P T) (hL : LtOk L) (hl : L.length = P.length) : rnT (srt L) M (rnT P L T) = rnT P (L.map (ren (srt L) M)) T := by
  unfold rnT
  rw [tm_tm]
  refine tm_congr h.ok fun a ha => ?_
  rw [map_comp h.pl.nd hl, ren_map h.pl.nd _ ha]
theorem rn_perm {P L M : List Nat} (hM : M.length = L.length) (nd : L.Nodup) : (L.map (ren (srt L) M)).Perm M := by
  have h2 := map_ren (P := srt L) (L := M) ((srt_perm L).nodup_iff.mpr nd) (by rw [srt_len]; exact hM)
  have := (srt_perm L).symm.map (ren (srt L) M)
  rw [h2] at this
  exact this
def bck (P L : List Nat) : List Nat := (srt L).map (ren L P)
theorem bck_perm {P L : List Nat} (hl : L.length = P.length) (nd : L.Nodup) : (bck P L).Perm P := by
  have := (srt_perm L).map (ren L P)
  rw [map_ren nd hl.symm] at this
  exact this
theorem bck_rn {P L : List Nat} {T : List (Nat × Nat)} (h : WbOk P T) (hL : LtOk L) (hl : L.length = P.length) : rnT (srt L) (bck P L) (rnT P L T) = T := by
  have hs : (srt L).Nodup := (srt_perm L).nodup_iff.mpr hL.nd
  unfold rnT
  rw [tm_tm, tm_congr (g := fun a => a) h.ok fun a ha => ?_, tm_id fun e he => (h.ties e he).2.2]
  show ren (srt L) (bck P L) (ren P L a) = a
  unfold bck
  rw [ren_map hs _ (srt_mem.mpr (ren_mem hl ha)), ren_inv hL.nd hl ha]
theorem srt_of {P M : List Nat} (hP : P.Pairwise (· < ·)) (h : M.Perm P) : srt M = P :=
  lot_eq (srt_inc (h.nodup_iff.mpr (hP.imp fun h => Nat.ne_of_lt h))) hP fun a => by rw [srt_mem, h.mem_iff]
theorem mem_ordN {L o : List Nat} : ∀ {k : Nat} {o : List Nat}, o ∈ ordN L k ↔ o.Nodup ∧ o.length = k ∧ ∀ a ∈ o, a ∈ L
  | 0, o => by
    unfold ordN
    rw [List.mem_singleton]
    constructor
    · rintro rfl; exact ⟨List.nodup_nil, rfl, fun a ha => (by cases ha)⟩
    · rintro ⟨_, h, _⟩; exact List.length_eq_zero_iff.mp h
  | k + 1, o => by
    unfold ordN
    rw [List.mem_flatMap]
    constructor
    · rintro ⟨p, hp, h⟩
      obtain ⟨c, hc, rfl⟩ := List.mem_map.mp h
      obtain ⟨c1, c2⟩ := List.mem_filter.mp hc
      have c2 := of_decide_eq_true c2
      obtain ⟨h1, h2, h3⟩ := (mem_ordN (o := p)).mp hp
      refine ⟨?_, by rw [List.length_append, h2]; rfl, fun a ha => ?_⟩
      · rw [List.nodup_append]
        refine ⟨h1, List.nodup_cons.mpr ⟨by simp, List.nodup_nil⟩, fun a ha b hb e => ?_⟩
        rw [List.mem_singleton] at hb
        subst hb; subst e
        exact c2 ha
      · rcases List.mem_append.mp ha with ha | ha
        · exact h3 a ha
        · rw [List.mem_singleton] at ha; subst ha; exact c1
    · rintro ⟨h1, h2, h3⟩
      have ne : o ≠ [] := fun z => by rw [z] at h2; simp at h2
      have e := List.dropLast_concat_getLast ne
      have nd := h1
      rw [← e, List.nodup_append] at nd
      refine ⟨o.dropLast, (mem_ordN (o := o.dropLast)).mpr ⟨nd.1, by rw [List.length_dropLast, h2]; rfl, fun a ha => h3 a (List.dropLast_subset o ha)⟩, List.mem_map.mpr ⟨o.getLast ne, List.mem_filter.mpr ⟨h3 _ (List.getLast_mem ne), decide_eq_true fun z => nd.2.2 _ z _ (by simp) rfl⟩, e⟩⟩
theorem mem_ords {L o : List Nat} (nd : L.Nodup) : o ∈ ords L ↔ o.Perm L := by
  unfold ords
  rw [mem_ordN (o := o)]
  · constructor
    · rintro ⟨h1, h2, h3⟩
      exact perm_of_sub h1 nd h3 h2
    · intro p
      exact ⟨p.nodup_iff.mpr nd, p.length_eq, fun a ha => p.mem_iff.mp ha⟩
theorem ordN_nd {L : List Nat} (nd : L.Nodup) : ∀ k, (ordN L k).Nodup
  | 0 => List.nodup_cons.mpr ⟨by simp, List.nodup_nil⟩
  | k + 1 => by
    unfold ordN
    rw [List.Nodup, List.pairwise_flatMap]
    constructor
    · intro o ho
      exact nd_map (nd.filter _) fun a _ b _ e => by simpa using e
    · refine (ordN_nd nd k).imp fun {a b} hne x hx y hy e => hne ?_
      obtain ⟨c, _, rfl⟩ := List.mem_map.mp hx
      obtain ⟨d, _, rfl⟩ := List.mem_map.mp hy
      exact (List.append_inj' e rfl).1
theorem ords_nd {L : List Nat} (nd : L.Nodup) : (ords L).Nodup := ordN_nd nd _
def desc (n : Nat) : Nat → Nat
  | 0 => 1
  | k + 1 => desc n k * (n - k)
theorem fil_len {L o : List Nat} (nd : L.Nodup) (ho : o.Nodup) (hs : ∀ a ∈ o, a ∈ L) : (L.filter fun c => decide (c ∉ o)).length = L.length - o.length := by
  have h1 : (L.filter fun c => decide (c ∈ o)).length = o.length := len_eq_of_same (nd.filter _) ho fun a => by
    rw [List.mem_filter, decide_eq_true_eq]
    exact ⟨fun h => h.2, fun h => ⟨hs a h, h⟩⟩
  have h2 : ∀ K : List Nat, (K.filter fun c => decide (c ∈ o)).length + (K.filter fun c => decide (c ∉ o)).length = K.length := fun K => by
    induction K with
    | nil => rfl
    | cons a r ih =>
      rw [List.filter_cons, List.filter_cons, List.length_cons]
      by_cases z : a ∈ o
      · rw [if_pos (decide_eq_true z), if_neg (by simp [z]), List.length_cons]; omega
      · rw [if_neg (by simp [z]), if_pos (decide_eq_true z), List.length_cons]; omega
  have := h2 L
  omega
theorem flat_const {α β : Type} (f : α → List β) (c : Nat) : ∀ l : List α, (∀ a ∈ l, (f a).length = c) → (l.flatMap f).length = l.length * c
  | [], _ => by simp
  | a :: r, h => by
    rw [List.flatMap_cons, List.length_append, flat_const f c r fun x hx => h x (List.mem_cons_of_mem _ hx), h a (by simp), List.length_cons, Nat.succ_mul]
    omega
theorem ordN_len {L : List Nat} (nd : L.Nodup) : ∀ k, (ordN L k).length = desc L.length k
  | 0 => rfl
  | k + 1 => by
    unfold ordN desc
    rw [flat_const _ (L.length - k) _ fun o ho => ?_, ordN_len nd k]
    obtain ⟨h1, h2, h3⟩ := (mem_ordN (o := o)).mp ho
    rw [List.length_map, fil_len nd h1 h3, h2]
theorem ordN_24 {L : List Nat} (nd : L.Nodup) (h4 : L.length ≤ 4) {k : Nat} (hk : k ≤ L.length) : (ordN L k).length ≤ 24 := by
  rw [ordN_len nd]
  have : ∀ n, n ≤ 4 → ∀ k, k ≤ n → desc n k ≤ 24 := by decide
  exact this _ h4 _ hk
theorem ords_24 {L : List Nat} (nd : L.Nodup) (h4 : L.length ≤ 4) : (ords L).length ≤ 24 := ordN_24 nd h4 (Nat.le_refl _)
theorem lt_way (a b : Nat × Nat) : D.lt (wayD a) (wayD b) = decide (a.1 < b.1 ∨ a.1 = b.1 ∧ a.2 < b.2) := by
  show PySem.W.dataLt (.str (tS a)) (.str (tS b)) = _
  rw [PySem.W.dataLt_str]
  refine decide_eq_decide.mpr ?_
  show ([a.1, a.2] : List Nat) < [b.1, b.2] ↔ _
  rw [List.cons_lt_cons_iff, List.cons_lt_cons_iff]
  simp
theorem sT_perm (E : List (Nat × Nat)) : (sT E).Perm E := List.mergeSort_perm ..
theorem sT_pw (E : List (Nat × Nat)) : (sT E).Pairwise fun a b => (!D.lt (wayD b) (wayD a)) = true := by
  unfold sT
  refine List.pairwise_mergeSort (fun a b c h1 h2 => ?_) (fun a b => ?_) E
  · rw [lt_way] at *
    simp only [Bool.not_eq_true', decide_eq_false_iff_not] at *
    omega
  · rw [lt_way, lt_way, Bool.or_eq_true]
    simp only [Bool.not_eq_true', decide_eq_false_iff_not]
    omega
theorem sT_eq {E F : List (Nat × Nat)} : sT E = sT F ↔ E.Perm F := by
  constructor
  · intro h
    have := sT_perm E
    rw [h] at this
    exact this.symm.trans (sT_perm F)
  · intro h
    refine List.Perm.eq_of_pairwise (fun a b _ _ h1 h2 => ?_) (sT_pw E) (sT_pw F) ((sT_perm E).trans (h.trans (sT_perm F).symm))
    rw [lt_way] at h1 h2
    simp only [Bool.not_eq_true', decide_eq_false_iff_not] at h1 h2
    refine Prod.ext ?_ ?_ <;> omega
theorem sT_len (E : List (Nat × Nat)) : (sT E).length = E.length := (sT_perm E).length_eq
theorem fib_dvd {α β : Type} [DecidableEq β] (f : α → β) (k : Nat) : ∀ (n : Nat) (X : List α), X.length ≤ n → (∀ x ∈ X, (X.filter fun y => decide (f y = f x)).length = k) → k ∣ X.length
  | _, [], _, _ => Nat.dvd_zero k
  | 0, x :: r, h, _ => by simp at h
  | n + 1, x :: r, h, hf => by
    have h2 : ∀ K : List α, (K.filter fun c => decide (f c = f x)).length + (K.filter fun c => decide (f c ≠ f x)).length = K.length := fun K => by
      induction K with
      | nil => rfl
      | cons a r ih =>
        rw [List.filter_cons, List.filter_cons, List.length_cons]
        by_cases z : f a = f x
        · rw [if_pos (decide_eq_true z), if_neg (by simp [z]), List.length_cons]; omega
        · rw [if_neg (by simp [z]), if_pos (decide_eq_true z), List.length_cons]; omega
    have hx := hf x (by simp)
    have hs := h2 (x :: r)
    have e1 : ((x :: r).filter fun c => decide (f c ≠ f x)) = r.filter fun c => decide (f c ≠ f x) := List.filter_cons_of_neg (by simp)
    rw [hx, e1] at hs
    have ih := fib_dvd f k n (r.filter fun c => decide (f c ≠ f x)) (by rw [List.length_cons] at h; have := List.length_filter_le (fun c => decide (f c ≠ f x)) r; omega) fun y hy => by
      obtain ⟨y1, y2⟩ := List.mem_filter.mp hy
      have y2 := of_decide_eq_true y2
      rw [← hf y (List.mem_cons_of_mem _ y1), List.filter_filter, List.filter_cons_of_neg (by simp; exact fun z => y2 z.symm)]
      congr 1
      refine List.filter_congr fun z _ => ?_
      by_cases q : f z = f y
      · rw [decide_eq_true q]
        simp
        rw [q]; exact y2
      · rw [decide_eq_false q]; rfl
    rw [← hs]
    exact Nat.dvd_add (Nat.dvd_refl k) ih
theorem fib_len {P : List Nat} {T : List (Nat × Nat)} (h : WbOk P T) {M : List Nat} (hM : M ∈ ords P) : ((ords P).filter fun L => decide (sT (rnT P L T) = sT (rnT P M T))).length = (stab P T).length := by
  have nd := h.pl.nd
  have pM := (mem_ords nd).mp hM
  have ndM := pM.nodup_iff.mpr nd
  refine Nat.le_antisymm ?_ ?_
  · rw [← List.length_map (f := fun L : List Nat => L.map (ren M P))]
    refine len_le_of_sub (nd_map ((ords_nd nd).filter _) fun A hA B hB e => ?_) fun L hL => ?_
    · have pA := (mem_ords nd).mp (List.mem_filter.mp hA).1
      have pB := (mem_ords nd).mp (List.mem_filter.mp hB).1
      have key : ∀ C : List Nat, C.Perm P → (C.map (ren M P)).map (ren P M) = C := fun C pC => by
        rw [List.map_map]
        conv => rhs; rw [← List.map_id C]
        exact List.map_congr_left fun a ha => ren_inv nd pM.length_eq.symm (pM.mem_iff.mpr (pC.mem_iff.mp ha))
      rw [← key A pA, e, key B pB]
    · obtain ⟨L0, hL0, rfl⟩ := List.mem_map.mp hL
      obtain ⟨l1, l2⟩ := List.mem_filter.mp hL0
      have p0 := (mem_ords nd).mp l1
      have l2 := sT_eq.mp (of_decide_eq_true l2)
      have pl : (L0.map (ren M P)).Perm P := by
        have := (p0.trans pM.symm).map (ren M P)
        rw [map_ren ndM pM.length_eq.symm] at this
        exact this
      refine List.mem_filter.mpr ⟨(mem_ords nd).mpr pl, decide_eq_true (sT_eq.mpr ?_)⟩
      have e1 : rnT P (L0.map (ren M P)) T = tm (ren M P) (rnT P L0 T) := by
        unfold rnT
        rw [tm_tm]
        refine tm_congr h.ok fun a ha => ?_
        rw [map_comp nd p0.length_eq, ren_map nd _ ha]
      have e2 : tm (ren M P) (rnT P M T) = T := by
        unfold rnT
        rw [tm_tm, tm_congr (g := fun a => a) h.ok fun a ha => ren_inv ndM pM.length_eq ha, tm_id fun e he => (h.ties e he).2.2]
      rw [e1]
      have := tm_perm (ren M P) l2
      rw [e2] at this
      exact this
  · rw [← List.length_map (f := fun L : List Nat => L.map (ren P M))]
    refine len_le_of_sub (nd_map ((ords_nd nd).filter _) fun A hA B hB e => ?_) fun L hL => ?_
    · have pA := (mem_ords nd).mp (List.mem_filter.mp hA).1
      have pB := (mem_ords nd).mp (List.mem_filter.mp hB).1
      have key : ∀ C : List Nat, C.Perm P → (C.map (ren P M)).map (ren M P) = C := fun C pC => by
        rw [List.map_map]
        conv => rhs; rw [← List.map_id C]
        exact List.map_congr_left fun a ha => ren_inv ndM pM.length_eq (pC.mem_iff.mp ha)
      rw [← key A pA, e, key B pB]
    · obtain ⟨L0, hL0, rfl⟩ := List.mem_map.mp hL
      obtain ⟨l1, l2⟩ := List.mem_filter.mp hL0
      have p0 := (mem_ords nd).mp l1
      have l2 := sT_eq.mp (of_decide_eq_true l2)
      have pl : (L0.map (ren P M)).Perm P := by
        have := p0.map (ren P M)
        rw [map_ren nd pM.length_eq] at this
        exact this.trans pM
      refine List.mem_filter.mpr ⟨(mem_ords nd).mpr pl, decide_eq_true (sT_eq.mpr ?_)⟩
      have e1 : rnT P (L0.map (ren P M)) T = tm (ren P M) (rnT P L0 T) := by
        unfold rnT
        rw [tm_tm]
        refine tm_congr h.ok fun a ha => ?_
        rw [map_comp nd p0.length_eq, ren_map nd _ ha]
      rw [e1]
      exact tm_perm (ren P M) l2
theorem stab_dvd {P : List Nat} {T : List (Nat × Nat)} (h : WbOk P T) : (stab P T).length ∣ (ords P).length :=
  fib_dvd (fun L => sT (rnT P L T)) _ _ (ords P) (Nat.le_refl _) fun M hM => fib_len h hM
theorem stab_pos {P : List Nat} {T : List (Nat × Nat)} (h : WbOk P T) : P ∈ stab P T := by
  refine List.mem_filter.mpr ⟨(mem_ords h.pl.nd).mpr (.refl P), decide_eq_true ?_⟩
  unfold rnT
  rw [tm_congr (g := fun a => a) h.ok fun a ha => ren_id h.pl.nd ha, tm_id fun e he => (h.ties e he).2.2]
end K06
namespace K06
open PySem L2 G
open T hiding S_are_letters S_are_letters_len S_law_lots S_law_parts ckOk
open SH hiding sb
open K10 hiding S_every_lot S_every_lot_len S_law_right S_law_right_len d_every_lot d_law_right fl law_every_lot n_every_lot n_law_right pm0 pm120 rest rng_in sum_add
open K15 hiding S_law_right S_law_right_len d_law_right n_law_right pm0
open K03 hiding S_law_net S_law_net_len S_law_right S_law_right_len S_law_spots S_law_spots_len d_law_net d_law_right d_law_spots law_law_net law_law_spots n_law_net n_law_right n_law_spots pm10
open K04 hiding S_law_right S_law_right_len d_law_right n_law_right pm0
open K05 hiding S_law_net S_law_net_len S_law_right S_law_right_len
open WB
theorem minK_mem {α : Type} (k : α → List Nat) : ∀ (xs : List α) (x : α), minK k x xs ∈ x :: xs
  | [], x => by simp [minK]
  | y :: r, x => by
    have := minK_mem k r (if k y < k x then y else x)
    unfold minK at this ⊢
    rw [List.foldl_cons]
    rcases List.mem_cons.mp this with h | h
    · rw [h]; split <;> simp
    · exact List.mem_cons_of_mem _ (List.mem_cons_of_mem _ h)
theorem nlt_trans {a b c : List Nat} (h1 : ¬ a < b) (h2 : ¬ b < c) : ¬ a < c := by
  have h1' : b ≤ a := List.not_lt.mp h1
  have h2' : c ≤ b := List.not_lt.mp h2
  exact List.not_lt.mpr (List.le_trans h2' h1')
theorem minK_le {α : Type} (k : α → List Nat) : ∀ (xs : List α) (x y : α), y ∈ x :: xs → ¬ k y < k (minK k x xs)
  | [], x, y, hy => by
    rw [List.mem_singleton] at hy
    subst hy
    exact List.lt_irrefl _
  | z :: r, x, y, hy => by
    have ih := minK_le k r (if k z < k x then z else x)
    show ¬ k y < k (minK k (if k z < k x then z else x) r)
    have h0 := ih _ (List.mem_cons_self ..)
    rcases List.mem_cons.mp hy with rfl | hy
    · refine nlt_trans ?_ h0
      split
      · rename_i q; exact List.lt_asymm q
      · exact List.lt_irrefl _
    · rcases List.mem_cons.mp hy with rfl | hy
      · refine nlt_trans ?_ h0
        split
        · exact List.lt_irrefl _
        · assumption
      · exact ih y (List.mem_cons_of_mem _ hy)
theorem minK_same {α : Type} (k : α → List Nat) {x y : α} {xs ys : List α} (inj : ∀ a ∈ x :: xs, ∀ b ∈ y :: ys, k a = k b → a = b) (h1 : ∀ a ∈ x :: xs, a ∈ y :: ys) (h2 : ∀ a ∈ y :: ys, a ∈ x :: xs) : minK k x xs = minK k y ys := by
  refine inj _ (minK_mem k xs x) _ (minK_mem k ys y) ?_
  have a1 := minK_le k ys y _ (h1 _ (minK_mem k xs x))
  have a2 := minK_le k xs x _ (h2 _ (minK_mem k ys y))
  exact List.le_antisymm (List.not_lt.mp a2) (List.not_lt.mp a1)
theorem minLD_map {α : Type} (f : α → D) (k : α → List Nat) : ∀ (xs : List α) (x : α), (∀ a ∈ x :: xs, ∀ b ∈ x :: xs, D.lt (f a) (f b) = decide (k a < k b)) → minLD (f x) (xs.map f) = f (minK k x xs)
  | [], x, _ => rfl
  | y :: r, x, h => by
    have e := h y (by simp) x (by simp)
    show minLD (if D.lt (f y) (f x) then f y else f x) (r.map f) = f (minK k (if k y < k x then y else x) r)
    have e2 : (if D.lt (f y) (f x) = true then f y else f x) = f (if k y < k x then y else x) := by
      rw [e]
      by_cases q : k y < k x
      · rw [decide_eq_true q, if_pos rfl, if_pos q]
      · rw [decide_eq_false q, if_neg (by simp), if_neg q]
    rw [e2]
    refine minLD_map f k r _ fun a ha b hb => h a ?_ b ?_
    · rcases List.mem_cons.mp ha with rfl | ha
      · split <;> simp
      · simp [ha]
    · rcases List.mem_cons.mp hb with rfl | hb
      · split <;> simp
      · simp [hb]
theorem kx_inj : ∀ {R S : List (Nat × Nat)}, kx R = kx S → R = S
  | [], [], _ => rfl
  | [], e :: r, h => by simp [kx] at h
  | e :: r, [], h => by simp [kx] at h
  | (a, b) :: r, (c, d) :: s, h => by
    have h' : a :: b :: kx r = c :: d :: kx s := h
    simp only [List.cons.injEq] at h'
    obtain ⟨rfl, rfl, h'⟩ := h'
    rw [kx_inj h']
theorem pre_lt : ∀ (p : List Nat) {a b : List Nat}, p ++ a < p ++ b ↔ a < b
  | [], _, _ => Iff.rfl
  | x :: p, a, b => by
    rw [List.cons_append, List.cons_append, List.cons_lt_cons_iff]
    constructor
    · rintro (h | ⟨_, h⟩)
      · omega
      · exact (pre_lt p).mp h
    · intro h; exact .inr ⟨rfl, (pre_lt p).mpr h⟩
theorem fm_lt : ∀ {R S : List (Nat × Nat)}, R.length = S.length → ((R.flatMap fun e => [32, e.1, e.2]) < (S.flatMap fun e => [32, e.1, e.2]) ↔ kx R < kx S)
  | [], [], _ => by simp [kx]
  | [], e :: r, h => by simp at h
  | e :: r, [], h => by simp at h
  | (a, b) :: r, (c, d) :: s, h => by
    have ih := fm_lt (R := r) (S := s) (by simpa using h)
    show (32 :: a :: b :: (r.flatMap fun e => [32, e.1, e.2])) < (32 :: c :: d :: (s.flatMap fun e => [32, e.1, e.2])) ↔ (a :: b :: kx r) < (c :: d :: kx s)
    simp only [List.cons_lt_cons_iff]
    rw [ih]
    simp
theorem page_lt {F : List Nat} {R S : List (Nat × Nat)} (h : R.length = S.length) : D.lt (.str (txS F R)) (.str (txS F S)) = decide (kx R < kx S) := by
  show PySem.W.dataLt (.str (txS F R)) (.str (txS F S)) = _
  rw [PySem.W.dataLt_str]
  refine decide_eq_decide.mpr ?_
  show txL F R < txL F S ↔ _
  unfold txL
  rw [pre_lt, fm_lt h]
theorem pyL_way (R : List (Nat × Nat)) : pyL (R.map wayD) = R.map fun e => PyData.str (tS e) := by
  rw [pyL_map, List.map_map]; rfl
theorem rowL_lt : ∀ {R S : List (Nat × Nat)}, R.length = S.length → PyProof.Rows.lexLt PyProof.Rows.itemOrd (PySem.W.keyToksAll (R.map fun e => PyData.str (tS e))) (PySem.W.keyToksAll (S.map fun e => PyData.str (tS e))) = decide (kx R < kx S)
  | [], [], _ => by
    rw [decide_eq_false (List.lt_irrefl _)]
    exact PyProof.Rows.lex_irrefl _
  | [], e :: r, h => by simp at h
  | e :: r, [], h => by simp at h
  | (a, b) :: r, (c, d) :: s, h => by
    have ih := rowL_lt (R := r) (S := s) (by simpa using h)
    rw [List.map_cons, List.map_cons]
    by_cases q : (a, b) = (c, d)
    · obtain ⟨rfl, rfl⟩ := Prod.mk.inj q
      rw [PySem.W.dataLt_all_yes (by simp [PySem.W.alike]) (by simp [PyData.eqv]), ih]
      refine decide_eq_decide.mpr ?_
      show _ ↔ (a :: b :: kx r) < (a :: b :: kx s)
      simp only [List.cons_lt_cons_iff]
      simp
    · have nq : tS (a, b) ≠ tS (c, d) := fun z => q (by
        have z' := congrArg (fun s : Str => s.cps.toList) z
        simp [tS] at z'
        exact Prod.ext z'.1 z'.2)
      rw [PySem.W.dataLt_all_no (by simp [PySem.W.alike]) (by simp [PyData.eqv, nq]), PySem.W.dataLt_str]
      refine decide_eq_decide.mpr ?_
      show ([a, b] : List Nat) < [c, d] ↔ (a :: b :: kx r) < (c :: d :: kx s)
      simp only [List.cons_lt_cons_iff]
      have : ¬ (a = c ∧ b = d) := fun z => q (Prod.ext z.1 z.2)
      simp
      omega
theorem row_lt {R S : List (Nat × Nat)} (h : R.length = S.length) : D.lt (.lst (R.map wayD)) (.lst (S.map wayD)) = decide (kx R < kx S) := by
  show PySem.W.dataLt (.list (pyL (R.map wayD))) (.list (pyL (S.map wayD))) = _
  rw [PySem.W.dataLt_list, pyL_way, pyL_way, rowL_lt h]
theorem fst_nd (n : Nat) : (fst' n).Nodup := nd_map List.nodup_range fun a _ b _ e => by omega
theorem fst_len (n : Nat) : (fst' n).length = n := by unfold fst'; rw [List.length_map, List.length_range]
theorem mem_rows {P : List Nat} {T R : List (Nat × Nat)} : R ∈ rows P T ↔ ∃ L, L.Perm (fst' P.length) ∧ sT (rnT P L T) = R := by
  unfold rows
  rw [List.mem_map]
  exact ⟨fun ⟨L, h1, h2⟩ => ⟨L, (mem_ords (fst_nd _)).mp h1, h2⟩, fun ⟨L, h1, h2⟩ => ⟨L, (mem_ords (fst_nd _)).mpr h1, h2⟩⟩
theorem rows_sub {P L : List Nat} {T : List (Nat × Nat)} (h : WbOk P T) (hL : LtOk L) (hl : L.length = P.length) : ∀ R ∈ rows (srt L) (rnT P L T), R ∈ rows P T := fun R hR => by
  obtain ⟨M, m1, m2⟩ := mem_rows.mp hR
  have hs : (srt L).length = P.length := by rw [srt_len, hl]
  rw [hs] at m1
  have ml : M.length = P.length := by rw [m1.length_eq, fst_len]
  rw [rn_rn h hL hl] at m2
  exact mem_rows.mpr ⟨_, (rn_perm (P := P) (by rw [ml, hl]) hL.nd).trans m1, m2⟩
theorem rows_same {P L : List Nat} {T : List (Nat × Nat)} (h : WbOk P T) (hL : LtOk L) (hl : L.length = P.length) : ∀ R, R ∈ rows (srt L) (rnT P L T) ↔ R ∈ rows P T := fun R => by
  refine ⟨rows_sub h hL hl R, fun hR => ?_⟩
  have hb := bck_perm hl hL.nd
  have := rows_sub (rn_ok h hL hl) ((lt_ok h.pl).perm hb) (by rw [hb.length_eq, srt_len, hl]) R
  rw [bck_rn h hL hl, srt_of h.pl.inc hb] at this
  exact this hR
theorem plain_same {P L : List Nat} {T : List (Nat × Nat)} (h : WbOk P T) (hL : LtOk L) (hl : L.length = P.length) : plainR (srt L) (rnT P L T) = plainR P T := by
  have hs := rows_same h hL hl
  unfold plainR
  generalize rows (srt L) (rnT P L T) = A at hs
  generalize rows P T = B at hs
  cases A with
  | nil =>
    cases B with
    | nil => rfl
    | cons b bs => exact absurd ((hs b).mpr (by simp)) (by simp)
  | cons a as =>
    cases B with
    | nil => exact absurd ((hs a).mp (by simp)) (by simp)
    | cons b bs => exact minK_same kx (fun x _ y _ e => kx_inj e) (fun x hx => (hs x).mp hx) fun x hx => (hs x).mpr hx
section
variable {P : List Nat} {f g : Nat → Nat} {E : List (Nat × Nat)}
theorem conn_tm {a b : Nat} (c : Conn E a b) : Conn (tm f E) (f a) (f b) := by
  induction c with
  | refl a => exact .refl _
  | @tie p hp => exact con_mm (List.mem_map.mpr ⟨p, hp, rfl⟩)
  | symm _ ih => exact ih.symm
  | trans _ _ i1 i2 => exact i1.trans i2
theorem conn_back (ok : Ok P E) (lo : ∀ e ∈ E, e.1 ≤ e.2) (hg : ∀ a ∈ P, g (f a) = a) {a b : Nat} (ha : a ∈ P) (hb : b ∈ P) : Conn (tm f E) (f a) (f b) ↔ Conn E a b := by
  refine ⟨fun c => ?_, conn_tm⟩
  have := conn_tm (f := g) c
  rw [tm_tm, tm_congr (g := fun a => a) ok hg, tm_id lo, hg a ha, hg b hb] at this
  exact this
theorem nc_tm {P' : List Nat} (nd' : P'.Nodup) (hp : ∀ x, x ∈ P' ↔ ∃ a ∈ P, f a = x) (nd : P.Nodup) (ok : Ok P E) (lo : ∀ e ∈ E, e.1 ≤ e.2) (hg : ∀ a ∈ P, g (f a) = a) : nc P' (tm f E) = nc P E := by
  have ex : ∀ a, ∃ l, a ∈ P → l ∈ leasts P E ∧ Conn E a l := fun a => by
    by_cases ha : a ∈ P
    · obtain ⟨l, l1, l2⟩ := least_of (E := E) a a (Nat.le_refl _) ha
      exact ⟨l, fun _ => ⟨l1, l2⟩⟩
    · exact ⟨0, fun z => absurd z ha⟩
  let r : Nat → Nat := fun a => Classical.choose (ex a)
  have hr : ∀ a ∈ P, r a ∈ leasts P E ∧ Conn E a (r a) := fun a ha => Classical.choose_spec (ex a) ha
  refine (nc_of (P := P') (E := tm f E) nd' (fun x => r (g x)) (fun x hx y hy => ?_) (vs := leasts P E) (leasts_nd nd) fun x => ?_).symm
  · obtain ⟨a, ha, rfl⟩ := (hp x).mp hx
    obtain ⟨b, hb, rfl⟩ := (hp y).mp hy
    rw [conn_back ok lo hg ha hb]
    show r (g (f a)) = r (g (f b)) ↔ _
    rw [hg a ha, hg b hb]
    obtain ⟨a1, a2⟩ := hr a ha
    obtain ⟨b1, b2⟩ := hr b hb
    constructor
    · intro e
      rw [← e] at b2
      exact a2.trans b2.symm
    · intro c
      exact least_one a1 b1 ((a2.symm.trans c).trans b2)
  · constructor
    · intro hx
      have hxP := (mem_leasts.mp hx).1
      refine ⟨f x, (hp _).mpr ⟨x, hxP, rfl⟩, ?_⟩
      show r (g (f x)) = x
      rw [hg x hxP]
      obtain ⟨a1, a2⟩ := hr x hxP
      exact (least_one hx a1 a2).symm
    · rintro ⟨y, hy, rfl⟩
      obtain ⟨a, ha, rfl⟩ := (hp y).mp hy
      show r (g (f a)) ∈ _
      rw [hg a ha]
      exact (hr a ha).1
end
section
variable {P L : List Nat} {T : List (Nat × Nat)} (h : WbOk P T) (hL : LtOk L) (hl : L.length = P.length)
include h hL hl
theorem tl_tm {I : List Nat} (hI : ∀ i ∈ I, i < T.length) : tl (rnT P L T) I = rnT P L (tl T I) := by
  unfold rnT tl tm
  rw [List.map_map]
  refine List.map_congr_left fun i hi => ?_
  have := hI i hi
  show _ = (min (ren P L (T.getD i (0, 0)).1) (ren P L (T.getD i (0, 0)).2), max (ren P L (T.getD i (0, 0)).1) (ren P L (T.getD i (0, 0)).2))
  rw [List.getD_eq_getElem?_getD, List.getElem?_map, List.getD_eq_getElem?_getD, List.getElem?_eq_getElem this]
  rfl
theorem mem_srtL (x : Nat) : x ∈ srt L ↔ ∃ a ∈ P, ren P L a = x := by
  rw [srt_mem]
  constructor
  · intro hx
    rw [← map_ren h.pl.nd hl] at hx
    exact List.mem_map.mp hx
  · rintro ⟨a, ha, rfl⟩; exact ren_mem hl ha
theorem rk_rn {E : List (Nat × Nat)} (hE : ∀ e ∈ E, e ∈ T) : rk (srt L) (rnT P L E) = rk P E := by
  unfold rk
  rw [srt_len, hl]
  congr 1
  exact nc_tm (g := ren L P) ((srt_perm L).nodup_iff.mpr hL.nd) (mem_srtL h hL hl) h.pl.nd (fun e he => h.ok e (hE e he)) (fun e he => (h.ties e (hE e he)).2.2) fun a ha => ren_inv hL.nd hl ha
theorem rk_all : rk (srt L) (rnT P L T) = rk P T := rk_rn h hL hl fun e he => he
theorem rk_lot {I : List Nat} (hI : ∀ i ∈ I, i < T.length) : rk (srt L) (tl (rnT P L T) I) = rk P (tl T I) := by
  rw [tl_tm h hL hl hI]
  exact rk_rn h hL hl (tl_mem hI)
theorem dg_rn {E : List (Nat × Nat)} (hE : ∀ e ∈ E, e ∈ T) {a : Nat} (ha : a ∈ P) : dg (rnT P L E) (ren P L a) = dg E a := by
  unfold dg rnT tm
  rw [List.map_map]
  congr 1
  refine List.map_congr_left fun e he => ?_
  obtain ⟨e1, e2, _⟩ := h.ties e (hE e he)
  have c : ∀ x ∈ P, (ren P L x = ren P L a ↔ x = a) := fun x hx => ⟨ren_inj hL.nd hl hx ha, fun z => by rw [z]⟩
  show ht (min (ren P L e.1) (ren P L e.2), max (ren P L e.1) (ren P L e.2)) (ren P L a) = ht e a
  unfold ht
  rcases Nat.le_total (ren P L e.1) (ren P L e.2) with q | q
  · rw [Nat.min_eq_left q, Nat.max_eq_right q]
    simp only [c _ e1, c _ e2]
  · rw [Nat.min_eq_right q, Nat.max_eq_left q]
    simp only [c _ e1, c _ e2]
    omega
theorem evn_rn {I : List Nat} (hI : ∀ i ∈ I, i < T.length) : Evn (srt L) (tl (rnT P L T) I) ↔ Evn P (tl T I) := by
  rw [tl_tm h hL hl hI]
  unfold Evn
  constructor
  · intro k a ha
    have := k _ ((mem_srtL h hL hl _).mpr ⟨a, ha, rfl⟩)
    rw [dg_rn h hL hl (tl_mem hI) ha] at this
    exact this
  · intro k x hx
    obtain ⟨a, ha, rfl⟩ := (mem_srtL h hL hl x).mp hx
    rw [dg_rn h hL hl (tl_mem hI) ha]
    exact k a ha
theorem rnd_rn {I : List Nat} (hI : ∀ i ∈ I, i < T.length) : Rnd (srt L) (rnT P L T) I ↔ Rnd P T I := by
  unfold Rnd
  rw [rk_lot h hL hl hI]
  have : ∀ k, rk (srt L) (tl (rnT P L T) (out I k)) = rk P (tl T (out I k)) := fun k => rk_lot h hL hl fun i hi => hI i (mem_out.mp hi).1
  simp only [this]
theorem rn_len : (rnT P L T).length = T.length := tm_len _ _
open Classical in
theorem rngs_rn : rngs (srt L) (rnT P L T) = rngs P T := by
  unfold rngs
  rw [rn_len h hL hl]
  refine List.filter_congr fun I hI => decide_eq_decide.mpr ?_
  have hI := (lots_mem.mp hI).inb
  rw [evn_rn h hL hl hI, rnd_rn h hL hl hI]
theorem blk_rn : blk (srt L) (rnT P L T) = blk P T := by
  unfold blk
  rw [rngs_rn h hL hl, rn_len h hL hl]
open Classical in
theorem trees_rn : trees (srt L) (rnT P L T) = trees P T := by
  unfold trees
  rw [rn_len h hL hl]
  refine List.filter_congr fun I hI => decide_eq_decide.mpr ?_
  have hI := (lots_mem.mp hI).inb
  constructor
  · rintro ⟨a, b, c⟩
    rw [rn_len h hL hl] at a
    rw [rk_all h hL hl] at b c
    rw [rk_lot h hL hl hI] at c
    exact ⟨a, b, c⟩
  · rintro ⟨a, b, c⟩
    refine ⟨by rw [rn_len h hL hl]; exact a, by rw [rk_all h hL hl]; exact b, by rw [rk_all h hL hl, rk_lot h hL hl hI]; exact c⟩
theorem cI_rn (i j : Nat) : cI (srt L) (rnT P L T) i j = cI P T i j := by
  unfold cI cN
  rw [rn_len h hL hl]
  congr 1
  refine List.countP_congr fun I hI => ?_
  have hI := (lots_mem.mp hI).inb
  rw [rk_lot h hL hl hI, rk_all h hL hl]
theorem tE_rn : tE (srt L) (rnT P L T) = tE P T := by
  unfold tE
  have : cI (srt L) (rnT P L T) = cI P T := funext fun i => funext fun j => cI_rn h hL hl i j
  rw [this]
  unfold hi wi
  rw [rk_all h hL hl, rn_len h hL hl]
theorem hi_rn : hi (srt L) (rnT P L T) = hi P T := rk_all h hL hl
theorem wi_rn : wi (srt L) (rnT P L T) = wi P T := by unfold wi; rw [rk_all h hL hl, rn_len h hL hl]
end
end K06
namespace K06
open PySem L2 G
open T hiding S_are_letters S_are_letters_len S_law_lots S_law_parts ckOk
open SH hiding sb
open K10 hiding S_every_lot S_every_lot_len S_law_right S_law_right_len d_every_lot d_law_right fl law_every_lot n_every_lot n_law_right pm0 pm120 rest rng_in sum_add
open K15 hiding S_law_right S_law_right_len d_law_right n_law_right pm0
open K03 hiding S_law_net S_law_net_len S_law_right S_law_right_len S_law_spots S_law_spots_len d_law_net d_law_right d_law_spots law_law_net law_law_spots n_law_net n_law_right n_law_spots pm10
open K04 hiding S_law_right S_law_right_len d_law_right n_law_right pm0
open K05 hiding S_law_net S_law_net_len S_law_right S_law_right_len
open WB
theorem law_are_letters : ∀ as m Q, S_are_letters as m Q → d_are_letters (padn n_are_letters as) m (fin Q) := by
  rintro as m Q ⟨P, hP, rfl, q⟩
  have hl : P.length ≤ LL := Nat.le_trans hP.few (by decide)
  refine ⟨_, rfl, true, rfl, true, rfl, ?_⟩
  refine ⟨_, rfl, _, rfl, ?_, ?_⟩
  · rw [chars_plS, List.length_map]; exact hl
  · rw [chars_plS]
    refine dk_nodup _ rfl P [] m _ hP.nd (fun _ _ _ h => by simp at h) ?_
    refine ⟨_, rfl, .int (P.length : Nat), if_pos hl, .bl false, ?_, false, rfl, ?_⟩
    · show neD (.int _) (.int _) = _
      simp [neD, eqB_int]
    · refine ⟨_, rfl, _, rfl, ?_, ?_⟩
      · rw [chars_plS, List.length_map]; exact hl
      · rw [chars_plS]
        refine lcR_m (fun a => D.str (c1 a)) (fun _ => .bl true) P m _ (fun a ha => ⟨_, rfl, fun m Q q => ⟨_, rfl, _, letters_in a (hP.let8 a ha), q⟩⟩) ?_
        exact ⟨_, all_true P, q⟩
theorem law_are_places : ∀ as m Q, S_are_places as m Q → d_are_places (padn n_are_places as) m (fin Q) := by
  rintro as m Q ⟨P, hP, rfl, q⟩
  have hl : P.length ≤ LL := Nat.le_trans hP.few (by decide)
  refine ⟨_, rfl, P, lt_ok hP, rfl, true, rfl, ?_⟩
  refine ⟨_, rfl, .int (P.length : Nat), if_pos hl, true, ?_, ?_⟩
  · show some (D.bl (decide ((0 : Int) < (P.length : Nat)))) = _
    rw [decide_eq_true (by have := hP.pos; omega)]
  · refine ⟨.bl true, ?_, true, rfl, ?_⟩
    · show some (D.bl (decide (((P.length : Nat) : Int) ≤ 7))) = _
      rw [decide_eq_true (by have := hP.few; omega)]
    · refine ⟨_, rfl, P.map fun a => D.str (c1 a), if_pos hl, _, rfl, P.map fun a => D.str (c1 a), ?_, .bl true, ?_, q⟩
      · show (if _ then some (sortL (charsD (plS P))) else none) = _
        rw [if_pos (by rw [plS_len]; exact hl), chars_plS, sort_c1 hP.inc]
      · show (deepEq _ _).map _ = _
        unfold deepEq
        have hk := okdL_c1 59 P fun a ha => by have := hP.let8 a ha; omega
        rw [if_pos (by simp only [D.okd, hk]; rfl)]
        simp only [D.py]
        show some (D.bl (PyData.eqvAll _ _)) = _
        rw [eqvL_self_c1]
theorem zip_ren {P L : List Nat} (nd : P.Nodup) (hl : L.length = P.length) : P.zip L = P.map fun a => (a, ren P L a) := by
  conv => lhs; rw [← map_ren nd hl]
  have := List.zip_map' (f := id) (g := ren P L) (l := P)
  rw [List.map_id] at this
  rw [map_ren nd hl] at this ⊢
  exact this
theorem merge_hd {P : List Nat} (nd : P.Nodup) (h : Nat → Nat) : kvMerge [] (P.map fun a => ((.inr (c1 a) : Key), D.str (c1 (h a)))) = hdK P h := by
  have : ∀ (r l : List Nat), (l ++ r).Nodup → kvMerge (hdK l h) (r.map fun a => ((.inr (c1 a) : Key), D.str (c1 (h a)))) = hdK (l ++ r) h := by
    intro r
    induction r with
    | nil => intro l _; rw [List.append_nil]; rfl
    | cons b r ih =>
      intro l nd
      have nb : b ∉ l := fun z => (List.nodup_append.mp nd).2.2 b z b (by simp) rfl
      have e := K10.hd_new (h := h) nb
      have e2 : l ++ b :: r = (l ++ [b]) ++ r := by simp
      rw [e2] at nd ⊢
      rw [← ih (l ++ [b]) nd, ← e]
      rfl
  exact this P [] (by simpa using nd)
theorem prs_h (h : Nat → Nat) (P : List Nat) : prs (P.map fun a => D.tup [.str (c1 a), .str (c1 (h a))]) = some (P.map fun a => ((.inr (c1 a) : Key), D.str (c1 (h a)))) := by
  induction P with
  | nil => rfl
  | cons a r ih =>
    rw [List.map_cons]
    unfold prs
    rw [ih]
    rfl
theorem zkd_hd {P L : List Nat} (nd : P.Nodup) (hl : L.length = P.length) : kvMerge [] (zkd (plS P) (plS L)) = hdK P (ren P L) := by
  rw [← merge_hd nd]
  congr 1
  show ((P.toArray.toList.zip L.toArray.toList).map fun p => ((.inr ⟨#[p.1]⟩ : Key), D.str ⟨#[p.2]⟩)) = _
  rw [zip_ren nd hl, List.map_map]
  rfl
theorem law_with_letters : ∀ as m Q, S_with_letters as m Q → d_with_letters (padn n_with_letters as) m (fin Q) := by
  rintro as m Q ⟨P, T, L, hW, hL, hl, rfl, q⟩
  have hll := llv
  have h11 := hW.few
  have h7 := hL.few
  have hP7 := hW.pl.few
  refine ⟨_, rfl, plS P, T.map tS, rfl, plS P, rfl, by rw [plS_len]; omega, _, rfl, plS L, rfl, ?_⟩
  rw [zkd_hd hW.pl.nd hl]
  refine ⟨rfl, _, rfl, _, sorted_pl (by omega), _, joinD_c1 _ (by rw [srt_len]; omega), ?_⟩
  refine ⟨_, rfl, plS P, T.map tS, rfl, (T.map tS).map D.str, rfl, by rw [List.length_map, List.length_map]; omega, ?_⟩
  rw [ts_map]
  refine lcR_m wayD (fun e => wayD (min (ren P L e.1) (ren P L e.2), max (ren P L e.1) (ren P L e.2))) T m _ (fun e he => ⟨_, rfl, fun m Q q => ?_⟩) ?_
  · obtain ⟨h1, h2, _⟩ := hW.ties e he
    exact ⟨_, rfl, _, rfl, _, ix0 e, _, dix_c h1, _, rfl, _, rfl, _, ix1 e, _, dix_c h2, _, _, rfl, q⟩
  · refine ⟨_, rfl, srt L, rnT P L T, rn_ok hW hL hl, ?_, q⟩
    unfold rnT tm
    rw [List.map_map]; rfl
theorem law_renamed : ∀ as m Q, S_renamed as m Q → d_renamed (padn n_renamed as) m (fin Q) := by
  rintro as m Q ⟨P, T, L, hW, hL, hl, rfl, q⟩
  have hll := llv
  have h7 := hL.few
  have hP7 := hW.pl.few
  refine ⟨_, rfl, P, T, rfl, _, rfl, L, hL, rfl, _, rfl, _, rfl, _, len_pl (by omega), _, rfl, plS P, T.map tS, rfl, _, len_pl (by omega), _, ne_nat _ _, _, rfl, ?_⟩
  rw [hl]
  simp only [ne_eq, not_true, decide_false, Bool.not_true, Bool.or_false]
  exact ⟨_, rfl, _, rfl, P, T, L, hW, hL, hl, rfl, q⟩
theorem rng_ren {α : Type} {P L : List Nat} (nd : P.Nodup) (hl : L.length = P.length) (F : Nat → Nat → α) : ((List.range P.length).map fun i => F (P.getD i 0) (L.getD i 0)) = P.map fun a => F a (ren P L a) := by
  refine List.ext_getElem (by simp) fun i h1 h2 => ?_
  have hp : i < P.length := by simpa using h1
  have hL : i < L.length := by omega
  rw [List.getElem_map, List.getElem_map, List.getElem_range, ren_at nd hp hL, List.getD_eq_getElem?_getD, List.getD_eq_getElem?_getD, List.getElem?_eq_getElem hp, List.getElem?_eq_getElem hL]
  rfl
theorem get_d {L : List Nat} {i : Nat} (h : i < L.length) : L[i]? = some (L.getD i 0) := by
  rw [List.getD_eq_getElem?_getD, List.getElem?_eq_getElem h]; rfl
theorem law_law_by : ∀ as m Q, S_law_by as m Q → d_law_by (padn n_law_by as) m (fin Q) := by
  rintro as m Q ⟨P, T, L, hW, hL, hl, rfl, q⟩
  have hll := llv
  have h11 := hW.few
  have h7 := hL.few
  have hP7 := hW.pl.few
  refine ⟨_, rfl, _, len_pl (by omega), (L.length : Nat), rfl, by omega, by omega, ?_⟩
  rw [natD_map, hl]
  refine ⟨by rw [List.length_map, List.length_range]; omega, ?_⟩
  refine lcR_m natD (fun i => D.tup [cD (P.getD i 0), cD (L.getD i 0)]) (List.range P.length) m _ (fun i hi => ⟨_, rfl, fun m Q q => ?_⟩) ?_
  · have hi := List.mem_range.mp hi
    exact ⟨_, rfl, _, rfl, _, rfl, _, ix_pl (by omega) (get_d hi), _, rfl, _, rfl, _, ix_pl (by omega) (get_d (by omega)), by show 2 ≤ LL; omega, q⟩
  rw [rng_ren hW.pl.nd hl fun a b => D.tup [cD a, cD b]]
  refine ⟨_, _, rfl, prs_h (ren P L) P, ?_⟩
  rw [merge_hd hW.pl.nd]
  refine ⟨_, rfl, _, rfl, T.map wayD, rfl, by rw [List.length_map]; omega, ?_⟩
  refine lcR_m wayD (fun e => wayD (min (ren P L e.1) (ren P L e.2), max (ren P L e.1) (ren P L e.2))) T m _ (fun e he => ⟨_, rfl, fun m Q q => ?_⟩) ?_
  · obtain ⟨h1, h2, _⟩ := hW.ties e he
    exact ⟨_, rfl, _, rfl, _, ix0 e, _, dix_c h1, _, rfl, _, rfl, _, ix1 e, _, dix_c h2, _, _, rfl, q⟩
  · refine ⟨rfl, _, rfl, _, sorted_pl (by omega), _, joinD_c1 _ (by rw [srt_len]; omega), _, rfl, by show 2 ≤ LL; omega, ?_⟩
    have e1 : netD (srt L) (rnT P L T) = .tup [plD (srt L), .lst (T.map fun e => wayD (min (ren P L e.1) (ren P L e.2), max (ren P L e.1) (ren P L e.2)))] := by
      unfold netD rnT tm
      rw [List.map_map]; rfl
    rw [e1] at q
    exact q
theorem page_join {P : List Nat} {R : List (Nat × Nat)} (h1 : P.length ≤ 7) (h2 : R.length ≤ 11) : ∃ z, addD (.lst [plD P]) (.lst (R.map wayD)) = some z ∧ joinD (.str " ") [z] = some (.str (txS P R)) := by
  have hll := llv
  refine ⟨.lst ((plS P :: R.map tS).map D.str), ?_, ?_⟩
  · show (if 1 + (R.map wayD).length ≤ LL then some (D.lst ([plD P] ++ R.map wayD)) else none) = _
    rw [if_pos (by rw [List.length_map]; omega), ← ts_map]; rfl
  · show (strsD _).bind _ = _
    rw [strsD_of]
    show (if joinOk " " (plS P :: R.map tS) then some (D.str (Txt.join " " (plS P :: R.map tS))) else none) = _
    rw [if_pos, WB.join_tx]
    unfold joinOk
    rw [WB.sum_tx]
    refine decide_eq_true ?_
    rw [List.length_cons, List.length_map]
    show P.length + 2 * R.length + (R.length + 1) * 1 ≤ _
    omega
theorem law_law_page : ∀ as m Q, S_law_page as m Q → d_law_page (padn n_law_page as) m (fin Q) := by
  rintro as m Q ⟨P, T, hW, rfl, q⟩
  have hll := llv
  obtain ⟨z, e1, e2⟩ := page_join (P := P) (R := T) hW.pl.few hW.few
  exact ⟨rfl, _, rfl, _, rfl, by show 1 ≤ LL; omega, _, rfl, _, rfl, _, rfl, _, e1, _, e2, q⟩
theorem notin_pl (a : Nat) (P : List Nat) : notInD (cD a) (plD P) = some (.bl (decide (a ∉ P))) := by
  have : notInD (cD a) (plD P) = some (.bl (!decide (a ∈ P))) := rfl
  rw [this]
  congr 2
  by_cases h : a ∈ P <;> simp [h]
theorem lc2_ord (L : List Nat) (hL : L.length ≤ 7) (e1 e2 e3 e4 : Sl) : ∀ (xs : List (List Nat)) (m : Nat) (Q : List D → Nat → Prop), (∀ o ∈ xs, o.length ≤ 10) → Q ((xs.flatMap fun o => (L.filter fun c => decide (c ∉ o)).map fun c => o ++ [c]).map plD) m →
    Lc2R (tgN 3) dYes (dISrc (dVar 0)) (tgN 4) (dTest (dOp notInD (dVarB 4) (dVarB 3))) (dOp addD (dVarB 3) (dVarB 4)) [4] [.val (plD L), e1, e2, e3, e4] (xs.map plD) m Q
  | [], m, Q, _, q => q
  | o :: r, m, Q, h, q => by
    refine ⟨_, rfl, ?_⟩
    dsimp only [dYes]
    rw [if_pos rfl]
    refine ⟨_, rfl, L.map cD, rfl, by rw [List.length_map]; omega, ?_⟩
    refine lcR_fm cD (fun c => decide (c ∉ o)) (fun c => plD (o ++ [c])) L m _ (fun c hc => ⟨_, rfl, fun m Q q => ⟨_, rfl, _, rfl, _, notin_pl c o, _, rfl, q⟩, fun _ m Q q => ⟨_, rfl, _, rfl, _, K03.add_pl (h o (by simp)), q⟩⟩) ?_
    refine lc2_ord L hL e1 e2 e3 e4 r m _ (fun o ho => h o (by simp [ho])) ?_
    rw [List.flatMap_cons, List.map_append, List.map_map] at q
    exact q
theorem law_all_orders : ∀ as m Q, S_all_orders as m Q → d_all_orders (padn n_all_orders as) m (fin Q) := by
  rintro as m Q ⟨L, nd, h4, rfl, q⟩
  have hll := llv
  refine ⟨by show 1 ≤ LL; omega, ?_⟩
  refine ⟨_, rfl, _, len_pl (by omega), (L.length : Nat), rfl, by omega, by omega, ?_⟩
  rw [natD_map]
  refine forR_rg natD L.length (fun i env m' => m' = m ∧ ∃ (x2 x3 x4 : Sl), env = [.val (plD L), .val (.lst ((ordN L i).map plD)), x2, x3, x4]) ?_ ?_ _ _ ⟨rfl, .no, .no, .no, rfl⟩
  · rintro env m' ⟨rfl, x2, x3, x4, rfl⟩
    exact ⟨_, rfl, q⟩
  · rintro i hi env m' ⟨rfl, x2, x3, x4, rfl⟩
    have h24 := ordN_24 nd h4 (Nat.le_of_lt hi)
    refine ⟨_, rfl, fun K hK => ?_⟩
    refine ⟨_, rfl, (ordN L i).map plD, rfl, by rw [List.length_map]; omega, ?_⟩
    refine lc2_ord L (by omega) _ _ _ _ (ordN L i) m' _ (fun o ho => by have := ((mem_ordN (o := o)).mp ho).2.1; omega) ?_
    exact hK _ _ ⟨rfl, _, _, _, rfl⟩
theorem law_law_orders : ∀ as m Q, S_law_orders as m Q → d_law_orders (padn n_law_orders as) m (fin Q) := by
  rintro as m Q ⟨L, nd, h4, rfl, q⟩
  have hll := llv
  refine ⟨by show 1 ≤ LL; omega, ?_⟩
  refine ⟨_, rfl, L.map cD, rfl, ?_⟩
  refine forR_l cD L (fun i env m' => m' = m ∧ ∃ (x2 x3 x4 x5 : Sl), env = [.val (plD L), .val (.lst ((ordN L i).map plD)), x2, x3, x4, x5]) ?_ ?_ _ _ ⟨rfl, .no, .no, .no, .no, rfl⟩
  · rintro env m' ⟨rfl, x2, x3, x4, x5, rfl⟩
    exact ⟨_, rfl, q⟩
  · rintro i c hc env m' ⟨rfl, x2, x3, x4, x5, rfl⟩
    have hi := (List.getElem?_eq_some_iff.mp hc).1
    have h24 := ordN_24 nd h4 (Nat.succ_le_of_lt hi)
    refine ⟨_, rfl, fun K hK => ?_⟩
    refine ⟨by show 0 ≤ LL; omega, ?_⟩
    refine ⟨_, rfl, (ordN L i).map plD, rfl, ?_⟩
    let g : List Nat → List (List Nat) := fun o => (L.filter fun c => decide (c ∉ o)).map fun c => o ++ [c]
    refine forR_l plD (ordN L i) (fun j env m'' => m'' = m' ∧ ∃ (x4 x5 : Sl), env = [.val (plD L), .val (.lst ((ordN L i).map plD)), .val (cD c), .val (.lst ((((ordN L i).take j).flatMap g).map plD)), x4, x5]) ?_ ?_ _ _ ⟨rfl, x4, x5, rfl⟩
    · rintro env m'' ⟨rfl, x4, x5, rfl⟩
      rw [List.take_length]
      exact ⟨_, rfl, hK _ _ ⟨rfl, _, _, _, _, rfl⟩⟩
    · rintro j o ho env m'' ⟨rfl, x4, x5, rfl⟩
      have hom := List.mem_of_getElem? ho
      have hol := ((mem_ordN (o := o)).mp hom).2.1
      refine ⟨_, rfl, fun K2 hK2 => ?_⟩
      refine ⟨_, rfl, _, rfl, L.map cD, rfl, by rw [List.length_map]; omega, ?_⟩
      refine lcR_fm cD (fun c => decide (c ∉ o)) (fun c => plD (o ++ [c])) L m'' _ (fun c hc => ⟨_, rfl, fun m Q q => ⟨_, rfl, _, rfl, _, notin_pl c o, _, rfl, q⟩, fun _ m Q q => ⟨_, rfl, _, rfl, _, K03.add_pl (by omega), q⟩⟩) ?_
      have e1 : ((ordN L i).take (j + 1)).flatMap g = ((ordN L i).take j).flatMap g ++ g o := by
        rw [List.take_add_one, ho, List.flatMap_append]
        simp
      have hlen : (((ordN L i).take (j + 1)).flatMap g).length ≤ 24 := by
        refine Nat.le_trans (List.Sublist.length_le ?_) h24
        show List.Sublist _ (ordN L (i + 1))
        have : (ordN L (i + 1)) = ((ordN L i).take (j + 1)).flatMap g ++ ((ordN L i).drop (j + 1)).flatMap g := by
          rw [← List.flatMap_append, List.take_append_drop]; rfl
        rw [this]
        exact List.sublist_append_left ..
      have e2 : addD (.lst ((((ordN L i).take j).flatMap g).map plD)) (.lst ((L.filter fun c => decide (c ∉ o)).map fun c => plD (o ++ [c]))) = some (.lst ((((ordN L i).take (j + 1)).flatMap g).map plD)) := by
        rw [e1] at hlen ⊢
        rw [List.length_append] at hlen
        have e3 : ((L.filter fun c => decide (c ∉ o)).map fun c => plD (o ++ [c])) = (g o).map plD := by
          show _ = ((L.filter fun c => decide (c ∉ o)).map fun c => o ++ [c]).map plD
          rw [List.map_map]; rfl
        rw [e3, List.map_append]
        exact if_pos (by rw [List.length_map, List.length_map]; omega)
      exact ⟨_, e2, hK2 _ _ ⟨rfl, _, _, rfl⟩⟩
theorem strOk_way {P : List Nat} {T : List (Nat × Nat)} (h : WbOk P T) : ∀ e ∈ T, PyData.strOk (tS e) = true := fun e he => by
  obtain ⟨h1, h2, _⟩ := h.ties e he
  have := h.pl.let8 _ h1
  have := h.pl.let8 _ h2
  have e1 : tS e = plS [e.1, e.2] := rfl
  rw [e1]
  refine strOk_pl fun a ha => ?_
  simp at ha
  omega
theorem sort_way (E : List (Nat × Nat)) : sortL (E.map wayD) = (sT E).map wayD := by
  unfold sortL sT
  exact (List.map_mergeSort (r := fun a b : Nat × Nat => !D.lt (wayD b) (wayD a)) (s := fun a b : D => !D.lt b a) (f := wayD) (l := E) (fun a _ b _ => rfl)).symm
theorem sortOk_way {P : List Nat} {T : List (Nat × Nat)} (h : WbOk P T) : sortOk (T.map wayD) = true := by
  have hll := llv
  have h11 := h.few
  unfold sortOk
  simp only [Bool.and_eq_true, Bool.or_eq_true]
  refine ⟨⟨⟨?_, .inr ?_⟩, ?_⟩, decide_eq_true (by rw [List.length_map]; omega)⟩
  · unfold alikeL
    rw [List.all_eq_true]
    intro x hx
    rw [List.all_eq_true]
    intro y hy
    obtain ⟨a, _, rfl⟩ := List.mem_map.mp hx
    obtain ⟨b, _, rfl⟩ := List.mem_map.mp hy
    rfl
  · rw [List.all_eq_true]
    intro x hx
    obtain ⟨a, _, rfl⟩ := List.mem_map.mp hx
    rfl
  · rw [List.all_eq_true]
    intro x hx
    obtain ⟨a, ha, rfl⟩ := List.mem_map.mp hx
    exact strOk_way h a ha
theorem sorted_T {P : List Nat} {T : List (Nat × Nat)} (h : WbOk P T) : sortedTD [.tup (T.map wayD)] = some ((sT T).map wayD) := by
  show (if sortOk (T.map wayD) then some (sortL (T.map wayD)) else none) = _
  rw [if_pos (sortOk_way h), sort_way]
theorem sorted_L {P : List Nat} {T : List (Nat × Nat)} (h : WbOk P T) : sortedD [.lst (T.map wayD)] = some ((sT T).map wayD) := by
  show (if sortOk (T.map wayD) then some (sortL (T.map wayD)) else none) = _
  rw [if_pos (sortOk_way h), sort_way]
theorem law_drawn : ∀ as m Q, S_drawn as m Q → d_drawn (padn n_drawn as) m (fin Q) := by
  rintro as m Q ⟨P, T, hW, rfl, q⟩
  have hll := llv
  refine ⟨_, rfl, plS P, T.map tS, rfl, _, rfl, plS P, T.map tS, rfl, _, ?_, by show 2 ≤ LL; omega, q⟩
  rw [ts_map]
  exact sorted_T hW
end K06
namespace K06
open PySem L2 G
open T hiding S_are_letters S_are_letters_len S_law_lots S_law_parts ckOk
open SH hiding sb
open K10 hiding S_every_lot S_every_lot_len S_law_right S_law_right_len d_every_lot d_law_right fl law_every_lot n_every_lot n_law_right pm0 pm120 rest rng_in sum_add
open K15 hiding S_law_right S_law_right_len d_law_right n_law_right pm0
open K03 hiding S_law_net S_law_net_len S_law_right S_law_right_len S_law_spots S_law_spots_len d_law_net d_law_right d_law_spots law_law_net law_law_spots n_law_net n_law_right n_law_spots pm10
open K04 hiding S_law_right S_law_right_len d_law_right n_law_right pm0
open K05 hiding S_law_net S_law_net_len S_law_right S_law_right_len
open WB
theorem eqv_tS (a b : Nat × Nat) : PyData.eqv (wayD a).py (wayD b).py = decide (a = b) := by
  show PyData.eqv (.str (tS a)) (.str (tS b)) = _
  by_cases h : a = b
  · subst h; simp [PyData.eqv]
  · rw [decide_eq_false h]
    have : tS a ≠ tS b := fun z => h (by
      have z' := congrArg (fun s : Str => s.cps.toList) z
      simp [tS] at z'
      exact Prod.ext z'.1 z'.2)
    simp [PyData.eqv, this]
theorem eqv_ways : ∀ A B : List (Nat × Nat), PyData.eqvAll (pyL (A.map wayD)) (pyL (B.map wayD)) = decide (A = B)
  | [], [] => by simp [pyL, PyData.eqvAll]
  | [], b :: B => by simp [pyL, PyData.eqvAll]
  | a :: A, [] => by simp [pyL, PyData.eqvAll]
  | a :: A, b :: B => by
    simp only [List.map_cons, pyL, PyData.eqvAll]
    rw [eqv_tS, eqv_ways A B]
    by_cases h1 : a = b <;> by_cases h2 : A = B <;> simp [h1, h2]
theorem okd_ways {R : List (Nat × Nat)} (h : ∀ e ∈ R, PyData.strOk (tS e) = true) (n : Nat) : okdL (R.map wayD) n = true := SE.okdL_all fun d hd => by
  obtain ⟨e, he, rfl⟩ := List.mem_map.mp hd
  exact h e he
theorem strOk_sT {P : List Nat} {T : List (Nat × Nat)} (h : WbOk P T) : ∀ e ∈ sT T, PyData.strOk (tS e) = true := fun e he => strOk_way h e ((sT_perm T).mem_iff.mp he)
theorem okd_row {R : List (Nat × Nat)} (h : ∀ e ∈ R, PyData.strOk (tS e) = true) (n : Nat) : (D.lst (R.map wayD)).okd (n + 1) = true := by
  unfold D.okd
  rw [show n + 1 - 1 = n from rfl, okd_ways h]; simp
theorem eq_rows {A B : List (Nat × Nat)} (hA : ∀ e ∈ A, PyData.strOk (tS e) = true) (hB : ∀ e ∈ B, PyData.strOk (tS e) = true) : eqD (.lst (A.map wayD)) (.lst (B.map wayD)) = some (.bl (decide (A = B))) := by
  show (deepEq _ _).map _ = _
  unfold deepEq
  rw [okd_row hA 59, okd_row hB 59]
  show some (D.bl (PyData.eqv (.list (pyL (A.map wayD))) (.list (pyL (B.map wayD))))) = _
  rw [show PyData.eqv (.list (pyL (A.map wayD))) (.list (pyL (B.map wayD))) = PyData.eqvAll (pyL (A.map wayD)) (pyL (B.map wayD)) by simp [PyData.eqv], eqv_ways]
theorem strOk_P {P : List Nat} (h : PlOk P) : PyData.strOk (plS P) = true := strOk_pl fun a ha => by have := h.let8 a ha; omega
theorem eq_drawn {P : List Nat} {A B : List (Nat × Nat)} (hP : PlOk P) (hA : ∀ e ∈ A, PyData.strOk (tS e) = true) (hB : ∀ e ∈ B, PyData.strOk (tS e) = true) : eqD (.tup [plD P, .lst (A.map wayD)]) (.tup [plD P, .lst (B.map wayD)]) = some (.bl (decide (A = B))) := by
  show (deepEq _ _).map _ = _
  have ok : ∀ R : List (Nat × Nat), (∀ e ∈ R, PyData.strOk (tS e) = true) → (D.tup [plD P, .lst (R.map wayD)]).okd 60 = true := fun R hR => by
    unfold D.okd
    rw [SE.okdL_all fun d hd => ?_]
    · simp
    · simp only [List.mem_cons, List.not_mem_nil, or_false] at hd
      rcases hd with rfl | rfl
      · exact strOk_P hP
      · exact okd_row hR 58
  unfold deepEq
  rw [ok A hA, ok B hB]
  show some (D.bl (PyData.eqv (.tuple [.str (plS P), .list (pyL (A.map wayD))]) (.tuple [.str (plS P), .list (pyL (B.map wayD))]))) = _
  simp only [PyData.eqv, PyData.eqvAll]
  rw [eqv_ways]
  simp
theorem law_renamings_to : ∀ as m Q, S_renamings_to as m Q → d_renamings_to (padn n_renamings_to as) m (fin Q) := by
  rintro as m Q ⟨P, T, hW, h4, rfl, q⟩
  have hll := llv
  refine ⟨_, rfl, plS P, T.map tS, rfl, _, len_pl (by omega), _, rfl, plS P, T.map tS, rfl, _, len_pl (by omega), _, ne_nat _ _, _, rfl, ?_⟩
  rw [decide_eq_false (show ¬ P.length ≠ P.length by simp)]
  refine ⟨_, rfl, _, lenW P T, _, rfl, _, lenW P T, _, ne_nat _ _, _, rfl, ?_⟩
  rw [decide_eq_false (show ¬ T.length ≠ T.length by simp)]
  refine ⟨_, rfl, P, T, hW, rfl, ?_⟩
  refine ⟨_, rfl, plS P, T.map tS, rfl, P, hW.pl.nd, h4, rfl, (ords P).map plD, rfl, by rw [List.length_map]; have := ords_24 hW.pl.nd h4; omega, ?_⟩
  refine lcR_fm plD (fun L => decide (sT (rnT P L T) = sT T)) plD (ords P) m _ (fun L hL => ⟨_, rfl, fun m Q q => ?_, fun _ m Q q => ⟨_, rfl, q⟩⟩) q
  have pL := (mem_ords hW.pl.nd).mp hL
  have hLt := (lt_ok hW.pl).perm pL
  have wR := rn_ok hW hLt pL.length_eq
  refine ⟨_, rfl, _, rfl, P, T, L, hW, hLt, pL.length_eq, rfl, srt L, rnT P L T, wR, rfl, _, rfl, _, ?_, _, rfl, q⟩
  rw [srt_of hW.pl.inc pL]
  exact eq_drawn hW.pl (strOk_sT wR) (strOk_sT hW)
theorem law_count_renamings : ∀ as m Q, S_count_renamings as m Q → d_count_renamings (padn n_count_renamings as) m (fin Q) := by
  rintro as m Q ⟨P, T, hW, h4, rfl, q⟩
  exact ⟨_, rfl, P, T, rfl, _, rfl, _, rfl, P, T, hW, h4, rfl, _, len_lst plD _, q⟩
theorem slice_to {P : List Nat} (hl : P.length ≤ LL) {k : Nat} (h : k ≤ P.length) : sliceD (plD P) none (some ((k : Nat) : Int)) = some (plD (P.take k)) := by
  show (if (plS P).length ≤ LL then some (D.str (cutS (plS P) none (some ((k : Nat) : Int)))) else none) = _
  rw [if_pos (by rw [plS_len]; exact hl)]
  have e : cutS (plS P) none (some ((k : Nat) : Int)) = plS (cutL P none (some ((k : Nat) : Int))) := rfl
  rw [e, cut_to P h]
theorem slice_abc {n : Nat} (h : n ≤ 8) : sliceD (.str "abcdefgh") none (some ((n : Nat) : Int)) = some (plD (fst' n)) := by
  have hll := llv
  have e : (Str.ofString "abcdefgh") = plS (fst' 8) := by decide +kernel
  show sliceD (.str (Str.ofString "abcdefgh")) none (some ((n : Nat) : Int)) = _
  rw [e, slice_to (P := fst' 8) (by rw [fst_len]; omega) (by rw [fst_len]; exact h)]
  have : ∀ n, n ≤ 8 → (fst' 8).take n = fst' n := by decide
  rw [this n h]
theorem fst_ok {n : Nat} (h0 : 0 < n) (h7 : n ≤ 7) : LtOk (fst' n) := ⟨fst_nd n, fun a ha => by
  unfold fst' at ha
  obtain ⟨i, hi, rfl⟩ := List.mem_map.mp ha
  have := List.mem_range.mp hi
  omega, by rw [fst_len]; exact h0, by rw [fst_len]; exact h7⟩
theorem rows_ok {P : List Nat} {T R : List (Nat × Nat)} (h : WbOk P T) (hR : R ∈ rows P T) : R.length = T.length ∧ ∀ e ∈ R, PyData.strOk (tS e) = true := by
  obtain ⟨L, pL, rfl⟩ := mem_rows.mp hR
  have hl : L.length = P.length := by rw [pL.length_eq, fst_len]
  have hLt := (fst_ok h.pl.pos h.pl.few).perm pL
  exact ⟨by rw [sT_len]; exact tm_len _ _, strOk_sT (rn_ok h hLt hl)⟩
theorem rows_ne {P : List Nat} {T : List (Nat × Nat)} : rows P T ≠ [] := fun z => by
  have : sT (rnT P (fst' P.length) T) ∈ rows P T := mem_rows.mpr ⟨_, .refl _, rfl⟩
  rw [z] at this
  cases this
theorem alike_ways : ∀ A B : List (Nat × Nat), PySem.W.alikeAll (pyL (A.map wayD)) (pyL (B.map wayD)) = true
  | [], _ => by cases ‹List (Nat × Nat)› <;> simp [pyL, PySem.W.alikeAll]
  | a :: A, [] => by simp [pyL, PySem.W.alikeAll]
  | a :: A, b :: B => by
    simp only [List.map_cons, pyL, PySem.W.alikeAll]
    rw [alike_ways A B]
    show (PySem.W.alike (.str (tS a)) (.str (tS b)) && true) = true
    simp [PySem.W.alike]
theorem min_of {α : Type} {f : α → D} (k : α → List Nat) {r : α} {rs : List α} (hk : ∀ a ∈ r :: rs, ∀ b ∈ r :: rs, D.lt (f a) (f b) = decide (k a < k b)) (ha : ∀ a ∈ r :: rs, ∀ b ∈ r :: rs, PySem.W.alike (f a).py (f b).py = true) (ho : ∀ a ∈ r :: rs, (f a).okd 60 = true) (hn : ∀ a, (f a).isNon = false) : minTD [.lst ((r :: rs).map f)] = some (f (minK k r rs)) := by
  have ok : minOkT ((r :: rs).map f) = true := by
    unfold minOkT
    simp only [Bool.and_eq_true]
    refine ⟨?_, ?_, ?_⟩
    · unfold alikeL
      rw [List.all_eq_true]
      intro x hx
      rw [List.all_eq_true]
      intro y hy
      obtain ⟨a, h1, rfl⟩ := List.mem_map.mp hx
      obtain ⟨b, h2, rfl⟩ := List.mem_map.mp hy
      exact ha a h1 b h2
    · rw [List.all_eq_true]
      intro x hx
      obtain ⟨a, h1, rfl⟩ := List.mem_map.mp hx
      exact ho a h1
    · rw [List.all_eq_true]
      intro x hx
      obtain ⟨a, h1, rfl⟩ := List.mem_map.mp hx
      show (!(f a).isNon) = true
      rw [hn a]; rfl
  show (if minOkT ((r :: rs).map f) then some (minLD (f r) (rs.map f)) else none) = _
  rw [if_pos ok, minLD_map f k rs r hk]
theorem min_rows {P : List Nat} {T : List (Nat × Nat)} (h : WbOk P T) : minTD [.lst ((rows P T).map fun R => .lst (R.map wayD))] = some (.lst ((plainR P T).map wayD)) := by
  have hr := fun R => rows_ok (R := R) h
  have ne := rows_ne (P := P) (T := T)
  unfold plainR
  generalize rows P T = rs at hr ne
  cases rs with
  | nil => exact absurd rfl ne
  | cons r rs =>
    exact min_of (f := fun R : List (Nat × Nat) => D.lst (R.map wayD)) kx (fun a ha b hb => row_lt (by rw [(hr a ha).1, (hr b hb).1])) (fun a _ b _ => by
      show PySem.W.alike (.list (pyL (a.map wayD))) (.list (pyL (b.map wayD))) = true
      unfold PySem.W.alike
      exact alike_ways a b) (fun a ha => okd_row (hr a ha).2 59) fun a => rfl
theorem strOk_tx {P : List Nat} {R : List (Nat × Nat)} (hP : ∀ a ∈ P, a < 1000) (hR : ∀ e ∈ R, e.1 < 1000 ∧ e.2 < 1000) : PyData.strOk (txS P R) = true := strOk_pl fun a ha => by
  unfold txL at ha
  rcases List.mem_append.mp ha with h | h
  · exact hP a h
  · obtain ⟨e, he, h⟩ := List.mem_flatMap.mp h
    have := hR e he
    simp at h
    omega
theorem rows_lt {P : List Nat} {T R : List (Nat × Nat)} (h : WbOk P T) (hR : R ∈ rows P T) : ∀ e ∈ R, e.1 < 1000 ∧ e.2 < 1000 := fun e he => by
  obtain ⟨L, pL, rfl⟩ := mem_rows.mp hR
  have hl : L.length = P.length := by rw [pL.length_eq, fst_len]
  have hLt := (fst_ok h.pl.pos h.pl.few).perm pL
  have w := rn_ok h hLt hl
  obtain ⟨h1, h2, _⟩ := w.ties e ((sT_perm _).mem_iff.mp he)
  have := w.pl.let8 _ h1
  have := w.pl.let8 _ h2
  omega
theorem min_pages {P : List Nat} {T : List (Nat × Nat)} (h : WbOk P T) : minTD [.lst ((rows P T).map fun R => .str (txS (fst' P.length) R))] = some (.str (txS (fst' P.length) (plainR P T))) := by
  have hr := fun R => rows_ok (R := R) h
  have hr2 := fun R => rows_lt (R := R) h
  have ne := rows_ne (P := P) (T := T)
  have hf : ∀ a ∈ fst' P.length, a < 1000 := fun a ha => by have := (fst_ok h.pl.pos h.pl.few).let8 a ha; omega
  unfold plainR
  generalize rows P T = rs at hr ne hr2
  cases rs with
  | nil => exact absurd rfl ne
  | cons r rs =>
    exact min_of (f := fun R : List (Nat × Nat) => D.str (txS (fst' P.length) R)) kx (fun a ha b hb => page_lt (by rw [(hr a ha).1, (hr b hb).1])) (fun a _ b _ => by
      show PySem.W.alike (.str _) (.str _) = true
      simp [PySem.W.alike]) (fun a ha => strOk_tx hf (hr2 a ha)) fun a => rfl
theorem plain_len {P : List Nat} {T : List (Nat × Nat)} (h : WbOk P T) : (plainR P T).length = T.length := by
  have hr := fun R => rows_ok (R := R) h
  have ne := rows_ne (P := P) (T := T)
  unfold plainR
  generalize rows P T = rs at hr ne
  cases rs with
  | nil => exact absurd rfl ne
  | cons r rs => exact (hr _ (minK_mem kx rs r)).1
theorem law_plain_of : ∀ as m Q, S_plain_of as m Q → d_plain_of (padn n_plain_of as) m (fin Q) := by
  rintro as m Q ⟨P, T, hW, h4, rfl, q⟩
  have hll := llv
  have h11 := hW.few
  refine ⟨_, rfl, plS P, T.map tS, rfl, _, len_pl (by omega), (P.length : Nat), rfl, _, slice_abc (by omega), ?_⟩
  refine ⟨_, rfl, fst' P.length, fst_nd _, by rw [fst_len]; exact h4, rfl, (ords (fst' P.length)).map plD, rfl, by rw [List.length_map]; have := ords_24 (fst_nd P.length) (by rw [fst_len]; exact h4); omega, ?_⟩
  refine lcR_m plD (fun L => D.lst ((sT (rnT P L T)).map wayD)) (ords (fst' P.length)) m _ (fun L hL => ⟨_, rfl, fun m Q q => ?_⟩) ?_
  · have pL := (mem_ords (fst_nd P.length)).mp hL
    have hl : L.length = P.length := by rw [pL.length_eq, fst_len]
    have hLt := (fst_ok hW.pl.pos hW.pl.few).perm pL
    have wR := rn_ok hW hLt hl
    refine ⟨_, rfl, _, rfl, P, T, L, hW, hLt, hl, rfl, plS (srt L), (rnT P L T).map tS, rfl, _, ?_, q⟩
    rw [ts_map]
    exact sorted_T wR
  · obtain ⟨z, e1, e2⟩ := page_join (P := fst' P.length) (R := plainR P T) (by rw [fst_len]; exact hW.pl.few) (by rw [plain_len hW]; exact h11)
    refine ⟨rfl, _, rfl, by show 1 ≤ LL; omega, _, rfl, _, ?_, _, e1, _, e2, q⟩
    have := min_rows hW
    unfold rows at this
    rw [List.map_map] at this
    exact this
theorem law_plain_text : ∀ as m Q, S_plain_text as m Q → d_plain_text (padn n_plain_text as) m (fin Q) := by
  rintro as m Q ⟨P, T, hW, h4, rfl, q⟩
  exact ⟨_, rfl, P, T, rfl, _, rfl, P, T, hW, h4, rfl, q⟩
theorem law_law_net : ∀ as m Q, S_law_net as m Q → d_law_net (padn n_law_net as) m (fin Q) := by
  rintro as m Q ⟨rfl, q⟩
  have hll := llv
  refine ⟨_, rfl, .inl rfl, _, rfl, .inl rfl, _, rfl, 4, by decide, by decide, rfl, fun d hd => ⟨natD (1 + d), by show some (D.int _) = some (D.int _); congr 1, ?_⟩⟩
  refine ⟨1 + d, by omega, by omega, rfl, fun P hP hPn => ?_⟩
  have hL := len7 hP
  have hne : P ≠ [] := List.length_pos_iff.mp hP.pos
  refine ⟨by show 0 ≤ LL; omega, ?_⟩
  refine ⟨_, rfl, .inl rfl, _, rfl, _, rfl, 6, by decide, by decide, rfl, fun d2 hd2 => ⟨(d2 : Nat), rfl, by omega, by omega, ?_⟩⟩
  rw [natD_map]
  refine forR_rg natD d2 (fun i env m' => m' = m ∧ ∃ (T : List (Nat × Nat)) (x5 : Sl), T.length = i ∧ (∀ p ∈ T, p.1 ∈ P ∧ p.2 ∈ P ∧ p.1 ≤ p.2) ∧ env = [.cask, .val (.int 4), .val (.int 5), .val (plD P), .own (T.map wayD), x5]) ?_ ?_ _ _ ⟨rfl, [], .no, rfl, fun p hp => (by cases hp), rfl⟩
  · rintro env m' ⟨rfl, T, x5, hlen, hT, rfl⟩
    exact ⟨_, rfl, _, rfl, _, rfl, by show 2 ≤ LL; omega, q P T ⟨hP, by omega, hT⟩ (by omega) (by omega)⟩
  · rintro i hi env m' ⟨rfl, T, x5, hlen, hT, rfl⟩
    have lst : listD [plD P] = some (P.map cD) := if_pos hL
    have pne : P.map cD ≠ [] := by simpa using hne
    have plen : (P.map cD).length ≤ 100 := by rw [List.length_map]; omega
    refine ⟨_, rfl, fun K hK => ?_⟩
    refine ⟨_, rfl, _, rfl, .inl rfl, _, rfl, _, lst, P.map cD, pne, plen, rfl, fun x hx => ?_⟩
    obtain ⟨a, ha, rfl⟩ := List.mem_map.mp hx
    refine ⟨_, rfl, .inl rfl, _, rfl, _, lst, P.map cD, pne, plen, rfl, fun y hy => ?_⟩
    obtain ⟨b, hb, rfl⟩ := List.mem_map.mp hy
    refine ⟨a, b, rfl, by rw [List.length_map]; omega, ?_⟩
    have e1 : T.map wayD ++ [wayD (min a b, max a b)] = (T ++ [(min a b, max a b)]).map wayD := by rw [List.map_append]; rfl
    rw [e1]
    have hT' : ∀ p ∈ T ++ [(min a b, max a b)], p.1 ∈ P ∧ p.2 ∈ P ∧ p.1 ≤ p.2 := fun p hp => by
      rcases List.mem_append.mp hp with hp | hp
      · exact hT p hp
      · rw [List.mem_singleton] at hp; subst hp; exact tie_mk ha hb
    have hl' : (T ++ [(min a b, max a b)]).length = i + 1 := by rw [List.length_append, List.length_singleton, hlen]
    generalize T ++ [(min a b, max a b)] = T' at hT' hl'
    refine ⟨_, rfl, .inl rfl, 5, by decide, by decide, rfl, fun d3 hd3 => ⟨_, eqD_int _ _, _, rfl, ?_⟩⟩
    by_cases z : ((d3 : Nat) : Int) = 0
    · rw [decide_eq_true z]
      have h0 : T'[0]? = some (T'[0]'(by omega)) := List.getElem?_eq_getElem (by omega)
      refine ⟨_, rfl, _, ix_lst (f := wayD) (i := 0) h0, _, rfl, -1, T'.length - 1, rfl, ?_, ?_⟩
      · unfold ixN
        rw [if_neg (by decide), if_pos (by rw [List.length_map]; omega), List.length_map]
        congr 1
        omega
      · have e2 : (T'.map wayD).set (T'.length - 1) (wayD (T'[0]'(by omega))) = (T'.set (T'.length - 1) (T'[0]'(by omega))).map wayD := by rw [List.map_set]
        rw [e2]
        refine hK _ _ ⟨rfl, _, .val (natD i), by rw [List.length_set]; exact hl', fun p hp => ?_, rfl⟩
        rcases List.mem_or_eq_of_mem_set hp with hp | hp
        · exact hT' p hp
        · rw [hp]; exact hT' _ (List.getElem_mem _)
    · rw [decide_eq_false z]
      exact hK _ _ ⟨rfl, T', .val (natD i), hl', hT', rfl⟩
end K06
namespace K06
open PySem L2 G
open T hiding S_are_letters S_are_letters_len S_law_lots S_law_parts ckOk
open SH hiding sb
open K10 hiding S_every_lot S_every_lot_len S_law_right S_law_right_len d_every_lot d_law_right fl law_every_lot n_every_lot n_law_right pm0 pm120 rest rng_in sum_add
open K15 hiding S_law_right S_law_right_len d_law_right n_law_right pm0
open K03 hiding S_law_net S_law_net_len S_law_right S_law_right_len S_law_spots S_law_spots_len d_law_net d_law_right d_law_spots law_law_net law_law_spots n_law_net n_law_right n_law_spots pm10
open K04 hiding S_law_right S_law_right_len d_law_right n_law_right pm0
open K05 hiding S_law_net S_law_net_len S_law_right S_law_right_len
open WB
theorem sindex_ren {P L : List Nat} (nd : L.Nodup) {s : Nat} (hs : s ∈ L) : sindexD (plD L) [cD s] = some (natD (L.idxOf s)) := by
  show (if s ∈ (plS L).cps.toList then (Builtin.Str.occurrences (plS L) (c1 s) 0 (plS L).length 1).head?.map (fun (i : Nat) => D.int i) else none) = _
  have hm : s ∈ (plS L).cps.toList := hs
  rw [if_pos hm]
  obtain ⟨i, rest, e, hi⟩ := occ_one hm
  have e' : Builtin.Str.occurrences (plS L) (c1 s) 0 (plS L).length 1 = i :: rest := e
  rw [e']
  show some (D.int (i : Nat)) = some (D.int (L.idxOf s : Nat))
  have hi' : L[i]? = some s := hi
  obtain ⟨h1, h2⟩ := List.getElem?_eq_some_iff.mp hi'
  have := nd.idxOf_getElem i h1
  rw [h2] at this
  rw [this]
theorem ren_get {P L : List Nat} (hl : L.length = P.length) {s : Nat} (hs : s ∈ L) : P[L.idxOf s]? = some (ren L P s) := by
  have h := List.idxOf_lt_length_iff.mpr hs
  unfold ren
  exact get_d (by omega)
theorem web_eq' {P : List Nat} {T : List (Nat × Nat)} (hW : WbOk P T) {m : Nat} {Q : D → Nat → Prop} (q : Q (.bl true) m) : S_Webeq [.val (webD P T), .val (webD P T)] m Q :=
  ⟨P, T, P, T, hW, hW, rfl, by rw [decide_eq_true ⟨rfl, rfl⟩]; exact q⟩
theorem ne_str (z : Str) : neD (.str z) (.str z) = some (.bl false) := by
  show (eqB (.str z) (.str z)).map _ = _
  rw [eqB_str]; simp
theorem law_law_single_right : ∀ as m Q, S_law_single_right as m Q → d_law_single_right (padn n_law_single_right as) m (fin Q) := by
  rintro as m Q ⟨P, T, L, hW, h4, hL, hl, rfl, q⟩
  have hll := llv
  have h7 := hL.few
  have wR := rn_ok hW hL hl
  have hb := bck_perm hl hL.nd
  have hbl : (bck P L).length = (srt L).length := by rw [hb.length_eq, srt_len, hl]
  refine ⟨_, rfl, _, rfl, P, T, L, hW, hL, hl, rfl, ?_⟩
  refine ⟨_, rfl, _, rfl, P, T, L, hW, hL, hl, rfl, ?_⟩
  refine ⟨_, rfl, ⟨_, _, rfl⟩, _, _, wR, rfl, _, rfl, _, _, wR, rfl, _, ne_str _, _, rfl, ?_⟩
  refine ⟨_, rfl, _, rfl, P, T, L, hW, hL, hl, rfl, _, rfl, ⟨_, _, _, _, rfl, rfl⟩, web_eq' wR ⟨true, rfl, _, rfl, ?_⟩⟩
  refine ⟨_, rfl, _, sorted_pl (by omega), ?_⟩
  refine ⟨rfl, _, rfl, (srt L).map cD, rfl, by rw [List.length_map, srt_len]; omega, ?_⟩
  refine lcR_m cD (fun s => cD (ren L P s)) (srt L) m _ (fun s hs => ⟨_, rfl, fun m Q q => ?_⟩) ?_
  · have hs := srt_mem.mp hs
    exact ⟨_, rfl, _, rfl, _, rfl, rfl, _, rfl, _, sindex_ren (P := P) hL.nd hs, _, ix_pl (by omega) (ren_get hl hs), q⟩
  have ej : joinD (.str "") [.lst ((srt L).map fun s => cD (ren L P s))] = some (plD (bck P L)) := by
    have := joinD_c1 (bck P L) (by rw [hbl, srt_len]; omega)
    unfold bck at this ⊢
    rw [List.map_map] at this
    exact this
  refine ⟨_, ej, ?_⟩
  refine ⟨_, rfl, _, rfl, srt L, rnT P L T, bck P L, wR, (lt_ok hW.pl).perm hb, hbl, rfl, _, rfl, ?_⟩
  rw [bck_rn hW hL hl, srt_of hW.pl.inc hb]
  refine ⟨⟨_, _, _, _, rfl, rfl⟩, web_eq' hW ⟨true, rfl, true, rfl, ?_⟩⟩
  rw [if_pos rfl]
  refine ⟨_, rfl, srt L, rnT P L T, wR, by rw [srt_len]; omega, rfl, _, rfl, P, T, hW, h4, rfl, _, eqD_str _ _, ?_⟩
  rw [srt_len, hl, plain_same hW hL hl, decide_eq_true rfl]
  exact q
theorem law_law_stays : ∀ as m Q, S_law_stays as m Q → d_law_stays (padn n_law_stays as) m (fin Q) := by
  rintro as m Q ⟨P, T, L, hW, h5, hL, hl, rfl, q⟩
  have hll := llv
  have wR := rn_ok hW hL hl
  have hlen := rn_len hW hL hl
  refine ⟨_, rfl, P, T, hW, rfl, _, rfl, P, T, hW, by omega, rfl, _, rfl, P, T, hW, rfl, _, rfl, P, T, hW, rfl, by show 4 ≤ LL; omega, ?_⟩
  refine ⟨_, rfl, _, rfl, _, _, wR, rfl, _, rfl, _, _, wR, by omega, rfl, _, rfl, _, _, wR, rfl, _, rfl, _, _, wR, rfl, by show 4 ≤ LL; omega, ?_⟩
  rw [rngs_rn hW hL hl, blk_rn hW hL hl, trees_rn hW hL hl, tE_rn hW hL hl, hi_rn hW hL hl, wi_rn hW hL hl]
  refine ⟨_, SE.eq_lstS (SE.Se.lst (n := 59) fun d hd => ?_), q⟩
  have hlots : ∀ Ls : List (List Nat), SE.Se (.tup (Ls.map lotD)) 59 := fun Ls => SE.Se.tup (n := 58) fun d hd => by
    obtain ⟨L, _, rfl⟩ := List.mem_map.mp hd
    exact SE.se_lot L 57
  simp only [List.mem_cons, List.not_mem_nil, or_false] at hd
  rcases hd with rfl | rfl | rfl | rfl
  · exact hlots _
  · exact hlots _
  · exact hlots _
  · refine SE.Se.tup (n := 58) fun d hd => ?_
    obtain ⟨r, hr, rfl⟩ := List.mem_map.mp hd
    refine SE.Se.tup (n := 57) fun d hd => ?_
    obtain ⟨i, _, rfl⟩ := List.mem_map.mp hr
    obtain ⟨j, _, rfl⟩ := List.mem_map.mp hd
    exact .int _ _
end K06
namespace K06
open PySem L2 G
open T hiding S_are_letters S_are_letters_len S_law_lots S_law_parts ckOk
open SH hiding sb
open K10 hiding S_every_lot S_every_lot_len S_law_right S_law_right_len d_every_lot d_law_right fl law_every_lot n_every_lot n_law_right pm0 pm120 rest rng_in sum_add
open K15 hiding S_law_right S_law_right_len d_law_right n_law_right pm0
open K03 hiding S_law_net S_law_net_len S_law_right S_law_right_len S_law_spots S_law_spots_len d_law_net d_law_right d_law_spots law_law_net law_law_spots n_law_net n_law_right n_law_spots pm10
open K04 hiding S_law_right S_law_right_len d_law_right n_law_right pm0
open K05 hiding S_law_net S_law_net_len S_law_right S_law_right_len
open WB
theorem single_in {P L : List Nat} {T : List (Nat × Nat)} (hW : WbOk P T) (h4 : P.length ≤ 4) (hL : LtOk L) (hl : L.length = P.length) {m : Nat} {Q : D → Nat → Prop} (q : Q (.bl true) m) : S_law_single_right [.val (webD P T), .val (netD P T), .val (plD L)] m Q := ⟨P, T, L, hW, h4, hL, hl, rfl, q⟩
theorem mul_nn (a b : Nat) (h : b ≤ 1000) : mulD (natD a) (natD b) = some (natD (a * b)) := by
  have : mulD (natD a) (natD b) = if (-(2 ^ 64) < ((a : Nat) : Int) ∧ ((a : Nat) : Int) < 2 ^ 64) ∨ (-(2 ^ 64) < ((b : Nat) : Int) ∧ ((b : Nat) : Int) < 2 ^ 64) then some (D.int (((a : Nat) : Int) * ((b : Nat) : Int))) else none := rfl
  rw [this, if_pos (.inr ⟨by omega, by omega⟩)]
  exact congrArg (fun z => some (D.int z)) (Int.natCast_mul _ _).symm
theorem law_law_right : ∀ as m Q, S_law_right as m Q → d_law_right (padn n_law_right as) m (fin Q) := by
  rintro as m Q ⟨rfl, q⟩
  have hll := llv
  refine ⟨_, rfl, .inl rfl, rfl, fun P T hW h4 h5 => ?_⟩
  have nd := hW.pl.nd
  have hP := lt_ok hW.pl
  have h24 := ords_24 nd h4
  refine ⟨_, rfl, _, rfl, _, rfl, _, rfl, _, rfl, P, T, hW, rfl, _, rfl, _, rfl, _, len_pl (by omega), _, _, rfl, ?_⟩
  refine ⟨_, rfl, _, rfl, P, nd, h4, rfl, (ords P).map plD, rfl, by rw [List.length_map]; omega, ?_⟩
  refine lcR_fm plD (fun L => decide (sT (rnT P L T) = sT T)) plD (ords P) m _ (fun L hL => ⟨_, rfl, fun m Q q => ?_, fun _ m Q q => ⟨_, rfl, q⟩⟩) ?_
  · have pL := (mem_ords nd).mp hL
    have hLt := hP.perm pL
    have wR := rn_ok hW hLt pL.length_eq
    exact ⟨_, rfl, _, rfl, P, T, L, hW, hLt, pL.length_eq, rfl, _, rfl, _, sorted_L wR, _, rfl, _, rfl, _, sorted_L hW, _, eq_rows (strOk_sT wR) (strOk_sT hW), _, rfl, q⟩
  have hst : (ords P).filter (fun L => decide (sT (rnT P L T) = sT T)) = stab P T := rfl
  rw [hst]
  have hpos : 0 < (stab P T).length := List.length_pos_of_mem (stab_pos hW)
  have hs24 : (stab P T).length ≤ 24 := Nat.le_trans (List.length_filter_le _ _) h24
  refine ⟨_, rfl, _, rfl, P, nd, h4, rfl, ?_⟩
  refine ⟨_, rfl, P, T, hW, h4, rfl, _, rfl, _, len_lst plD _, _, ne_nat _ _, _, rfl, ?_⟩
  rw [decide_eq_false (show ¬ (stab P T).length ≠ (stab P T).length by simp)]
  refine ⟨_, rfl, P, T, hW, h4, rfl, _, rfl, _, len_lst plD _, _, ne_nat _ _, _, rfl, ?_⟩
  rw [decide_eq_false (show ¬ (stab P T).length ≠ (stab P T).length by simp)]
  have e1 : fdivD (natD (ords P).length) (natD (stab P T).length) = some (natD ((ords P).length / (stab P T).length)) := by
    show (if (0 : Int) < ((stab P T).length : Nat) ∧ (((stab P T).length : Nat) : Int) < 1073741824 then some (D.int (((ords P).length : Nat) / ((stab P T).length : Nat) : Int)) else none) = _
    rw [if_pos (by omega)]
    exact congrArg (fun z => some (D.int z)) (Int.natCast_ediv _ _).symm
  have e2 : mulD (natD ((ords P).length / (stab P T).length)) (natD (stab P T).length) = some (natD (ords P).length) := by
    have := Nat.div_mul_cancel (stab_dvd hW)
    rw [mul_nn _ _ (by omega), this]
  refine ⟨_, rfl, _, len_lst plD _, _, rfl, _, len_lst plD _, _, e1, _, rfl, _, len_lst plD _, _, e2, _, rfl, _, len_lst plD _, _, ne_nat _ _, _, rfl, ?_⟩
  rw [decide_eq_false (show ¬ (ords P).length ≠ (ords P).length by simp)]
  refine ⟨_, rfl, (P.length : Nat), rfl, _, slice_abc (by omega), ?_⟩
  refine ⟨_, rfl, fst' P.length, fst_nd _, by rw [fst_len]; exact h4, rfl, (ords (fst' P.length)).map plD, rfl, by rw [List.length_map]; have := ords_24 (fst_nd P.length) (by rw [fst_len]; exact h4); omega, ?_⟩
  refine lcR_m plD (fun L => D.str (txS (fst' P.length) (sT (rnT P L T)))) (ords (fst' P.length)) m _ (fun L hL => ⟨_, rfl, fun m Q q => ?_⟩) ?_
  · have pL := (mem_ords (fst_nd P.length)).mp hL
    have hl : L.length = P.length := by rw [pL.length_eq, fst_len]
    have hLt := (fst_ok hW.pl.pos hW.pl.few).perm pL
    have wR := rn_ok hW hLt hl
    obtain ⟨z, a1, a2⟩ := page_join (P := fst' P.length) (R := sT (rnT P L T)) (by rw [fst_len]; omega) (by rw [sT_len]; exact wR.few)
    exact ⟨rfl, _, rfl, by show 1 ≤ LL; omega, _, rfl, _, rfl, P, T, L, hW, hLt, hl, rfl, _, rfl, _, sorted_L wR, _, a1, _, a2, q⟩
  have emin : minTD [.lst ((ords (fst' P.length)).map fun L => D.str (txS (fst' P.length) (sT (rnT P L T))))] = some (.str (txS (fst' P.length) (plainR P T))) := by
    have := min_pages hW
    unfold rows at this
    rw [List.map_map] at this
    exact this
  refine ⟨_, rfl, P, T, hW, h4, rfl, _, rfl, _, emin, _, ne_str _, _, rfl, ?_⟩
  refine ⟨_, rfl, P, T, hW, h4, rfl, _, rfl, _, emin, _, ne_str _, _, rfl, ?_⟩
  refine ⟨(3 : Nat), rfl, by omega, by omega, ?_⟩
  rw [natD_map]
  obtain ⟨pg, hpg⟩ : ∃ pg, pg = D.lst ((ords (fst' P.length)).map fun L => D.str (txS (fst' P.length) (sT (rnT P L T)))) := ⟨_, rfl⟩
  rw [← hpg]
  refine forR_rg natD 3 (fun i env m' => m' = m ∧ ∃ x4 x9 x10 x11 x12 x13 : Sl, env = [.cask, .val (netD P T), .val (webD P T), .val (natD P.length), x4, .val (.lst ((stab P T).map plD)), .val (.lst ((ords P).map plD)), .val (plD (fst' P.length)), .val pg, x9, x10, x11, x12, x13, .no]) ?_ ?_ _ _ ⟨rfl, _, _, _, _, _, _, rfl⟩
  · rintro env m' ⟨rfl, x4, x9, x10, x11, x12, x13, rfl⟩
    refine ⟨_, rfl, _, rfl, _, rfl, .inl rfl, _, rfl, (stab P T).map plD, by rw [ne_eq, List.map_eq_nil_iff]; exact List.ne_nil_of_length_pos hpos, by rw [List.length_map]; omega, rfl, fun x hx => ?_⟩
    obtain ⟨M, hM, rfl⟩ := List.mem_map.mp hx
    have pM := (mem_ords nd).mp (List.mem_filter.mp hM).1
    exact single_in hW h4 (hP.perm pM) pM.length_eq q
  · rintro i hi env m' ⟨rfl, x4, x9, x10, x11, x12, x13, rfl⟩
    refine ⟨_, rfl, fun K hK => ?_⟩
    have el : listD [.str "abcdefgh"] = some ([97, 98, 99, 100, 101, 102, 103, 104].map cD) := by
      show (if (Str.ofString "abcdefgh").length ≤ LL then some (charsD (Str.ofString "abcdefgh")) else none) = _
      rw [letters_chars, if_pos (by decide +kernel)]
    refine ⟨_, el, rfl, ?_⟩
    refine ⟨_, rfl, (P.length : Nat), rfl, by omega, by omega, ?_⟩
    rw [natD_map]
    refine forR_rg natD P.length (fun j env m'' => m'' = m' ∧ ∃ (left found : List Nat) (x11 : Sl), found.length = j ∧ (left ++ found).Perm [97, 98, 99, 100, 101, 102, 103, 104] ∧ env = [.cask, .val (netD P T), .val (webD P T), .val (natD P.length), .val (plD found), .val (.lst ((stab P T).map plD)), .val (.lst ((ords P).map plD)), .val (plD (fst' P.length)), .val pg, .val (natD i), .own (left.map cD), x11, x12, x13, .no]) ?_ ?_ _ _ ⟨rfl, [97, 98, 99, 100, 101, 102, 103, 104], [], x11, rfl, by simp, rfl⟩
    · rintro env m'' ⟨rfl, left, L, x11, hl, hp, rfl⟩
      have hin : ∀ a ∈ L, 97 ≤ a ∧ a ≤ 104 := fun a ha => by
        have := hp.mem_iff.mp (List.mem_append_right left ha)
        simp at this
        omega
      have hnd : L.Nodup := by
        have : (left ++ L).Nodup := hp.nodup_iff.mpr (by decide)
        exact (List.nodup_append.mp this).2.1
      have hL : LtOk L := ⟨hnd, hin, by rw [hl]; exact hW.pl.pos, by omega⟩
      have wR := rn_ok hW hL hl
      refine ⟨_, rfl, _, rfl, _, rfl, P, T, L, hW, h4, hL, hl, rfl, true, rfl, ?_⟩
      refine ⟨_, rfl, _, rfl, _, rfl, P, T, L, hW, hL, hl, rfl, P, T, L, hW, h5, hL, hl, rfl, true, rfl, ?_⟩
      refine ⟨_, rfl, .inl rfl, _, rfl, (ords P).map plD, by rw [ne_eq, List.map_eq_nil_iff]; exact List.ne_nil_of_mem ((mem_ords nd).mpr (.refl P)), by rw [List.length_map]; omega, rfl, fun x hx => ?_⟩
      obtain ⟨M, hM, rfl⟩ := List.mem_map.mp hx
      have pM := (mem_ords nd).mp hM
      have hMl : M.length = (srt L).length := by rw [pM.length_eq, srt_len, hl]
      have sn : (srt L).Nodup := (srt_perm L).nodup_iff.mpr hnd
      refine ⟨rfl, _, rfl, L.map cD, rfl, by rw [List.length_map]; omega, ?_⟩
      refine lcR_m cD (fun s => cD (ren (srt L) M s)) L m'' _ (fun s hs => ⟨_, rfl, fun m Q q => ?_⟩) ?_
      · have hs' := srt_mem.mpr hs
        have hi := List.idxOf_lt_length_iff.mpr hs'
        exact ⟨_, rfl, _, rfl, _, sorted_pl (by omega), rfl, _, rfl, _, K10.index_c sn (by rw [List.getElem?_eq_getElem hi, List.getElem_idxOf hi]), _, ix_pl (by rw [hMl, srt_len]; omega) (ren_get (P := M) hMl.symm hs'), q⟩
      have ej : joinD (.str "") [.lst (L.map fun s => cD (ren (srt L) M s))] = some (plD (L.map (ren (srt L) M))) := by
        have := joinD_c1 (L.map (ren (srt L) M)) (by rw [List.length_map]; omega)
        rw [List.map_map] at this
        exact this
      refine ⟨_, ej, ?_⟩
      have hMt := hP.perm pM
      have pB := rn_perm (P := P) (M := M) (by rw [pM.length_eq, hl]) hnd
      have hB : LtOk (L.map (ren (srt L) M)) := hMt.perm pB
      have eB : srt (L.map (ren (srt L) M)) = srt M := lot_eq (srt_inc hB.nd) (srt_inc hMt.nd) fun a => by rw [srt_mem, srt_mem, pB.mem_iff]
      refine ⟨_, rfl, _, rfl, P, T, L, hW, hL, hl, rfl, _, rfl, srt L, rnT P L T, M, wR, hMt, hMl, rfl, ?_⟩
      refine ⟨_, rfl, _, rfl, P, T, _, hW, hB, by rw [List.length_map, hl], rfl, ?_⟩
      rw [rn_rn hW hL hl, eB]
      refine ⟨⟨_, _, _, _, rfl, rfl⟩, web_eq' (eB ▸ rn_ok hW hB (by rw [List.length_map, hl])) ⟨true, rfl, _, rfl, ?_⟩⟩
      exact hK _ _ ⟨rfl, _, _, _, _, _, _, rfl⟩
    · rintro j hj env m'' ⟨rfl, left, found, x11, hlen, hp, rfl⟩
      have hl8 := hp.length_eq
      simp at hl8
      refine ⟨_, rfl, fun K2 hK2 => ?_⟩
      refine ⟨plS found, left.map cD, rfl, rfl, by decide, _, rfl, .inl rfl, _, rfl, _, rfl, (left.length : Nat), by omega, by omega, by rw [List.length_map], fun k hk => ?_⟩
      have hk' : k < left.length := by omega
      have hkx : left[k]? = some left[k] := List.getElem?_eq_getElem hk'
      refine ⟨k, c1 left[k], rfl, by rw [List.getElem?_map, hkx]; rfl, by rw [List.length_map]; omega, by rw [plS_len]; show found.length + 1 ≤ LL; omega, hK2 _ _ ⟨rfl, left.eraseIdx k, found ++ [left[k]], .val (natD j), by rw [List.length_append, List.length_singleton]; omega, ?_, ?_⟩⟩
      · have h1 := _root_.T.erase_perm left k _ hkx
        have h2 : (left.eraseIdx k ++ (found ++ [left[k]])).Perm ((left[k] :: left.eraseIdx k) ++ found) := by
          have : (left.eraseIdx k ++ (found ++ [left[k]])).Perm ((left.eraseIdx k ++ found) ++ [left[k]]) := by rw [List.append_assoc]
          exact this.trans (List.perm_append_comm (l₁ := left.eraseIdx k ++ found) (l₂ := [left[k]]))
        exact (h2.trans (h1.append_right found)).trans hp
      · rw [erase_map]
        have : plS found ++ c1 left[k] = plS (found ++ [left[k]]) := str_ext (show (found.toArray ++ #[left[k]]).toList = (found ++ [left[k]]).toArray.toList by simp)
        rw [this]
        rfl
end K06
namespace K06
end K06
namespace K06
open PySem L2 G
open T hiding S_are_letters S_are_letters_len S_law_lots S_law_parts ckOk
open SH hiding sb
open K10 hiding S_every_lot S_every_lot_len S_law_right S_law_right_len d_every_lot d_law_right fl law_every_lot n_every_lot n_law_right pm0 pm120 rest rng_in sum_add
open K15 hiding S_law_right S_law_right_len d_law_right n_law_right pm0
open K03 hiding S_law_net S_law_net_len S_law_right S_law_right_len S_law_spots S_law_spots_len d_law_net d_law_right d_law_spots law_law_net law_law_spots n_law_net n_law_right n_law_spots pm10
open K04 hiding S_law_right S_law_right_len d_law_right n_law_right pm0
open K05 hiding S_law_net S_law_net_len S_law_right S_law_right_len
open WB
def topS (i : Nat) : Stmt := PySem.Challenge.pw_webreckon_k06_whole_webs_renamed.main.body.getD i (.Pass ⟨0, 0, 0, 0⟩)
def clsBody (s : Stmt) : List Stmt := match s with
  | .ClassDef _ _ _ b _ _ _ _ _ _ _ => b
  | _ => []
def methS (i j : Nat) : Stmt := (clsBody (topS i)).getD j (.Pass ⟨0, 0, 0, 0⟩)
abbrev N_are_letters : List Str := ["value", "letter"]
abbrev st_are_letters : Stmt := (topS 11)
theorem sc_are_letters : FnScope N_are_letters ["value"] (defScope st_are_letters) := ⟨rfl, rfl, rfl, by decide +kernel, rfl, by decide +kernel, by decide +kernel⟩
abbrev N_are_places : List Str := ["value"]
abbrev st_are_places : Stmt := (topS 12)
theorem sc_are_places : FnScope N_are_places ["value"] (defScope st_are_places) := ⟨rfl, rfl, rfl, by decide +kernel, rfl, by decide +kernel, by decide +kernel⟩
abbrev N_is_tie : List Str := ["places", "value"]
abbrev st_is_tie : Stmt := (topS 13)
theorem sc_is_tie : FnScope N_is_tie ["places", "value"] (defScope st_is_tie) := ⟨rfl, rfl, rfl, by decide +kernel, rfl, by decide +kernel, by decide +kernel⟩
abbrev N_wrong_tie : List Str := ["places", "ties", "index", "tie"]
abbrev st_wrong_tie : Stmt := (topS 14)
theorem sc_wrong_tie : FnScope N_wrong_tie ["places", "ties"] (defScope st_wrong_tie) := ⟨rfl, rfl, rfl, by decide +kernel, rfl, by decide +kernel, by decide +kernel⟩
abbrev N_Webinit : List Str := ["self", "places", "ties", "wrong"]
abbrev st_Webinit : Stmt := (methS 15 0)
theorem sc_Webinit : FnScope N_Webinit ["self", "places", "ties"] (defScope st_Webinit) := ⟨rfl, rfl, rfl, by decide +kernel, rfl, by decide +kernel, by decide +kernel⟩
abbrev N_Weblen : List Str := ["self"]
abbrev st_Weblen : Stmt := (methS 15 2)
theorem sc_Weblen : FnScope N_Weblen ["self"] (defScope st_Weblen) := ⟨rfl, rfl, rfl, by decide +kernel, rfl, by decide +kernel, by decide +kernel⟩
abbrev N_Webtext : List Str := ["self"]
abbrev st_Webtext : Stmt := (methS 15 3)
theorem sc_Webtext : FnScope N_Webtext ["self"] (defScope st_Webtext) := ⟨rfl, rfl, rfl, by decide +kernel, rfl, by decide +kernel, by decide +kernel⟩
abbrev N_Webeq : List Str := ["self", "other"]
abbrev st_Webeq : Stmt := (methS 15 5)
theorem sc_Webeq : FnScope N_Webeq ["self", "other"] (defScope st_Webeq) := ⟨rfl, rfl, rfl, by decide +kernel, rfl, by decide +kernel, by decide +kernel⟩
abbrev N_check_web : List Str := ["web"]
abbrev st_check_web : Stmt := (topS 16)
theorem sc_check_web : FnScope N_check_web ["web"] (defScope st_check_web) := ⟨rfl, rfl, rfl, by decide +kernel, rfl, by decide +kernel, by decide +kernel⟩
abbrev N_tie_of : List Str := ["one", "other"]
abbrev st_tie_of : Stmt := (topS 17)
theorem sc_tie_of : FnScope N_tie_of ["one", "other"] (defScope st_tie_of) := ⟨rfl, rfl, rfl, by decide +kernel, rfl, by decide +kernel, by decide +kernel⟩
abbrev N_with_letters : List Str := ["web", "letters", "names", "tie"]
abbrev st_with_letters : Stmt := (topS 18)
theorem sc_with_letters : FnScope N_with_letters ["web", "letters"] (defScope st_with_letters) := ⟨rfl, rfl, rfl, by decide +kernel, rfl, by decide +kernel, by decide +kernel⟩
abbrev N_renamed : List Str := ["web", "letters"]
abbrev st_renamed : Stmt := (topS 19)
theorem sc_renamed : FnScope N_renamed ["web", "letters"] (defScope st_renamed) := ⟨rfl, rfl, rfl, by decide +kernel, rfl, by decide +kernel, by decide +kernel⟩
abbrev N_herds_of : List Str := ["places", "ties", "found", "one", "other", "joined", "whole", "herd"]
abbrev st_herds_of : Stmt := (topS 20)
theorem sc_herds_of : FnScope N_herds_of ["places", "ties"] (defScope st_herds_of) := ⟨rfl, rfl, rfl, by decide +kernel, rfl, by decide +kernel, by decide +kernel⟩
abbrev N_all_orders : List Str := ["letters", "found", "turn", "order", "letter"]
abbrev st_all_orders : Stmt := (topS 22)
theorem sc_all_orders : FnScope N_all_orders ["letters"] (defScope st_all_orders) := ⟨rfl, rfl, rfl, by decide +kernel, rfl, by decide +kernel, by decide +kernel⟩
abbrev N_drawn : List Str := ["web"]
abbrev st_drawn : Stmt := (topS 23)
theorem sc_drawn : FnScope N_drawn ["web"] (defScope st_drawn) := ⟨rfl, rfl, rfl, by decide +kernel, rfl, by decide +kernel, by decide +kernel⟩
abbrev N_renamings_to : List Str := ["web", "other", "due", "letters"]
abbrev st_renamings_to : Stmt := (topS 24)
theorem sc_renamings_to : FnScope N_renamings_to ["web", "other"] (defScope st_renamings_to) := ⟨rfl, rfl, rfl, by decide +kernel, rfl, by decide +kernel, by decide +kernel⟩
abbrev N_plain_of : List Str := ["web", "letters", "rows", "order"]
abbrev st_plain_of : Stmt := (topS 25)
theorem sc_plain_of : FnScope N_plain_of ["web"] (defScope st_plain_of) := ⟨rfl, rfl, rfl, by decide +kernel, rfl, by decide +kernel, by decide +kernel⟩
abbrev N_plain_text : List Str := ["web"]
abbrev st_plain_text : Stmt := (topS 26)
theorem sc_plain_text : FnScope N_plain_text ["web"] (defScope st_plain_text) := ⟨rfl, rfl, rfl, by decide +kernel, rfl, by decide +kernel, by decide +kernel⟩
abbrev N_count_renamings : List Str := ["web"]
abbrev st_count_renamings : Stmt := (topS 27)
theorem sc_count_renamings : FnScope N_count_renamings ["web"] (defScope st_count_renamings) := ⟨rfl, rfl, rfl, by decide +kernel, rfl, by decide +kernel, by decide +kernel⟩
abbrev N_every_tie : List Str := ["web"]
abbrev st_every_tie : Stmt := (topS 29)
theorem sc_every_tie : FnScope N_every_tie ["web"] (defScope st_every_tie) := ⟨rfl, rfl, rfl, by decide +kernel, rfl, by decide +kernel, by decide +kernel⟩
abbrev N_ties_of : List Str := ["web", "lot", "index"]
abbrev st_ties_of : Stmt := (topS 30)
theorem sc_ties_of : FnScope N_ties_of ["web", "lot"] (defScope st_ties_of) := ⟨rfl, rfl, rfl, by decide +kernel, rfl, by decide +kernel, by decide +kernel⟩
abbrev N_pieces_of : List Str := ["web", "lot"]
abbrev st_pieces_of : Stmt := (topS 31)
theorem sc_pieces_of : FnScope N_pieces_of ["web", "lot"] (defScope st_pieces_of) := ⟨rfl, rfl, rfl, by decide +kernel, rfl, by decide +kernel, by decide +kernel⟩
abbrev N_rank_of : List Str := ["web", "lot"]
abbrev st_rank_of : Stmt := (topS 32)
theorem sc_rank_of : FnScope N_rank_of ["web", "lot"] (defScope st_rank_of) := ⟨rfl, rfl, rfl, by decide +kernel, rfl, by decide +kernel, by decide +kernel⟩
abbrev N_spare_of : List Str := ["web", "lot"]
abbrev st_spare_of : Stmt := (topS 33)
theorem sc_spare_of : FnScope N_spare_of ["web", "lot"] (defScope st_spare_of) := ⟨rfl, rfl, rfl, by decide +kernel, rfl, by decide +kernel, by decide +kernel⟩
abbrev N_without : List Str := ["lot", "index", "own"]
abbrev st_without : Stmt := (topS 34)
theorem sc_without : FnScope N_without ["lot", "index"] (defScope st_without) := ⟨rfl, rfl, rfl, by decide +kernel, rfl, by decide +kernel, by decide +kernel⟩
abbrev N_is_free_lot : List Str := ["web", "lot"]
abbrev st_is_free_lot : Stmt := (topS 35)
theorem sc_is_free_lot : FnScope N_is_free_lot ["web", "lot"] (defScope st_is_free_lot) := ⟨rfl, rfl, rfl, by decide +kernel, rfl, by decide +kernel, by decide +kernel⟩
abbrev N_is_round : List Str := ["web", "lot", "index"]
abbrev st_is_round : Stmt := (topS 36)
theorem sc_is_round : FnScope N_is_round ["web", "lot"] (defScope st_is_round) := ⟨rfl, rfl, rfl, by decide +kernel, rfl, by decide +kernel, by decide +kernel⟩
abbrev N_ends_at : List Str := ["web", "lot", "place", "tie"]
abbrev st_ends_at : Stmt := (topS 37)
theorem sc_ends_at : FnScope N_ends_at ["web", "lot", "place"] (defScope st_ends_at) := ⟨rfl, rfl, rfl, by decide +kernel, rfl, by decide +kernel, by decide +kernel⟩
abbrev N_is_even_lot : List Str := ["web", "lot", "place"]
abbrev st_is_even_lot : Stmt := (topS 38)
theorem sc_is_even_lot : FnScope N_is_even_lot ["web", "lot"] (defScope st_is_even_lot) := ⟨rfl, rfl, rfl, by decide +kernel, rfl, by decide +kernel, by decide +kernel⟩
abbrev N_every_lot : List Str := ["web", "found", "index", "lot"]
abbrev st_every_lot : Stmt := (topS 39)
theorem sc_every_lot : FnScope N_every_lot ["web"] (defScope st_every_lot) := ⟨rfl, rfl, rfl, by decide +kernel, rfl, by decide +kernel, by decide +kernel⟩
abbrev N_every_tree : List Str := ["web", "many", "lot"]
abbrev st_every_tree : Stmt := (topS 40)
theorem sc_every_tree : FnScope N_every_tree ["web"] (defScope st_every_tree) := ⟨rfl, rfl, rfl, by decide +kernel, rfl, by decide +kernel, by decide +kernel⟩
abbrev N_all_rings : List Str := ["web", "lot"]
abbrev st_all_rings : Stmt := (topS 41)
theorem sc_all_rings : FnScope N_all_rings ["web"] (defScope st_all_rings) := ⟨rfl, rfl, rfl, by decide +kernel, rfl, by decide +kernel, by decide +kernel⟩
abbrev N_rings : List Str := ["web"]
abbrev st_rings : Stmt := (topS 42)
theorem sc_rings : FnScope N_rings ["web"] (defScope st_rings) := ⟨rfl, rfl, rfl, by decide +kernel, rfl, by decide +kernel, by decide +kernel⟩
abbrev N_blocks : List Str := ["web", "found", "ring", "joined", "whole", "index", "block"]
abbrev st_blocks : Stmt := (topS 43)
theorem sc_blocks : FnScope N_blocks ["web"] (defScope st_blocks) := ⟨rfl, rfl, rfl, by decide +kernel, rfl, by decide +kernel, by decide +kernel⟩
abbrev N_empty_rows : List Str := ["web", "whole", "turn"]
abbrev st_empty_rows : Stmt := (topS 45)
theorem sc_empty_rows : FnScope N_empty_rows ["web"] (defScope st_empty_rows) := ⟨rfl, rfl, rfl, by decide +kernel, rfl, by decide +kernel, by decide +kernel⟩
abbrev N_as_table : List Str := ["rows", "row"]
abbrev st_as_table : Stmt := (topS 46)
theorem sc_as_table : FnScope N_as_table ["rows"] (defScope st_as_table) := ⟨rfl, rfl, rfl, by decide +kernel, rfl, by decide +kernel, by decide +kernel⟩
abbrev N_counted_lots : List Str := ["web", "rows", "most", "lot"]
abbrev st_counted_lots : Stmt := (topS 47)
theorem sc_counted_lots : FnScope N_counted_lots ["web"] (defScope st_counted_lots) := ⟨rfl, rfl, rfl, by decide +kernel, rfl, by decide +kernel, by decide +kernel⟩
abbrev N_ways_to_choose : List Str := ["many", "some", "found", "turn"]
abbrev st_ways_to_choose : Stmt := (topS 48)
theorem sc_ways_to_choose : FnScope N_ways_to_choose ["many", "some"] (defScope st_ways_to_choose) := ⟨rfl, rfl, rfl, by decide +kernel, rfl, by decide +kernel, by decide +kernel⟩
abbrev N_shifted : List Str := ["row", "found", "power", "number", "lower"]
abbrev st_shifted : Stmt := (topS 49)
theorem sc_shifted : FnScope N_shifted ["row"] (defScope st_shifted) := ⟨rfl, rfl, rfl, by decide +kernel, rfl, by decide +kernel, by decide +kernel⟩
abbrev N_table_rows : List Str := ["web", "rows", "columns", "row", "place", "column"]
abbrev st_table_rows : Stmt := (topS 50)
theorem sc_table_rows : FnScope N_table_rows ["web"] (defScope st_table_rows) := ⟨rfl, rfl, rfl, by decide +kernel, rfl, by decide +kernel, by decide +kernel⟩
abbrev N_table : List Str := ["web"]
abbrev st_table : Stmt := (topS 51)
theorem sc_table : FnScope N_table ["web"] (defScope st_table) := ⟨rfl, rfl, rfl, by decide +kernel, rfl, by decide +kernel, by decide +kernel⟩
abbrev N_all_trees : List Str := ["web"]
abbrev st_all_trees : Stmt := (topS 53)
theorem sc_all_trees : FnScope N_all_trees ["web"] (defScope st_all_trees) := ⟨rfl, rfl, rfl, by decide +kernel, rfl, by decide +kernel, by decide +kernel⟩
abbrev N_law_cask : List Str := ["_law_cells", "_law_at", "_law_own", "_law_mixed", "_law_k"]
abbrev st_law_cask : Stmt := (topS 55)
theorem sc_law_cask : FnScope N_law_cask ["_law_cells", "_law_at"] (defScope st_law_cask) := ⟨rfl, rfl, rfl, by decide +kernel, rfl, by decide +kernel, by decide +kernel⟩
abbrev N_law_tap : List Str := ["_law_cask_here", "_law_upto", "_law_figure", "_law_mixed"]
abbrev st_law_tap : Stmt := (topS 56)
theorem sc_law_tap : FnScope N_law_tap ["_law_cask_here", "_law_upto"] (defScope st_law_tap) := ⟨rfl, rfl, rfl, by decide +kernel, rfl, by decide +kernel, by decide +kernel⟩
abbrev N_law_pick : List Str := ["_law_cask_here", "_law_things"]
abbrev st_law_pick : Stmt := (topS 57)
theorem sc_law_pick : FnScope N_law_pick ["_law_cask_here", "_law_things"] (defScope st_law_pick) := ⟨rfl, rfl, rfl, by decide +kernel, rfl, by decide +kernel, by decide +kernel⟩
abbrev N_law_spots : List Str := ["_law_cask_here", "_law_many_here", "_law_rest", "_law_found", "_law_turn"]
abbrev st_law_spots : Stmt := (topS 58)
theorem sc_law_spots : FnScope N_law_spots ["_law_cask_here", "_law_many_here"] (defScope st_law_spots) := ⟨rfl, rfl, rfl, by decide +kernel, rfl, by decide +kernel, by decide +kernel⟩
abbrev N_law_joint : List Str := ["_law_one", "_law_two"]
abbrev st_law_joint : Stmt := (topS 59)
theorem sc_law_joint : FnScope N_law_joint ["_law_one", "_law_two"] (defScope st_law_joint) := ⟨rfl, rfl, rfl, by decide +kernel, rfl, by decide +kernel, by decide +kernel⟩
abbrev N_law_net : List Str := ["_law_cask_here", "_law_most_spots", "_law_most_rows", "_law_spots_here", "_law_rows", "_law_turn"]
abbrev st_law_net : Stmt := (topS 60)
theorem sc_law_net : FnScope N_law_net ["_law_cask_here", "_law_most_spots", "_law_most_rows"] (defScope st_law_net) := ⟨rfl, rfl, rfl, by decide +kernel, rfl, by decide +kernel, by decide +kernel⟩
abbrev N_law_page : List Str := ["_law_net_here"]
abbrev st_law_page : Stmt := (topS 61)
theorem sc_law_page : FnScope N_law_page ["_law_net_here"] (defScope st_law_page) := ⟨rfl, rfl, rfl, by decide +kernel, rfl, by decide +kernel, by decide +kernel⟩
abbrev N_law_orders : List Str := ["_law_signs", "_law_found", "_law_turn", "_law_later", "_law_each", "_law_sign"]
abbrev st_law_orders : Stmt := (topS 62)
theorem sc_law_orders : FnScope N_law_orders ["_law_signs"] (defScope st_law_orders) := ⟨rfl, rfl, rfl, by decide +kernel, rfl, by decide +kernel, by decide +kernel⟩
abbrev N_law_by : List Str := ["_law_net_here", "_law_signs", "_law_names_here", "_law_rows", "_law_k", "_law_row"]
abbrev st_law_by : Stmt := (topS 63)
theorem sc_law_by : FnScope N_law_by ["_law_net_here", "_law_signs"] (defScope st_law_by) := ⟨rfl, rfl, rfl, by decide +kernel, rfl, by decide +kernel, by decide +kernel⟩
abbrev N_law_single_right : List Str := ["_law_mine", "_law_net_here", "_law_signs", "_law_due", "_law_fresh", "_law_ordered", "_law_back", "_law_sign"]
abbrev st_law_single_right : Stmt := (topS 64)
theorem sc_law_single_right : FnScope N_law_single_right ["_law_mine", "_law_net_here", "_law_signs"] (defScope st_law_single_right) := ⟨rfl, rfl, rfl, by decide +kernel, rfl, by decide +kernel, by decide +kernel⟩
abbrev N_law_stays : List Str := ["_law_mine", "_law_fresh", "_law_one"]
abbrev st_law_stays : Stmt := (topS 65)
theorem sc_law_stays : FnScope N_law_stays ["_law_mine", "_law_fresh"] (defScope st_law_stays) := ⟨rfl, rfl, rfl, by decide +kernel, rfl, by decide +kernel, by decide +kernel⟩
abbrev N_law_right : List Str := ["_law_cask_here", "_law_net_here", "_law_mine", "_law_size", "_law_signs", "_law_own", "_law_every", "_law_first", "_law_pages", "_law_turn", "_law_more", "_law_k", "_law_again", "_law_both", "_law_sign"]
abbrev st_law_right : Stmt := (topS 66)
theorem sc_law_right : FnScope N_law_right ["_law_cask_here"] (defScope st_law_right) := ⟨rfl, rfl, rfl, by decide +kernel, rfl, by decide +kernel, by decide +kernel⟩
abbrev N_law : List Str := ["_law_cells", "_law_at"]
abbrev st_law : Stmt := (topS 67)
theorem sc_law : FnScope N_law ["_law_cells"] (defScope st_law) := ⟨rfl, rfl, rfl, by decide +kernel, rfl, by decide +kernel, by decide +kernel⟩
theorem pm0_rel {α β : Type} (R : α → β → Prop) (vs : List α) (us : List β) (h : Paired R vs us) : Paired R (pm0 vs) (pm0 us) := by
  match vs, us, h with
  | [], [], .nil => exact .nil
  | [_], [_], .cons a0 .nil => exact .cons a0 .nil
  | _ :: _ :: _, _ :: _ :: _, .cons a0 (.cons a1 t) => exact .cons a0 (.cons a1 t)
theorem pm10_rel {α β : Type} (R : α → β → Prop) (vs : List α) (us : List β) (h : Paired R vs us) : Paired R (pm10 vs) (pm10 us) := by
  match vs, us, h with
  | [], [], .nil => exact .nil
  | [_], [_], .cons a0 .nil => exact .cons a0 .nil
  | [_, _], [_, _], .cons a0 (.cons a1 .nil) => exact .cons a1 (.cons a0 .nil)
  | _ :: _ :: _ :: _, _ :: _ :: _ :: _, .cons a0 (.cons a1 (.cons a2 t)) => exact .cons a0 (.cons a1 (.cons a2 t))
structure Mo (K : PySem.W.Frag) (mg : Str → Option Value) (g : Gp) (ad : Nat → Addr) (fd : Nat → FuncData) : Prop where
  f_are_letters : Fun K "are_letters" "are_letters" st_are_letters (ad 0) (fd 0)
  b_are_letters : Binds K (fd 0) ["value"] []
  m_are_letters : mg "are_letters" = some (.ref (ad 0))
  f_are_places : Fun K "are_places" "are_places" st_are_places (ad 1) (fd 1)
  b_are_places : Binds K (fd 1) ["value"] []
  m_are_places : mg "are_places" = some (.ref (ad 1))
  f_is_tie : Fun K "is_tie" "is_tie" st_is_tie (ad 2) (fd 2)
  b_is_tie : Binds K (fd 2) ["places", "value"] []
  m_is_tie : mg "is_tie" = some (.ref (ad 2))
  f_wrong_tie : Fun K "wrong_tie" "wrong_tie" st_wrong_tie (ad 3) (fd 3)
  b_wrong_tie : Binds K (fd 3) ["places", "ties"] []
  m_wrong_tie : mg "wrong_tie" = some (.ref (ad 3))
  f_Webinit : Fun K "__init__" "Web.__init__" st_Webinit (ad 4) (fd 4)
  b_Webinit : Binds K (fd 4) ["self", "places", "ties"] []
  f_Weblen : Fun K "__len__" "Web.__len__" st_Weblen (ad 5) (fd 5)
  b_Weblen : Binds K (fd 5) ["self"] []
  f_Webtext : Fun K "text" "Web.text" st_Webtext (ad 6) (fd 6)
  b_Webtext : Binds K (fd 6) ["self"] []
  f_Webeq : Fun K "__eq__" "Web.__eq__" st_Webeq (ad 7) (fd 7)
  b_Webeq : Binds K (fd 7) ["self", "other"] []
  f_check_web : Fun K "check_web" "check_web" st_check_web (ad 8) (fd 8)
  b_check_web : Binds K (fd 8) ["web"] []
  m_check_web : mg "check_web" = some (.ref (ad 8))
  f_tie_of : Fun K "tie_of" "tie_of" st_tie_of (ad 9) (fd 9)
  b_tie_of : Binds K (fd 9) ["one", "other"] []
  m_tie_of : mg "tie_of" = some (.ref (ad 9))
  f_with_letters : Fun K "with_letters" "with_letters" st_with_letters (ad 10) (fd 10)
  b_with_letters : Binds K (fd 10) ["web", "letters"] []
  m_with_letters : mg "with_letters" = some (.ref (ad 10))
  f_renamed : Fun K "renamed" "renamed" st_renamed (ad 11) (fd 11)
  b_renamed : Binds K (fd 11) ["web", "letters"] []
  m_renamed : mg "renamed" = some (.ref (ad 11))
  f_herds_of : Fun K "herds_of" "herds_of" st_herds_of (ad 12) (fd 12)
  b_herds_of : Binds K (fd 12) ["places", "ties"] []
  m_herds_of : mg "herds_of" = some (.ref (ad 12))
  f_all_orders : Fun K "all_orders" "all_orders" st_all_orders (ad 13) (fd 13)
  b_all_orders : Binds K (fd 13) ["letters"] []
  m_all_orders : mg "all_orders" = some (.ref (ad 13))
  f_drawn : Fun K "drawn" "drawn" st_drawn (ad 14) (fd 14)
  b_drawn : Binds K (fd 14) ["web"] []
  m_drawn : mg "drawn" = some (.ref (ad 14))
  f_renamings_to : Fun K "renamings_to" "renamings_to" st_renamings_to (ad 15) (fd 15)
  b_renamings_to : Binds K (fd 15) ["web", "other"] []
  m_renamings_to : mg "renamings_to" = some (.ref (ad 15))
  f_plain_of : Fun K "plain_of" "plain_of" st_plain_of (ad 16) (fd 16)
  b_plain_of : Binds K (fd 16) ["web"] []
  m_plain_of : mg "plain_of" = some (.ref (ad 16))
  f_plain_text : Fun K "plain_text" "plain_text" st_plain_text (ad 17) (fd 17)
  b_plain_text : Binds K (fd 17) ["web"] []
  m_plain_text : mg "plain_text" = some (.ref (ad 17))
  f_count_renamings : Fun K "count_renamings" "count_renamings" st_count_renamings (ad 18) (fd 18)
  b_count_renamings : Binds K (fd 18) ["web"] []
  m_count_renamings : mg "count_renamings" = some (.ref (ad 18))
  f_every_tie : Fun K "every_tie" "every_tie" st_every_tie (ad 19) (fd 19)
  b_every_tie : Binds K (fd 19) ["web"] []
  m_every_tie : mg "every_tie" = some (.ref (ad 19))
  f_ties_of : Fun K "ties_of" "ties_of" st_ties_of (ad 20) (fd 20)
  b_ties_of : Binds K (fd 20) ["web", "lot"] []
  m_ties_of : mg "ties_of" = some (.ref (ad 20))
  f_pieces_of : Fun K "pieces_of" "pieces_of" st_pieces_of (ad 21) (fd 21)
  b_pieces_of : Binds K (fd 21) ["web", "lot"] []
  m_pieces_of : mg "pieces_of" = some (.ref (ad 21))
  f_rank_of : Fun K "rank_of" "rank_of" st_rank_of (ad 22) (fd 22)
  b_rank_of : Binds K (fd 22) ["web", "lot"] []
  m_rank_of : mg "rank_of" = some (.ref (ad 22))
  f_spare_of : Fun K "spare_of" "spare_of" st_spare_of (ad 23) (fd 23)
  b_spare_of : Binds K (fd 23) ["web", "lot"] []
  m_spare_of : mg "spare_of" = some (.ref (ad 23))
  f_without : Fun K "without" "without" st_without (ad 24) (fd 24)
  b_without : Binds K (fd 24) ["lot", "index"] []
  m_without : mg "without" = some (.ref (ad 24))
  f_is_free_lot : Fun K "is_free_lot" "is_free_lot" st_is_free_lot (ad 25) (fd 25)
  b_is_free_lot : Binds K (fd 25) ["web", "lot"] []
  m_is_free_lot : mg "is_free_lot" = some (.ref (ad 25))
  f_is_round : Fun K "is_round" "is_round" st_is_round (ad 26) (fd 26)
  b_is_round : Binds K (fd 26) ["web", "lot"] []
  m_is_round : mg "is_round" = some (.ref (ad 26))
  f_ends_at : Fun K "ends_at" "ends_at" st_ends_at (ad 27) (fd 27)
  b_ends_at : Binds K (fd 27) ["web", "lot", "place"] []
  m_ends_at : mg "ends_at" = some (.ref (ad 27))
  f_is_even_lot : Fun K "is_even_lot" "is_even_lot" st_is_even_lot (ad 28) (fd 28)
  b_is_even_lot : Binds K (fd 28) ["web", "lot"] []
  m_is_even_lot : mg "is_even_lot" = some (.ref (ad 28))
  f_every_lot : Fun K "every_lot" "every_lot" st_every_lot (ad 29) (fd 29)
  b_every_lot : Binds K (fd 29) ["web"] []
  m_every_lot : mg "every_lot" = some (.ref (ad 29))
  f_every_tree : Fun K "every_tree" "every_tree" st_every_tree (ad 30) (fd 30)
  b_every_tree : Binds K (fd 30) ["web"] []
  m_every_tree : mg "every_tree" = some (.ref (ad 30))
  f_all_rings : Fun K "all_rings" "all_rings" st_all_rings (ad 31) (fd 31)
  b_all_rings : Binds K (fd 31) ["web"] []
  m_all_rings : mg "all_rings" = some (.ref (ad 31))
  f_rings : Fun K "rings" "rings" st_rings (ad 32) (fd 32)
  b_rings : Binds K (fd 32) ["web"] []
  m_rings : mg "rings" = some (.ref (ad 32))
  f_blocks : Fun K "blocks" "blocks" st_blocks (ad 33) (fd 33)
  b_blocks : Binds K (fd 33) ["web"] []
  m_blocks : mg "blocks" = some (.ref (ad 33))
  f_empty_rows : Fun K "empty_rows" "empty_rows" st_empty_rows (ad 34) (fd 34)
  b_empty_rows : Binds K (fd 34) ["web"] []
  m_empty_rows : mg "empty_rows" = some (.ref (ad 34))
  f_as_table : Fun K "as_table" "as_table" st_as_table (ad 35) (fd 35)
  b_as_table : Binds K (fd 35) ["rows"] []
  m_as_table : mg "as_table" = some (.ref (ad 35))
  f_counted_lots : Fun K "counted_lots" "counted_lots" st_counted_lots (ad 36) (fd 36)
  b_counted_lots : Binds K (fd 36) ["web"] []
  m_counted_lots : mg "counted_lots" = some (.ref (ad 36))
  f_ways_to_choose : Fun K "ways_to_choose" "ways_to_choose" st_ways_to_choose (ad 37) (fd 37)
  b_ways_to_choose : Binds K (fd 37) ["many", "some"] []
  m_ways_to_choose : mg "ways_to_choose" = some (.ref (ad 37))
  f_shifted : Fun K "shifted" "shifted" st_shifted (ad 38) (fd 38)
  b_shifted : Binds K (fd 38) ["row"] []
  m_shifted : mg "shifted" = some (.ref (ad 38))
  f_table_rows : Fun K "table_rows" "table_rows" st_table_rows (ad 39) (fd 39)
  b_table_rows : Binds K (fd 39) ["web"] []
  m_table_rows : mg "table_rows" = some (.ref (ad 39))
  f_table : Fun K "table" "table" st_table (ad 40) (fd 40)
  b_table : Binds K (fd 40) ["web"] []
  m_table : mg "table" = some (.ref (ad 40))
  f_all_trees : Fun K "all_trees" "all_trees" st_all_trees (ad 41) (fd 41)
  b_all_trees : Binds K (fd 41) ["web"] []
  m_all_trees : mg "all_trees" = some (.ref (ad 41))
  f_law_cask : Fun K "_law_cask" "_law_cask" st_law_cask (ad 42) (fd 42)
  b_law_cask : Binds K (fd 42) ["_law_cells", "_law_at"] []
  m_law_cask : mg "_law_cask" = some (.ref (ad 42))
  f_law_tap : Fun K "_law_tap" "_law_tap" st_law_tap (ad 43) (fd 43)
  b_law_tap : Binds K (fd 43) ["_law_cask_here", "_law_upto"] []
  m_law_tap : mg "_law_tap" = some (.ref (ad 43))
  f_law_pick : Fun K "_law_pick" "_law_pick" st_law_pick (ad 44) (fd 44)
  b_law_pick : Binds K (fd 44) ["_law_cask_here", "_law_things"] []
  m_law_pick : mg "_law_pick" = some (.ref (ad 44))
  f_law_spots : Fun K "_law_spots" "_law_spots" st_law_spots (ad 45) (fd 45)
  b_law_spots : Binds K (fd 45) ["_law_cask_here", "_law_many_here"] []
  m_law_spots : mg "_law_spots" = some (.ref (ad 45))
  f_law_joint : Fun K "_law_joint" "_law_joint" st_law_joint (ad 46) (fd 46)
  b_law_joint : Binds K (fd 46) ["_law_one", "_law_two"] []
  m_law_joint : mg "_law_joint" = some (.ref (ad 46))
  f_law_net : Fun K "_law_net" "_law_net" st_law_net (ad 47) (fd 47)
  b_law_net : Binds K (fd 47) ["_law_cask_here", "_law_most_spots", "_law_most_rows"] []
  m_law_net : mg "_law_net" = some (.ref (ad 47))
  f_law_page : Fun K "_law_page" "_law_page" st_law_page (ad 48) (fd 48)
  b_law_page : Binds K (fd 48) ["_law_net_here"] []
  m_law_page : mg "_law_page" = some (.ref (ad 48))
  f_law_orders : Fun K "_law_orders" "_law_orders" st_law_orders (ad 49) (fd 49)
  b_law_orders : Binds K (fd 49) ["_law_signs"] []
  m_law_orders : mg "_law_orders" = some (.ref (ad 49))
  f_law_by : Fun K "_law_by" "_law_by" st_law_by (ad 50) (fd 50)
  b_law_by : Binds K (fd 50) ["_law_net_here", "_law_signs"] []
  m_law_by : mg "_law_by" = some (.ref (ad 50))
  f_law_single_right : Fun K "_law_single_right" "_law_single_right" st_law_single_right (ad 51) (fd 51)
  b_law_single_right : Binds K (fd 51) ["_law_mine", "_law_net_here", "_law_signs"] []
  m_law_single_right : mg "_law_single_right" = some (.ref (ad 51))
  f_law_stays : Fun K "_law_stays" "_law_stays" st_law_stays (ad 52) (fd 52)
  b_law_stays : Binds K (fd 52) ["_law_mine", "_law_fresh"] []
  m_law_stays : mg "_law_stays" = some (.ref (ad 52))
  f_law_right : Fun K "_law_right" "_law_right" st_law_right (ad 53) (fd 53)
  b_law_right : Binds K (fd 53) ["_law_cask_here"] []
  m_law_right : mg "_law_right" = some (.ref (ad 53))
  f_law : Fun K "law" "law" st_law (ad 54) (fd 54)
  b_law : Binds K (fd 54) ["_law_cells"] []
  m_law : mg "law" = some (.ref (ad 54))
  kw_count_renamings_0 : KB0 K (fd 18) ["web"] ["web"] pm0
  kw_plain_text_0 : KB0 K (fd 17) ["web"] ["web"] pm0
  kw_renamed_10 : KB0 K (fd 11) ["web", "letters"] ["letters", "web"] pm10
  m_Web : mg "Web" = some (.ref g.Cw)
  z_len : mg "len" = none
  z_all : mg "all" = none
  z_any : mg "any" = none
  z_abs : mg "abs" = none
  z_int : mg "int" = none
  z_bool : mg "bool" = none
  z_divmod : mg "divmod" = none
  z_min : mg "min" = none
  z_max : mg "max" = none
  z_tuple : mg "tuple" = none
  z_list : mg "list" = none
  z_sorted : mg "sorted" = none
  z_str : mg "str" = none
  z_isinstance : mg "isinstance" = none
  z_enumerate : mg "enumerate" = none
  z_range : mg "range" = none
  z_sum : mg "sum" = none
  z_zip : mg "zip" = none
  z_dict : mg "dict" = none
  z_set : mg "set" = none
  g_MOST_PLACES : ∃ t : Tok, mg "MOST_PLACES" = some (.int 7 t)
  g_MOST_TIES : ∃ t : Tok, mg "MOST_TIES" = some (.int 11 t)
  g_LETTERS : ∃ t : Tok, mg "LETTERS" = some (.str "abcdefgh" t)
  wty : WebTy K g
  ck : g.ck = K03.ckOk
  tb : g.T = []
  np : NoAttr K g.Cw "places"
  nt : NoAttr K g.Cw "ties"
  fl : PySem.W.findIn K (.ref g.Cw) "__len__" = some (some (.ref (ad 5)))
  il : PySem.W.isFn K (.ref (ad 5)) = true
  mkw : Mk K g.Cw (ad 4)
  weq : PySem.W.findIn K (.ref g.Cw) "__eq__" = some (some (.ref (ad 7)))
  weqf : PySem.W.isFn K (.ref (ad 7)) = true
  wne : PySem.W.findIn K (.ref g.Cw) "__ne__" = some (some (.builtin "object.__ne__"))
  me_text : Meth K g.Cw "text" (ad 6)
variable {P : Program} {w : World} {K : PySem.W.Frag} {mg : Str → Option Value} {base : Heap} {g : Gp} {ad : Nat → Addr} {fd : Nat → FuncData}
theorem ok_are_letters (M : Mo K mg g ad fd) : FnOk P w K mg base CX0 1 (ad 0) (fd 0) ["value"] (spOf K g S_are_letters) :=
  def_ok M.f_are_letters sc_are_letters S_are_letters_len fun cdv A outer s H E hr => ⟨d_are_letters,
    (gss_cons (gs_if (gw_pt (gw_or (gt_not (gt_val (ge_isi M.wty (.ty "str") (pe_bltn (by rfl) M.z_str rfl rfl) (by intro x b h; cases x <;> simp only [isStrD] at h <;> first | (cases h; exact kit_ty (by decide +kernel)) | cases h) (by rfl) M.z_isinstance (gvb 0)))) (gw_or1 (gt_cmp (or_ne hr.units) od_ne (gb_e (ge_lenDc' rfl sc_are_letters.nd (gi_srcB (gvb 0)) (blkOk_by (N := N_are_letters) (sc := (defScope st_are_letters)) (own := [("letter", 1)]) (by decide +kernel)) (fun s H C cl fp => (gg_name (j := 1) sc_are_letters.nd rfl (by first | exact .inl rfl | exact .inr rfl))) (fun s H C cl fp => (gv 1)) (fun s H C cl fp => ge_bl) (by rfl) M.z_len)) (gb_e (ge_callB cr_len cd_len0 (by rfl) M.z_len (by decide +kernel) (gab_cons (gvb 0) gab_nil))) rfl)))) (gss_one (gs_ret ge_bl)) gss_nil)
      (gss_one (gs_ret (ge_callB (cr_all rfl) cd_all (by rfl) M.z_all (by decide +kernel) (gab_cons (gb_e (ge_n (gn_lc' rfl sc_are_letters.nd (gi_srcB (gvb 0)) (blkOk_by (N := N_are_letters) (sc := (defScope st_are_letters)) (own := [("letter", 1)]) (by decide +kernel)) (fun s H C cl fp => (gg_name (j := 1) sc_are_letters.nd rfl (by first | exact .inl rfl | exact .inr rfl))) (fun s H C cl fp => gts_nil) (fun s H C cl fp => (ge_cmp or_in od_in (gvb 1) (gb_e (ge_globS (by rfl) M.g_LETTERS.choose_spec)) rfl))))) gab_nil))))), law_are_letters⟩
theorem ok_are_places (M : Mo K mg g ad fd) : FnOk P w K mg base CX0 2 (ad 1) (fd 1) ["value"] (spOf K g S_are_places) :=
  def_ok M.f_are_places sc_are_places S_are_places_len fun cdv A outer s H E hr => ⟨d_are_places,
    (gss_one (gs_ret (ge_and (ge_call (ok_are_letters M) (hr.mono (by decide)) (by rfl) M.m_are_letters M.f_are_letters.kp M.b_are_letters (ga_cons (gv 0) ga_nil)) (ge_and (ge_chain or_lt or_le od_lt od_le (gb_e ge_int) (gb_e (ge_callB cr_len cd_len0 (by rfl) M.z_len (by decide +kernel) (gab_cons (gvb 0) gab_nil))) (gb_e (ge_globI (by rfl) M.g_MOST_PLACES.choose_spec))) (ge_one (ge_cmp (or_eq hr.units) od_eq (gb_e (ge_n (gn_callTy (cr_list rfl) cn_list (by rfl) M.z_list (by decide +kernel) (gab_cons (gvb 0) gab_nil)))) (gb_e (ge_n (gn_callB (cr_sorted' rfl hr.units) cn_sorted (by rfl) M.z_sorted (by decide +kernel) (gab_cons (gvb 0) gab_nil)))) rfl)))))), law_are_places⟩
theorem ok_is_tie (M : Mo K mg g ad fd) : FnOk P w K mg base CX0 1 (ad 2) (fd 2) ["places", "value"] (spOf K g S_is_tie) :=
  def_ok M.f_is_tie sc_is_tie S_is_tie_len fun cdv A outer s H E hr => ⟨d_is_tie,
    (gss_cons (gs_if (gw_pt (gw_or (gt_not (gt_val (ge_isi M.wty (.ty "str") (pe_bltn (by rfl) M.z_str rfl rfl) (by intro x b h; cases x <;> simp only [isStrD] at h <;> first | (cases h; exact kit_ty (by decide +kernel)) | cases h) (by rfl) M.z_isinstance (gvb 1)))) (gw_or1 (gt_cmp (or_ne hr.units) od_ne (gb_e (ge_callB cr_len cd_len0 (by rfl) M.z_len (by decide +kernel) (gab_cons (gvb 1) gab_nil))) (gb_e ge_int) rfl)))) (gss_one (gs_ret ge_bl)) gss_nil)
      (gss_one (gs_ret (ge_and (ge_cmp or_in od_in (gb_e (ge_ix (gvb 1) (gb_e ge_int))) (gvb 0) rfl) (ge_and (ge_cmp or_in od_in (gb_e (ge_ix (gvb 1) (gb_e ge_int))) (gvb 0) rfl) (ge_one (ge_cmp or_le od_le (gb_e (ge_ix (gvb 1) (gb_e ge_int))) (gb_e (ge_ix (gvb 1) (gb_e ge_int))) rfl))))))), law_is_tie⟩
theorem ok_wrong_tie (M : Mo K mg g ad fd) : FnOk P w K mg base CX0 2 (ad 3) (fd 3) ["places", "ties"] (spOf K g S_wrong_tie) :=
  def_ok M.f_wrong_tie sc_wrong_tie S_wrong_tie_len fun cdv A outer s H E hr => ⟨d_wrong_tie,
    (gss_cons (gs_for PassesOwn.never rfl (gi_enum (by rfl) M.z_enumerate (gv 1)) (gg_tupK K rfl (ggs_cons (gg_name (j := 2) sc_wrong_tie.nd rfl (by first | exact .inl rfl | exact .inr rfl)) (ggs_cons (gg_name (j := 3) sc_wrong_tie.nd rfl (by first | exact .inl rfl | exact .inr rfl)) ggs_nil)))
      (gss_one (gs_if (gw_pt (gw_or (gt_cmp (or_eq hr.units) od_eq (gvb 2) (gb_e (ge_globI (by rfl) M.g_MOST_TIES.choose_spec)) rfl) (gw_or1 (gt_not (gt_val (ge_call (ok_is_tie M) (hr.mono (by decide)) (by rfl) M.m_is_tie M.f_is_tie.kp M.b_is_tie (ga_cons (gv 0) (ga_cons (gv 3) ga_nil)))))))) (gss_one (gs_ret (gv 2))) gss_nil)))
      (gss_one (gs_ret ge_non))), law_wrong_tie⟩
theorem rel_mk {c : Option Addr} {F H : Hp} {m : Nat} : ∀ {env : Env'} {σ : St}, Ex F H → Ck g c m F H → Paired (fun (s : Sl) (o : Option V) => SlR K g c F H s (some o) ∧ ∀ o, s.adr o = []) env σ → Rel K g c F env m σ H := fun {env σ} e ck h => by
  have get : ∀ {env : Env'} {σ : St}, Paired (fun (s : Sl) (o : Option V) => SlR K g c F H s (some o) ∧ ∀ o, s.adr o = []) env σ → ∀ (i : Nat) (s : Sl), env[i]? = some s → SlR K g c F H s σ[i]? ∧ ∀ o, s.adr o = [] := by
    intro env σ h
    induction h with
    | nil => intro i s h; simp at h
    | cons h t ih =>
      intro i s hs
      cases i with
      | zero => simp at hs; subst hs; exact h
      | succ i => exact ih i s (by simpa using hs)
  exact ⟨e, Paired.length h, fun i s hs => (get h i s hs).1, fun i j si sj a h1 _ ha => by rw [(get h i _ h1).2] at ha; simp at ha, ck⟩
def spInit (K : PySem.W.Frag) (g : Gp) : Sp := fun vs H Q _ => ∃ c F m x dx t P T, vs = [.ref x, .str (plS P), .ref t] ∧ WbOk P T ∧ Ex F H ∧ Ck g c m F H ∧ Rep K g F (.tup (T.map wayD)) (.ref t) ∧ H x = some (.ins g.Cw dx []) ∧ c ≠ some x ∧
  ∀ F' H' H'', Fresh c F H F' H' → Ck g c m F' H' → (∀ b, b ≠ x → H'' b = H' b) → H'' x = some (.ins g.Cw dx [("places", .str (plS P)), ("ties", .ref t)]) → Q .non H''
theorem ok_Webinit (M : Mo K mg g ad fd) : FnOk P w K mg base CX0 3 (ad 4) (fd 4) ["self", "places", "ties"] (spInit K g) := by
  refine M.f_Webinit.ok sc_Webinit (fun vs H Q E h => ?_) (fun cdv A outer s H vs Q E hr h => ?_)
  · obtain ⟨c, F, m, x, dx, t, P, T, rfl, _⟩ := h
    rfl
  · obtain ⟨c, F, m, x, dx, t, P, T, rfl, hW, eF, ck, rt, hx, cx, q⟩ := h
    refine ⟨_, pss_cons (ps_if (gt_not (gt_val (ge_call (ok_are_places M) (hr.mono (by decide)) (by rfl) M.m_are_places M.f_are_places.kp M.b_are_places (ga_cons (gv 1) ga_nil)))) pss_never pss_nil)
      (pss_cons (ps_if (gt_not (gt_val (ge_isi M.wty (.ty "tuple") (pe_bltn (by rfl) M.z_tuple rfl rfl) (f := isTupD) (by intro x b h; cases x <;> simp only [isTupD] at h <;> first | (cases h; exact kit_ty (by decide +kernel)) | cases h) (by rfl) M.z_isinstance (gvb 2)))) pss_never pss_nil)
      (pss_cons (ps_set (i := 3) sc_Webinit.nd rfl (.inl rfl) (ge_call (ok_wrong_tie M) (hr.mono (by decide)) (by rfl) M.m_wrong_tie M.f_wrong_tie.kp M.b_wrong_tie (ga_cons (gv 1) (ga_cons (gv 2) ga_nil))))
      (pss_cons (ps_if (gt_cmp (g := g) op_notN od_notN (gvb 3) (gb_e ge_non) rfl) pss_never pss_nil)
      (pss_cons (ps_fld (pv 0) (pv 1) rfl) (pss_one (ps_fld (pv 0) (pv 2) rfl)))))), ?_⟩
    have r0 : Rel K g c F [.no, .val (.str (plS P)), .val (.tup (T.map wayD)), .no] m [some (.ref x), some (.str (plS P)), some (.ref t), none] H :=
      rel_mk eF ck (.cons ⟨trivial, fun _ => rfl⟩ (.cons ⟨⟨_, rfl, .str _⟩, fun _ => rfl⟩ (.cons ⟨⟨_, rfl, rt⟩, fun _ => rfl⟩ (.cons ⟨trivial, fun _ => rfl⟩ .nil))))
    refine ⟨c, F, _, m, (fun b m1 => b = false ∧ m1 = m), r0, ⟨_, rfl, P, hW.pl, rfl, true, rfl, rfl, rfl⟩, fun b H1 F1 m1 r1 f1 ⟨hb, hm⟩ => ?_⟩
    subst hb hm
    refine ⟨c, F1, _, m1, (fun b m2 => b = false ∧ m2 = m1), r1, ⟨_, rfl, true, rfl, true, rfl, rfl, rfl⟩, fun b H2 F2 m2 r2 f2 ⟨hb, hm⟩ => ?_⟩
    subst hb hm
    refine ⟨c, F2, _, m2, (fun y m3 => y = .non ∧ m3 = m2), r2, ⟨_, rfl, _, rfl, P, T, hW, rfl, rfl, rfl⟩, fun v H3 F3 m3 y r3 f3 rp ⟨hy, hm⟩ => ?_⟩
    subst hy hm
    have r3' := r3.setV (i := 3) rp
    refine ⟨c, F3, _, m3, (fun b m4 => b = false ∧ m4 = m3), r3', ⟨_, rfl, _, rfl, _, rfl, rfl, rfl⟩, fun b H4 F4 m4 r4 f4 ⟨hb, hm⟩ => ?_⟩
    subst hb hm
    have fr := ((f1.trans f2).trans f3).trans f4
    have hx4 : H4 x = some (.ins g.Cw dx []) := fr.hh _ _ hx cx
    refine ⟨_, rfl, _, rfl, x, g.Cw, dx, _, rfl, hx4, M.wty.cls, M.np, by decide, ?_⟩
    refine ⟨_, rfl, _, rfl, x, g.Cw, dx, _, rfl, upd_same, M.wty.cls, M.nt, (show 1 < 1000 by decide), ?_⟩
    refine q F4 H4 _ fr r4.ck (fun b hb => by rw [upd_ne hb, upd_ne hb]) ?_
    rw [upd_same]
    rfl
theorem ge_make {X : Cx} (M : Mo X.K X.mg g ad fd) {e : Expr} {es : List Expr} {da : DA} {p pos : Pos} (hr : Room (3 + 1) X.A) (hg : Gl X "Web") (ha : GA g X (e :: es) da) (he : starEach (e :: es) X.env = (false, eval e X.env) :: starEach es X.env := by rfl) (hpl : (backTo pos (starEach es X.env)).any (·.1) = false := by rfl) :
    GE g X (.Call (.Name "Web" p) (e :: es) [] pos) (dMake da) :=
  PE.weak (pe_make M.mkw (ok_Webinit M) hr hg M.m_Web M.b_Webinit .nil pass0 ha (by decide) he hpl) fun σ H Q ⟨c, F, env, m, Q1, r, h, kk⟩ => ⟨c, F, env, m, _, r, h, fun vs H1 F1 m1 as r1 f1 ar ⟨P, T, hW, eas, q⟩ => fun x dx hx hdx hne => by
    subst eas
    cases ar with
    | cons a1 ar =>
      cases ar with
      | cons a2 ar =>
        cases ar
        cases a1
        have a2' : Rep X.K g F1 (.tup (T.map wayD)) _ := a2
        cases a2' with
        | @tup t xs ds hs hl =>
        have n1 := New.lay (F := F1) (o := .own x) r1.sub hdx
        have hx2 : upd H1 dx (.own x) x = none := by rw [upd_ne (Ne.symm hne)]; exact hx
        have n2 := New.lay (F := F1) (o := .ins g.Cw dx []) n1.fh hx2
        have n := n1.trans n2
        have cx : c ≠ some x := fun z => by obtain ⟨_, _, e, _⟩ := r1.ck x z; rw [e] at hx; cases hx
        have F1x : F1 x = none := ex_none r1.sub hx
        refine ⟨c, F1, m1, x, dx, t, P, T, rfl, hW, n.fh, r1.ck.new n, .tup hs hl, upd_same, cx, fun F' H' H'' fr ck hb hx'' => ⟨rfl, ?_⟩⟩
        have F'x : F' x = none := by
          cases z : F' x with
          | none => rfl
          | some o =>
            rcases fr.new x o z with y | y
            · rw [F1x] at y; cases y
            · rw [upd_same] at y; cases y
        have fresh : Fresh c F1 H1 (upd F' x (.ins g.Cw dx [("places", .str (plS P)), ("ties", .ref t)])) H'' := by
          refine ⟨fr.ff.trans (Evl.Ex.new F'x), fun a o z => ?_, fun a o z nz => ?_, fun a o z => ?_, fun a z => ?_⟩
          · by_cases y : a = x
            · subst y; rw [upd_same] at z; rw [← z]; exact hx''
            · rw [upd_ne y] at z; rw [hb a y]; exact fr.fh a o z
          · have y : a ≠ x := fun e => by subst e; rw [hx] at z; cases z
            rw [hb a y]
            exact fr.hk a o (n.hh a o z) nz
          · by_cases y : a = x
            · subst y; exact .inr hx
            · rw [upd_ne y] at z
              rcases fr.new a o z with u | u
              · exact .inl u
              · exact .inr (ex_none n.hh u)
          · have y : a ≠ x := fun e => cx (by rw [← e]; exact z)
            rw [upd_ne y]; exact fr.nc a z
        have ck' : Ck g c m1 (upd F' x (.ins g.Cw dx [("places", .str (plS P)), ("ties", .ref t)])) H'' := ⟨fun a z => (by
          have y : a ≠ x := fun e => cx (by rw [← e]; exact z)
          obtain ⟨b1, ys, b2, b3⟩ := ck a z
          exact ⟨by rw [upd_ne y]; exact b1, ys, by rw [hb a y]; exact b2, b3⟩), TabF.mono (TabF.keep ck.tb fun b u hu z => by
          have hx' : H' x = some (.ins g.Cw dx []) := fr.hh _ _ upd_same cx
          have y : b ≠ x := fun e => by
            subst e
            rw [hx'] at hu
            cases hu
            rcases z with z | ⟨_, _, z⟩ <;> cases z
          rw [hb b y]; exact hu) (Evl.Ex.new F'x) fun p hp => by
          have hx' : H' x = some (.ins g.Cw dx []) := fr.hh _ _ upd_same cx
          obtain ⟨ps, h1⟩ := ck.tb.at hp
          rw [upd_ne fun e => by rw [e, hx'] at h1; cases h1]
          exact ck.tb.nf p hp⟩
        have hxs : xs = (T.map tS).map V.str := repL_strs (by rw [ts_map]; exact hl)
        refine kk _ H'' _ m1 _ (r1.fresh fresh ck') (f1.trans fresh) (.web upd_same ?_) q
        rw [← hxs]
        exact Evl.ex_t fresh.ff hs⟩
theorem ok_Weblen (M : Mo K mg g ad fd) : FnOk P w K mg base CX0 1 (ad 5) (fd 5) ["self"] (spLen K g) := by
  refine M.f_Weblen.ok sc_Weblen (fun vs H Q E h => ?_) (fun cdv A outer s H vs Q E hr h => ?_)
  · obtain ⟨a, dx, t, pl, ts, rfl, _⟩ := h; rfl
  · obtain ⟨a, dx, t, pl, ts, rfl, ha, ht, q⟩ := h
    exact ⟨_, pss_one (ps_ret (pe_callB call_len_seq (by rfl) M.z_len PySem.boot_len (pa_cons (pe_fld (pv 0) rfl) pa_nil))), ⟨_, rfl, _, _, _, _, _, rfl, ha, M.wty.cls, M.nt, rfl, t, _, rfl, .inr ht, by simpa using q⟩⟩
theorem ok_Webtext (M : Mo K mg g ad fd) : FnOk P w K mg base CX0 1 (ad 6) (fd 6) ["self"] (spOf K g S_Webtext) :=
  def_ok M.f_Webtext sc_Webtext S_Webtext_len fun cdv A outer s H E hr => ⟨d_Webtext,
    (gss_one (gs_ret (ge_mtS PySem.F.slot_str_join PySem.F.type_str_join mt_join md_join (gb_e ge_str) (gab_cons (gb_e (ge_op or_add od_add (gb_e (ge_n (gn_lst (gal_cons (ge_places M.wty.cls M.np (gv 0)) gal_nil)))) (gb_e (ge_n (gn_callTy (cr_list rfl) cn_list (by rfl) M.z_list (by decide +kernel) (gab_cons (gb_e (ge_ties M.wty.cls M.nt (gv 0))) gab_nil)))))) gab_nil)))), law_Webtext⟩
theorem ok_Webeq (M : Mo K mg g ad fd) : FnOk P w K mg base CX0 3 (ad 7) (fd 7) ["self", "other"] (spOf K g S_Webeq) :=
  def_ok M.f_Webeq sc_Webeq S_Webeq_len fun cdv A outer s H E hr => ⟨d_Webeq,
    (gss_one (gs_ret (ge_and (ge_isi M.wty (.own g.Cw) (pe_glob (by rfl) M.m_Web rfl) (by intro x b h; cases x <;> simp only [isWebD] at h <;> first | (cases h; exact kit_same) | cases h) (by rfl) M.z_isinstance (gvb 1)) (ge_one (ge_cmp (or_eq hr.units) od_eq (gb_e (ge_meth0 (ok_Webtext M) (hr.mono (by decide)) M.wty.cls M.me_text M.b_Webtext (gv 0))) (gb_e (ge_meth0 (ok_Webtext M) (hr.mono (by decide)) M.wty.cls M.me_text M.b_Webtext (gv 1))) rfl))))), law_Webeq⟩
theorem ok_check_web (M : Mo K mg g ad fd) : FnOk P w K mg base CX0 1 (ad 8) (fd 8) ["web"] (spOf K g S_check_web) :=
  def_ok M.f_check_web sc_check_web S_check_web_len fun cdv A outer s H E hr => ⟨d_check_web,
    (gss_one (gs_if (gt_not (gt_val (ge_isi M.wty (.own g.Cw) (pe_glob (by rfl) M.m_Web rfl) (by intro x b h; cases x <;> simp only [isWebD] at h <;> first | (cases h; exact kit_same) | cases h) (by rfl) M.z_isinstance (gvb 0)))) (gss_one gs_never) gss_nil)), law_check_web⟩
theorem ok_tie_of (M : Mo K mg g ad fd) : FnOk P w K mg base CX0 1 (ad 9) (fd 9) ["one", "other"] (spOf K g S_tie_of) :=
  def_ok M.f_tie_of sc_tie_of S_tie_of_len fun cdv A outer s H E hr => ⟨d_tie_of,
    (gss_one (gs_ret (ge_op or_add od_add (gb_e (ge_callB (cr_min2 rfl) cd_min2 (by rfl) M.z_min (by decide +kernel) (gab_cons (gvb 0) (gab_cons (gvb 1) gab_nil)))) (gb_e (ge_callB (cr_max2 rfl) cd_max2 (by rfl) M.z_max (by decide +kernel) (gab_cons (gvb 0) (gab_cons (gvb 1) gab_nil))))))), law_tie_of⟩
theorem ok_with_letters (M : Mo K mg g ad fd) : FnOk P w K mg base CX0 5 (ad 10) (fd 10) ["web", "letters"] (spOf K g S_with_letters) :=
  def_ok M.f_with_letters sc_with_letters S_with_letters_len fun cdv A outer s H E hr => ⟨d_with_letters,
    (gss_cons (gs_set (i := 2) sc_with_letters.nd rfl (by first | exact .inl rfl | exact .inr rfl) (ge_nw (gnw_dictZS rfl (by rfl) M.z_dict (by rfl) M.z_zip (ge_places M.wty.cls M.np (gv 0)) (gv 1))))
      (gss_one (gs_ret (ge_make M (hr.mono (by decide)) (by rfl) (ga_cons (ge_mtS PySem.F.slot_str_join PySem.F.type_str_join mt_join md_join (gb_e ge_str) (gab_cons (gb_e (ge_n (gn_callB (cr_sorted' rfl hr.units) cn_sorted (by rfl) M.z_sorted (by decide +kernel) (gab_cons (gvb 1) gab_nil)))) gab_nil)) (ga_cons (ge_callTy cr_tuple cd_tuple (by rfl) M.z_tuple (by decide +kernel) (gab_cons (gb_e (ge_n (gn_lc' rfl sc_with_letters.nd (gi_srcB (gb_e (ge_ties M.wty.cls M.nt (gv 0)))) (blkOk_by (N := N_with_letters) (sc := (defScope st_with_letters)) (own := [("tie", 3)]) (by decide +kernel)) (fun s H C cl fp => (gg_name (j := 3) sc_with_letters.nd rfl (by first | exact .inl rfl | exact .inr rfl))) (fun s H C cl fp => gts_nil) (fun s H C cl fp => (ge_call (ok_tie_of M) (hr.mono (by decide)) (by rfl) M.m_tie_of M.f_tie_of.kp M.b_tie_of (ga_cons (ge_dix hr.units (gvb 2) (ge_ix (gvb 3) (gb_e ge_int))) (ga_cons (ge_dix hr.units (gvb 2) (ge_ix (gvb 3) (gb_e ge_int))) ga_nil))))))) gab_nil)) ga_nil)))))), law_with_letters⟩
theorem ok_renamed (M : Mo K mg g ad fd) : FnOk P w K mg base CX0 6 (ad 11) (fd 11) ["web", "letters"] (spOf K g S_renamed) :=
  def_ok M.f_renamed sc_renamed S_renamed_len fun cdv A outer s H E hr => ⟨d_renamed,
    (gss_cons (gs_expr (ge_call (ok_check_web M) (hr.mono (by decide)) (by rfl) M.m_check_web M.f_check_web.kp M.b_check_web (ga_cons (gv 0) ga_nil)))
      (gss_cons (gs_if (gw_pt (gw_or (gt_not (gt_val (ge_call (ok_are_letters M) (hr.mono (by decide)) (by rfl) M.m_are_letters M.f_are_letters.kp M.b_are_letters (ga_cons (gv 1) ga_nil)))) (gw_or1 (gt_cmp (or_ne hr.units) od_ne (gb_e (ge_callB cr_len cd_len0 (by rfl) M.z_len (by decide +kernel) (gab_cons (gvb 1) gab_nil))) (gb_e (ge_callB cr_len cd_len0 (by rfl) M.z_len (by decide +kernel) (gab_cons (gb_e (ge_places M.wty.cls M.np (gv 0))) gab_nil))) rfl)))) (gss_one gs_never) gss_nil)
      (gss_one (gs_ret (ge_call (ok_with_letters M) (hr.mono (by decide)) (by rfl) M.m_with_letters M.f_with_letters.kp M.b_with_letters (ga_cons (gv 0) (ga_cons (gv 1) ga_nil))))))), law_renamed⟩
theorem ok_herds_of (M : Mo K mg g ad fd) : FnOk P w K mg base CX0 1 (ad 12) (fd 12) ["places", "ties"] (spOf K g S_herds_of) :=
  def_ok M.f_herds_of sc_herds_of S_herds_of_len fun cdv A outer s H E hr => ⟨d_herds_of,
    (gss_cons (gs_set (i := 2) sc_herds_of.nd rfl (by first | exact .inl rfl | exact .inr rfl) (ge_n (gn_callTy (cr_list rfl) cn_list (by rfl) M.z_list (by decide +kernel) (gab_cons (gvb 0) gab_nil))))
      (gss_cons (gs_for PassesOwn.never rfl (gi_src (gv 1)) (gg_tupS rfl (ggs_cons (gg_name (j := 3) sc_herds_of.nd rfl (by first | exact .inl rfl | exact .inr rfl)) (ggs_cons (gg_name (j := 4) sc_herds_of.nd rfl (by first | exact .inl rfl | exact .inr rfl)) ggs_nil)))
      (gss_cons (gs_set (i := 5) sc_herds_of.nd rfl (by first | exact .inl rfl | exact .inr rfl) (ge_n (gn_lc' rfl sc_herds_of.nd (gi_srcB (gvb 2)) (blkOk_by (N := N_herds_of) (sc := (defScope st_herds_of)) (own := [("herd", 7)]) (by decide +kernel)) (fun s H C cl fp => (gg_name (j := 7) sc_herds_of.nd rfl (by first | exact .inl rfl | exact .inr rfl))) (fun s H C cl fp => (gts_one (gw_pt (gw_or (gt_cmp or_in od_in (gvb 3) (gvb 7) rfl) (gw_or1 (gt_cmp or_in od_in (gvb 4) (gvb 7) rfl)))))) (fun s H C cl fp => (gv 7)))))
      (gss_cons (gs_set (i := 6) sc_herds_of.nd rfl (by first | exact .inl rfl | exact .inr rfl) (ge_mtS PySem.F.slot_str_join PySem.F.type_str_join mt_join md_join (gb_e ge_str) (gab_cons (gb_e (ge_n (gn_callB (cr_sorted' rfl hr.units) cn_sorted (by rfl) M.z_sorted (by decide +kernel) (gab_cons (gb_e (ge_mtS PySem.F.slot_str_join PySem.F.type_str_join mt_join md_join (gb_e ge_str) (gab_cons (gvb 5) gab_nil))) gab_nil)))) gab_nil)))
      (gss_one (gs_set (i := 2) sc_herds_of.nd rfl (by first | exact .inl rfl | exact .inr rfl) (ge_op or_add od_add (gb_e (ge_n (gn_lst (gal_cons (gv 6) gal_nil)))) (gb_e (ge_n (gn_lc' rfl sc_herds_of.nd (gi_srcB (gvb 2)) (blkOk_by (N := N_herds_of) (sc := (defScope st_herds_of)) (own := [("herd", 7)]) (by decide +kernel)) (fun s H C cl fp => (gg_name (j := 7) sc_herds_of.nd rfl (by first | exact .inl rfl | exact .inr rfl))) (fun s H C cl fp => (gts_one (gt_cmp or_notin od_notin (gvb 7) (gvb 5) rfl))) (fun s H C cl fp => (gv 7)))))))))))
      (gss_one (gs_ret (ge_n (gn_callB (cr_sorted' rfl hr.units) cn_sorted (by rfl) M.z_sorted (by decide +kernel) (gab_cons (gvb 2) gab_nil))))))), law_herds_of⟩
theorem ok_all_orders (M : Mo K mg g ad fd) : FnOk P w K mg base CX0 1 (ad 13) (fd 13) ["letters"] (spOf K g S_all_orders) :=
  def_ok M.f_all_orders sc_all_orders S_all_orders_len fun cdv A outer s H E hr => ⟨d_all_orders,
    (gss_cons (gs_set (i := 1) sc_all_orders.nd rfl (by first | exact .inl rfl | exact .inr rfl) (ge_n (gn_lst (gal_cons ge_str gal_nil))))
      (gss_cons (gs_for PassesOwn.never rfl (gi_range (by rfl) M.z_range (ge_callB cr_len cd_len0 (by rfl) M.z_len (by decide +kernel) (gab_cons (gvb 0) gab_nil))) (gg_name (j := 2) sc_all_orders.nd rfl (by first | exact .inl rfl | exact .inr rfl))
      (gss_one (gs_setLc2 (i := 1) rfl sc_all_orders.nd rfl rfl rfl (gi_srcB (gvb 1)) (blkOk_by (N := N_all_orders) (sc := (defScope st_all_orders)) (own := [("order", 3), ("letter", 4)]) (by decide +kernel)) (fun s H C cl fp => (gg_name (j := 3) sc_all_orders.nd rfl (by first | exact .inl rfl | exact .inr rfl))) (fun s H C cl fp => gts_nil) (fun s H C cl fp => (gi_src (gv 0))) (fun s H C cl fp => (gg_name (j := 4) sc_all_orders.nd rfl (by first | exact .inl rfl | exact .inr rfl))) (fun s H C cl fp => (gts_one (gt_cmp or_notin od_notin (gvb 4) (gvb 3) rfl))) (fun s H C cl fp => (ge_op or_add od_add (gvb 3) (gvb 4))))))
      (gss_one (gs_ret (gv 1))))), law_all_orders⟩
theorem ok_drawn (M : Mo K mg g ad fd) : FnOk P w K mg base CX0 1 (ad 14) (fd 14) ["web"] (spOf K g S_drawn) :=
  def_ok M.f_drawn sc_drawn S_drawn_len fun cdv A outer s H E hr => ⟨d_drawn,
    (gss_one (gs_ret (ge_tup (gal_cons (ge_places M.wty.cls M.np (gv 0)) (gal_cons (ge_n (gn_callB (cr_sortTp hr.units) cn_sortedT (by rfl) M.z_sorted (by decide +kernel) (gab_cons (gb_e (ge_ties M.wty.cls M.nt (gv 0))) gab_nil))) gal_nil))))), law_drawn⟩
theorem ok_renamings_to (M : Mo K mg g ad fd) : FnOk P w K mg base CX0 6 (ad 15) (fd 15) ["web", "other"] (spOf K g S_renamings_to) :=
  def_ok M.f_renamings_to sc_renamings_to S_renamings_to_len fun cdv A outer s H E hr => ⟨d_renamings_to,
    (gss_cons (gs_if (gw_pt (gw_or (gt_cmp (or_ne hr.units) od_ne (gb_e (ge_callB cr_len cd_len0 (by rfl) M.z_len (by decide +kernel) (gab_cons (gb_e (ge_places M.wty.cls M.np (gv 0))) gab_nil))) (gb_e (ge_callB cr_len cd_len0 (by rfl) M.z_len (by decide +kernel) (gab_cons (gb_e (ge_places M.wty.cls M.np (gv 1))) gab_nil))) rfl) (gw_or1 (gt_cmp (or_ne hr.units) od_ne (gb_e (ge_callB (CallR.or cr_len (cr_lenW (ok_Weblen M) (hr.mono (by decide)) M.fl M.il M.b_Weblen)) cd_lenW (by rfl) M.z_len PySem.boot_len (gab_cons (gvb 0) gab_nil))) (gb_e (ge_callB (CallR.or cr_len (cr_lenW (ok_Weblen M) (hr.mono (by decide)) M.fl M.il M.b_Weblen)) cd_lenW (by rfl) M.z_len PySem.boot_len (gab_cons (gvb 1) gab_nil))) rfl)))) (gss_one (gs_ret (ge_n (gn_lst gal_nil)))) gss_nil)
      (gss_cons (gs_set (i := 2) sc_renamings_to.nd rfl (by first | exact .inl rfl | exact .inr rfl) (ge_call (ok_drawn M) (hr.mono (by decide)) (by rfl) M.m_drawn M.f_drawn.kp M.b_drawn (ga_cons (gv 1) ga_nil)))
      (gss_one (gs_ret (ge_n (gn_lc' rfl sc_renamings_to.nd (gi_srcB (gb_e (ge_call (ok_all_orders M) (hr.mono (by decide)) (by rfl) M.m_all_orders M.f_all_orders.kp M.b_all_orders (ga_cons (ge_places M.wty.cls M.np (gv 1)) ga_nil)))) (blkOk_by (N := N_renamings_to) (sc := (defScope st_renamings_to)) (own := [("letters", 3)]) (by decide +kernel)) (fun s H C cl fp => (gg_name (j := 3) sc_renamings_to.nd rfl (by first | exact .inl rfl | exact .inr rfl))) (fun s H C cl fp => (gts_one (gt_cmp (or_eq hr.units) od_eq (gb_e (ge_call (ok_drawn M) (hr.mono (by decide)) (by rfl) M.m_drawn M.f_drawn.kp M.b_drawn (ga_cons (ge_call (ok_with_letters M) (hr.mono (by decide)) (by rfl) M.m_with_letters M.f_with_letters.kp M.b_with_letters (ga_cons (gv 0) (ga_cons (gv 3) ga_nil))) ga_nil))) (gvb 2) rfl))) (fun s H C cl fp => (gv 3)))))))), law_renamings_to⟩
theorem ok_plain_of (M : Mo K mg g ad fd) : FnOk P w K mg base CX0 6 (ad 16) (fd 16) ["web"] (spOf K g S_plain_of) :=
  def_ok M.f_plain_of sc_plain_of S_plain_of_len fun cdv A outer s H E hr => ⟨d_plain_of,
    (gss_cons (gs_set (i := 1) sc_plain_of.nd rfl (by first | exact .inl rfl | exact .inr rfl) (ge_slice (gb_e (ge_globS (by rfl) M.g_LETTERS.choose_spec)) go_none (go_some (ge_callB cr_len cd_len0 (by rfl) M.z_len (by decide +kernel) (gab_cons (gb_e (ge_places M.wty.cls M.np (gv 0))) gab_nil)))))
      (gss_cons (gs_setLc' (i := 2) rfl sc_plain_of.nd rfl rfl rfl (gi_srcB (gb_e (ge_call (ok_all_orders M) (hr.mono (by decide)) (by rfl) M.m_all_orders M.f_all_orders.kp M.b_all_orders (ga_cons (gv 1) ga_nil)))) (blkOk_by (N := N_plain_of) (sc := (defScope st_plain_of)) (own := [("order", 3)]) (by decide +kernel)) (fun s H C cl fp => (gg_name (j := 3) sc_plain_of.nd rfl (by first | exact .inl rfl | exact .inr rfl))) (fun s H C cl fp => gts_nil) (fun s H C cl fp => (ge_n (gn_callB (cr_sortTp hr.units) cn_sortedT (by rfl) M.z_sorted (by decide +kernel) (gab_cons (gb_e (ge_ties M.wty.cls M.nt (ge_call (ok_with_letters M) (hr.mono (by decide)) (by rfl) M.m_with_letters M.f_with_letters.kp M.b_with_letters (ga_cons (gv 0) (ga_cons (gv 3) ga_nil))))) gab_nil)))))
      (gss_one (gs_ret (ge_mtS PySem.F.slot_str_join PySem.F.type_str_join mt_join md_join (gb_e ge_str) (gab_cons (gb_e (ge_op or_add od_add (gb_e (ge_n (gn_lst (gal_cons (gv 1) gal_nil)))) (gb_e (ge_callB (cr_minT rfl hr.units) cd_minT (by rfl) M.z_min (by decide +kernel) (gab_cons (gvb 2) gab_nil))))) gab_nil)))))), law_plain_of⟩
theorem ok_plain_text (M : Mo K mg g ad fd) : FnOk P w K mg base CX0 7 (ad 17) (fd 17) ["web"] (spOf K g S_plain_text) :=
  def_ok M.f_plain_text sc_plain_text S_plain_text_len fun cdv A outer s H E hr => ⟨d_plain_text,
    (gss_cons (gs_expr (ge_call (ok_check_web M) (hr.mono (by decide)) (by rfl) M.m_check_web M.f_check_web.kp M.b_check_web (ga_cons (gv 0) ga_nil)))
      (gss_one (gs_ret (ge_call (ok_plain_of M) (hr.mono (by decide)) (by rfl) M.m_plain_of M.f_plain_of.kp M.b_plain_of (ga_cons (gv 0) ga_nil))))), law_plain_text⟩
theorem ok_count_renamings (M : Mo K mg g ad fd) : FnOk P w K mg base CX0 7 (ad 18) (fd 18) ["web"] (spOf K g S_count_renamings) :=
  def_ok M.f_count_renamings sc_count_renamings S_count_renamings_len fun cdv A outer s H E hr => ⟨d_count_renamings,
    (gss_cons (gs_expr (ge_call (ok_check_web M) (hr.mono (by decide)) (by rfl) M.m_check_web M.f_check_web.kp M.b_check_web (ga_cons (gv 0) ga_nil)))
      (gss_one (gs_ret (ge_callB cr_len cd_len0 (by rfl) M.z_len (by decide +kernel) (gab_cons (gb_e (ge_call (ok_renamings_to M) (hr.mono (by decide)) (by rfl) M.m_renamings_to M.f_renamings_to.kp M.b_renamings_to (ga_cons (gv 0) (ga_cons (gv 0) ga_nil)))) gab_nil))))), law_count_renamings⟩
theorem ok_every_tie (M : Mo K mg g ad fd) : FnOk P w K mg base CX0 3 (ad 19) (fd 19) ["web"] (spOf K g S_every_tie) :=
  def_ok M.f_every_tie sc_every_tie S_every_tie_len fun cdv A outer s H E hr => ⟨d_every_tie,
    (gss_one (gs_ret (ge_tupRg rfl (by rfl) M.z_tuple (by rfl) M.z_range (ge_callB (CallR.or cr_len (cr_lenW (ok_Weblen M) (hr.mono (by decide)) M.fl M.il M.b_Weblen)) cd_lenW (by rfl) M.z_len PySem.boot_len (gab_cons (gvb 0) gab_nil))))), law_every_tie⟩
theorem ok_ties_of (M : Mo K mg g ad fd) : FnOk P w K mg base CX0 1 (ad 20) (fd 20) ["web", "lot"] (spOf K g S_ties_of) :=
  def_ok M.f_ties_of sc_ties_of S_ties_of_len fun cdv A outer s H E hr => ⟨d_ties_of,
    (gss_one (gs_ret (ge_n (gn_lc' rfl sc_ties_of.nd (gi_srcB (gvb 1)) (blkOk_by (N := N_ties_of) (sc := (defScope st_ties_of)) (own := [("index", 2)]) (by decide +kernel)) (fun s H C cl fp => (gg_name (j := 2) sc_ties_of.nd rfl (by first | exact .inl rfl | exact .inr rfl))) (fun s H C cl fp => gts_nil) (fun s H C cl fp => (ge_ix (gb_e (ge_ties M.wty.cls M.nt (gv 0))) (gvb 2))))))), law_ties_of⟩
theorem ok_pieces_of (M : Mo K mg g ad fd) : FnOk P w K mg base CX0 2 (ad 21) (fd 21) ["web", "lot"] (spOf K g S_pieces_of) :=
  def_ok M.f_pieces_of sc_pieces_of S_pieces_of_len fun cdv A outer s H E hr => ⟨d_pieces_of,
    (gss_one (gs_ret (ge_call (ok_herds_of M) (hr.mono (by decide)) (by rfl) M.m_herds_of M.f_herds_of.kp M.b_herds_of (ga_cons (ge_places M.wty.cls M.np (gv 0)) (ga_cons (ge_call (ok_ties_of M) (hr.mono (by decide)) (by rfl) M.m_ties_of M.f_ties_of.kp M.b_ties_of (ga_cons (gv 0) (ga_cons (gv 1) ga_nil))) ga_nil))))), law_pieces_of⟩
theorem ok_rank_of (M : Mo K mg g ad fd) : FnOk P w K mg base CX0 3 (ad 22) (fd 22) ["web", "lot"] (spOf K g S_rank_of) :=
  def_ok M.f_rank_of sc_rank_of S_rank_of_len fun cdv A outer s H E hr => ⟨d_rank_of,
    (gss_one (gs_ret (ge_op op_sub od_sub (gb_e (ge_callB cr_len cd_len0 (by rfl) M.z_len (by decide +kernel) (gab_cons (gb_e (ge_places M.wty.cls M.np (gv 0))) gab_nil))) (gb_e (ge_callB cr_len cd_len0 (by rfl) M.z_len (by decide +kernel) (gab_cons (gb_e (ge_call (ok_pieces_of M) (hr.mono (by decide)) (by rfl) M.m_pieces_of M.f_pieces_of.kp M.b_pieces_of (ga_cons (gv 0) (ga_cons (gv 1) ga_nil)))) gab_nil)))))), law_rank_of⟩
theorem ok_spare_of (M : Mo K mg g ad fd) : FnOk P w K mg base CX0 4 (ad 23) (fd 23) ["web", "lot"] (spOf K g S_spare_of) :=
  def_ok M.f_spare_of sc_spare_of S_spare_of_len fun cdv A outer s H E hr => ⟨d_spare_of,
    (gss_one (gs_ret (ge_op op_sub od_sub (gb_e (ge_callB cr_len cd_len0 (by rfl) M.z_len (by decide +kernel) (gab_cons (gvb 1) gab_nil))) (gb_e (ge_call (ok_rank_of M) (hr.mono (by decide)) (by rfl) M.m_rank_of M.f_rank_of.kp M.b_rank_of (ga_cons (gv 0) (ga_cons (gv 1) ga_nil))))))), law_spare_of⟩
theorem ok_without (M : Mo K mg g ad fd) : FnOk P w K mg base CX0 1 (ad 24) (fd 24) ["lot", "index"] (spOf K g S_without) :=
  def_ok M.f_without sc_without S_without_len fun cdv A outer s H E hr => ⟨d_without,
    (gss_one (gs_ret (ge_callTy cr_tuple cd_tuple (by rfl) M.z_tuple (by decide +kernel) (gab_cons (gb_e (ge_n (gn_lc' rfl sc_without.nd (gi_srcB (gvb 0)) (blkOk_by (N := N_without) (sc := (defScope st_without)) (own := [("own", 2)]) (by decide +kernel)) (fun s H C cl fp => (gg_name (j := 2) sc_without.nd rfl (by first | exact .inl rfl | exact .inr rfl))) (fun s H C cl fp => (gts_one (gt_cmp (or_ne hr.units) od_ne (gvb 2) (gvb 1) rfl))) (fun s H C cl fp => (gv 2))))) gab_nil)))), law_without⟩
theorem ok_is_free_lot (M : Mo K mg g ad fd) : FnOk P w K mg base CX0 5 (ad 25) (fd 25) ["web", "lot"] (spOf K g S_is_free_lot) :=
  def_ok M.f_is_free_lot sc_is_free_lot S_is_free_lot_len fun cdv A outer s H E hr => ⟨d_is_free_lot,
    (gss_one (gs_ret (ge_cmp (or_eq hr.units) od_eq (gb_e (ge_call (ok_spare_of M) (hr.mono (by decide)) (by rfl) M.m_spare_of M.f_spare_of.kp M.b_spare_of (ga_cons (gv 0) (ga_cons (gv 1) ga_nil)))) (gb_e ge_int) rfl))), law_is_free_lot⟩
theorem ok_is_round (M : Mo K mg g ad fd) : FnOk P w K mg base CX0 6 (ad 26) (fd 26) ["web", "lot"] (spOf K g S_is_round) :=
  def_ok M.f_is_round sc_is_round S_is_round_len fun cdv A outer s H E hr => ⟨d_is_round,
    (gss_one (gs_ret (ge_and (ge_cmp (or_eq hr.units) od_eq (gb_e (ge_call (ok_spare_of M) (hr.mono (by decide)) (by rfl) M.m_spare_of M.f_spare_of.kp M.b_spare_of (ga_cons (gv 0) (ga_cons (gv 1) ga_nil)))) (gb_e ge_int) rfl) (ge_one (ge_callB (cr_all rfl) cd_all (by rfl) M.z_all (by decide +kernel) (gab_cons (gb_e (ge_n (gn_lc' rfl sc_is_round.nd (gi_srcB (gvb 1)) (blkOk_by (N := N_is_round) (sc := (defScope st_is_round)) (own := [("index", 2)]) (by decide +kernel)) (fun s H C cl fp => (gg_name (j := 2) sc_is_round.nd rfl (by first | exact .inl rfl | exact .inr rfl))) (fun s H C cl fp => gts_nil) (fun s H C cl fp => (ge_call (ok_is_free_lot M) (hr.mono (by decide)) (by rfl) M.m_is_free_lot M.f_is_free_lot.kp M.b_is_free_lot (ga_cons (gv 0) (ga_cons (ge_call (ok_without M) (hr.mono (by decide)) (by rfl) M.m_without M.f_without.kp M.b_without (ga_cons (gv 1) (ga_cons (gv 2) ga_nil))) ga_nil))))))) gab_nil)))))), law_is_round⟩
theorem ok_ends_at (M : Mo K mg g ad fd) : FnOk P w K mg base CX0 2 (ad 27) (fd 27) ["web", "lot", "place"] (spOf K g S_ends_at) :=
  def_ok M.f_ends_at sc_ends_at S_ends_at_len fun cdv A outer s H E hr => ⟨d_ends_at,
    (gss_one (gs_ret (ge_callB (cr_sumG rfl) cd_sum (by rfl) M.z_sum (by decide +kernel) (gab_cons (gb_e (ge_n (gn_lc' rfl sc_ends_at.nd (gi_srcB (gb_e (ge_call (ok_ties_of M) (hr.mono (by decide)) (by rfl) M.m_ties_of M.f_ties_of.kp M.b_ties_of (ga_cons (gv 0) (ga_cons (gv 1) ga_nil))))) (blkOk_by (N := N_ends_at) (sc := (defScope st_ends_at)) (own := [("tie", 3)]) (by decide +kernel)) (fun s H C cl fp => (gg_name (j := 3) sc_ends_at.nd rfl (by first | exact .inl rfl | exact .inr rfl))) (fun s H C cl fp => gts_nil) (fun s H C cl fp => (ge_mtS PySem.F.slot_str_count PySem.F.type_str_count mt_count md_scount (gvb 3) (gab_cons (gvb 2) gab_nil)))))) gab_nil)))), law_ends_at⟩
theorem ok_is_even_lot (M : Mo K mg g ad fd) : FnOk P w K mg base CX0 3 (ad 28) (fd 28) ["web", "lot"] (spOf K g S_is_even_lot) :=
  def_ok M.f_is_even_lot sc_is_even_lot S_is_even_lot_len fun cdv A outer s H E hr => ⟨d_is_even_lot,
    (gss_one (gs_ret (ge_callB (cr_all rfl) cd_all (by rfl) M.z_all (by decide +kernel) (gab_cons (gb_e (ge_n (gn_lc' rfl sc_is_even_lot.nd (gi_srcB (gb_e (ge_places M.wty.cls M.np (gv 0)))) (blkOk_by (N := N_is_even_lot) (sc := (defScope st_is_even_lot)) (own := [("place", 2)]) (by decide +kernel)) (fun s H C cl fp => (gg_name (j := 2) sc_is_even_lot.nd rfl (by first | exact .inl rfl | exact .inr rfl))) (fun s H C cl fp => gts_nil) (fun s H C cl fp => (ge_cmp (or_eq hr.units) od_eq (gb_e (ge_op op_mod od_mod (gb_e (ge_call (ok_ends_at M) (hr.mono (by decide)) (by rfl) M.m_ends_at M.f_ends_at.kp M.b_ends_at (ga_cons (gv 0) (ga_cons (gv 1) (ga_cons (gv 2) ga_nil))))) (gb_e ge_int))) (gb_e ge_int) rfl))))) gab_nil)))), law_is_even_lot⟩
theorem ok_every_lot (M : Mo K mg g ad fd) : FnOk P w K mg base CX0 4 (ad 29) (fd 29) ["web"] (spOf K g S_every_lot) :=
  def_ok M.f_every_lot sc_every_lot S_every_lot_len fun cdv A outer s H E hr => ⟨d_every_lot,
    (gss_cons (gs_set (i := 1) sc_every_lot.nd rfl (by first | exact .inl rfl | exact .inr rfl) (ge_n (gn_lst (gal_cons (ge_tup gal_nil) gal_nil))))
      (gss_cons (gs_for PassesOwn.never rfl (gi_src (ge_call (ok_every_tie M) (hr.mono (by decide)) (by rfl) M.m_every_tie M.f_every_tie.kp M.b_every_tie (ga_cons (gv 0) ga_nil))) (gg_name (j := 2) sc_every_lot.nd rfl (by first | exact .inl rfl | exact .inr rfl))
      (gss_one (gs_set (i := 1) sc_every_lot.nd rfl (by first | exact .inl rfl | exact .inr rfl) (ge_op or_add od_add (gvb 1) (gb_e (ge_n (gn_lc' rfl sc_every_lot.nd (gi_srcB (gvb 1)) (blkOk_by (N := N_every_lot) (sc := (defScope st_every_lot)) (own := [("lot", 3)]) (by decide +kernel)) (fun s H C cl fp => (gg_name (j := 3) sc_every_lot.nd rfl (by first | exact .inl rfl | exact .inr rfl))) (fun s H C cl fp => gts_nil) (fun s H C cl fp => (ge_op or_add od_add (gvb 3) (gb_e (ge_tup (gal_cons (gv 2) gal_nil))))))))))))
      (gss_one (gs_ret (ge_n (gn_callB (cr_sort0 hr.units) cn_sorted0 (by rfl) M.z_sorted (by decide +kernel) (gab_cons (gvb 1) gab_nil))))))), law_every_lot⟩
theorem ok_every_tree (M : Mo K mg g ad fd) : FnOk P w K mg base CX0 6 (ad 30) (fd 30) ["web"] (spOf K g S_every_tree) :=
  def_ok M.f_every_tree sc_every_tree S_every_tree_len fun cdv A outer s H E hr => ⟨d_every_tree,
    (gss_cons (gs_set (i := 1) sc_every_tree.nd rfl (by first | exact .inl rfl | exact .inr rfl) (ge_call (ok_rank_of M) (hr.mono (by decide)) (by rfl) M.m_rank_of M.f_rank_of.kp M.b_rank_of (ga_cons (gv 0) (ga_cons (ge_call (ok_every_tie M) (hr.mono (by decide)) (by rfl) M.m_every_tie M.f_every_tie.kp M.b_every_tie (ga_cons (gv 0) ga_nil)) ga_nil))))
      (gss_one (gs_ret (ge_n (gn_lc' rfl sc_every_tree.nd (gi_srcB (gb_e (ge_call (ok_every_lot M) (hr.mono (by decide)) (by rfl) M.m_every_lot M.f_every_lot.kp M.b_every_lot (ga_cons (gv 0) ga_nil)))) (blkOk_by (N := N_every_tree) (sc := (defScope st_every_tree)) (own := [("lot", 2)]) (by decide +kernel)) (fun s H C cl fp => (gg_name (j := 2) sc_every_tree.nd rfl (by first | exact .inl rfl | exact .inr rfl))) (fun s H C cl fp => (gts_one (gw_pt (gw_and (gt_cmp (or_eq hr.units) od_eq (gb_e (ge_callB cr_len cd_len0 (by rfl) M.z_len (by decide +kernel) (gab_cons (gvb 2) gab_nil))) (gvb 1) rfl) (gw_and1 (gt_val (ge_call (ok_is_free_lot M) (hr.mono (by decide)) (by rfl) M.m_is_free_lot M.f_is_free_lot.kp M.b_is_free_lot (ga_cons (gv 0) (ga_cons (gv 2) ga_nil))))))))) (fun s H C cl fp => (gv 2))))))), law_every_tree⟩
theorem ok_all_rings (M : Mo K mg g ad fd) : FnOk P w K mg base CX0 7 (ad 31) (fd 31) ["web"] (spOf K g S_all_rings) :=
  def_ok M.f_all_rings sc_all_rings S_all_rings_len fun cdv A outer s H E hr => ⟨d_all_rings,
    (gss_one (gs_ret (ge_n (gn_lc' rfl sc_all_rings.nd (gi_srcB (gb_e (ge_call (ok_every_lot M) (hr.mono (by decide)) (by rfl) M.m_every_lot M.f_every_lot.kp M.b_every_lot (ga_cons (gv 0) ga_nil)))) (blkOk_by (N := N_all_rings) (sc := (defScope st_all_rings)) (own := [("lot", 1)]) (by decide +kernel)) (fun s H C cl fp => (gg_name (j := 1) sc_all_rings.nd rfl (by first | exact .inl rfl | exact .inr rfl))) (fun s H C cl fp => (gts_one (gw_pt (gw_and (gt_val (ge_call (ok_is_even_lot M) (hr.mono (by decide)) (by rfl) M.m_is_even_lot M.f_is_even_lot.kp M.b_is_even_lot (ga_cons (gv 0) (ga_cons (gv 1) ga_nil)))) (gw_and1 (gt_val (ge_call (ok_is_round M) (hr.mono (by decide)) (by rfl) M.m_is_round M.f_is_round.kp M.b_is_round (ga_cons (gv 0) (ga_cons (gv 1) ga_nil))))))))) (fun s H C cl fp => (gv 1)))))), law_all_rings⟩
theorem ok_rings (M : Mo K mg g ad fd) : FnOk P w K mg base CX0 8 (ad 32) (fd 32) ["web"] (spOf K g S_rings) :=
  def_ok M.f_rings sc_rings S_rings_len fun cdv A outer s H E hr => ⟨d_rings,
    (gss_cons (gs_expr (ge_call (ok_check_web M) (hr.mono (by decide)) (by rfl) M.m_check_web M.f_check_web.kp M.b_check_web (ga_cons (gv 0) ga_nil)))
      (gss_one (gs_ret (ge_callTy cr_tuple cd_tuple (by rfl) M.z_tuple (by decide +kernel) (gab_cons (gb_e (ge_call (ok_all_rings M) (hr.mono (by decide)) (by rfl) M.m_all_rings M.f_all_rings.kp M.b_all_rings (ga_cons (gv 0) ga_nil))) gab_nil))))), law_rings⟩
theorem ok_blocks (M : Mo K mg g ad fd) : FnOk P w K mg base CX0 8 (ad 33) (fd 33) ["web"] (spOf K g S_blocks) :=
  def_ok M.f_blocks sc_blocks S_blocks_len fun cdv A outer s H E hr => ⟨d_blocks,
    (gss_cons (gs_expr (ge_call (ok_check_web M) (hr.mono (by decide)) (by rfl) M.m_check_web M.f_check_web.kp M.b_check_web (ga_cons (gv 0) ga_nil)))
      (gss_cons (gs_setLc' (i := 1) rfl sc_blocks.nd rfl rfl rfl (gi_srcB (gb_e (ge_call (ok_every_tie M) (hr.mono (by decide)) (by rfl) M.m_every_tie M.f_every_tie.kp M.b_every_tie (ga_cons (gv 0) ga_nil)))) (blkOk_by (N := N_blocks) (sc := (defScope st_blocks)) (own := [("index", 5)]) (by decide +kernel)) (fun s H C cl fp => (gg_name (j := 5) sc_blocks.nd rfl (by first | exact .inl rfl | exact .inr rfl))) (fun s H C cl fp => gts_nil) (fun s H C cl fp => (ge_tup (gal_cons (gv 5) gal_nil))))
      (gss_cons (gs_for PassesOwn.never rfl (gi_src (ge_call (ok_all_rings M) (hr.mono (by decide)) (by rfl) M.m_all_rings M.f_all_rings.kp M.b_all_rings (ga_cons (gv 0) ga_nil))) (gg_name (j := 2) sc_blocks.nd rfl (by first | exact .inl rfl | exact .inr rfl))
      (gss_cons (gs_set (i := 3) sc_blocks.nd rfl (by first | exact .inl rfl | exact .inr rfl) (ge_n (gn_lc' rfl sc_blocks.nd (gi_srcB (gvb 1)) (blkOk_by (N := N_blocks) (sc := (defScope st_blocks)) (own := [("block", 6)]) (by decide +kernel)) (fun s H C cl fp => (gg_name (j := 6) sc_blocks.nd rfl (by first | exact .inl rfl | exact .inr rfl))) (fun s H C cl fp => (gts_one (gt_val (ge_callB (cr_any rfl) cd_any (by rfl) M.z_any (by decide +kernel) (gab_cons (gb_e (ge_n (gn_lc' rfl sc_blocks.nd (gi_srcB (gvb 6)) (blkOk_by (N := N_blocks) (sc := ({ kind := PySem.ScopeKind.function, names := [(PySem.Str.ofString ".0", PySem.NameKind.local), (PySem.Str.ofString "block", PySem.NameKind.local), (PySem.Str.ofString "any", PySem.NameKind.globalImplicit), (PySem.Str.ofString "ring", PySem.NameKind.cell)], isGenerator := false, isCoroutine := false, more := [] : PySem.Scope })) (own := [("index", 5)]) (by decide +kernel)) (fun s H C cl fp => (gg_name (j := 5) sc_blocks.nd rfl (by first | exact .inl rfl | exact .inr rfl))) (fun s H C cl fp => gts_nil) (fun s H C cl fp => (ge_cmp or_in od_in (gvb 5) (gvb 2) rfl))))) gab_nil))))) (fun s H C cl fp => (gv 6)))))
      (gss_cons (gs_set (i := 4) sc_blocks.nd rfl (by first | exact .inl rfl | exact .inr rfl) (ge_callTy cr_tuple cd_tuple (by rfl) M.z_tuple (by decide +kernel) (gab_cons (gb_e (ge_n (gn_callB (cr_sorted' rfl hr.units) cn_sorted (by rfl) M.z_sorted (by decide +kernel) (gab_cons (gb_e (ge_n (gn_lc2 rfl sc_blocks.nd (gi_srcB (gvb 3)) (blkOk_by (N := N_blocks) (sc := (defScope st_blocks)) (own := [("block", 6), ("index", 5)]) (by decide +kernel)) (fun s H C cl fp => (gg_name (j := 6) sc_blocks.nd rfl (by first | exact .inl rfl | exact .inr rfl))) (fun s H C cl fp => gts_nil) (fun s H C cl fp => (gi_src (gv 6))) (fun s H C cl fp => (gg_name (j := 5) sc_blocks.nd rfl (by first | exact .inl rfl | exact .inr rfl))) (fun s H C cl fp => gts_nil) (fun s H C cl fp => (gv 5))))) gab_nil)))) gab_nil)))
      (gss_one (gs_set (i := 1) sc_blocks.nd rfl (by first | exact .inl rfl | exact .inr rfl) (ge_op or_add od_add (gb_e (ge_n (gn_lst (gal_cons (gv 4) gal_nil)))) (gb_e (ge_n (gn_lc' rfl sc_blocks.nd (gi_srcB (gvb 1)) (blkOk_by (N := N_blocks) (sc := (defScope st_blocks)) (own := [("block", 6)]) (by decide +kernel)) (fun s H C cl fp => (gg_name (j := 6) sc_blocks.nd rfl (by first | exact .inl rfl | exact .inr rfl))) (fun s H C cl fp => (gts_one (gt_cmp (op_notInQ (units65 hr)) od_notInQ (gvb 6) (gvb 3) rfl))) (fun s H C cl fp => (gv 6)))))))))))
      (gss_one (gs_ret (ge_callTy cr_tuple cd_tuple (by rfl) M.z_tuple (by decide +kernel) (gab_cons (gb_e (ge_n (gn_callB (cr_sorted' rfl hr.units) cn_sorted (by rfl) M.z_sorted (by decide +kernel) (gab_cons (gvb 1) gab_nil)))) gab_nil))))))), law_blocks⟩
theorem ok_empty_rows (M : Mo K mg g ad fd) : FnOk P w K mg base CX0 5 (ad 34) (fd 34) ["web"] (spOfT K g S_empty_rows) :=
  def_okT M.f_empty_rows sc_empty_rows S_empty_rows_len rfl fun cdv A outer s H E hr => ⟨d1_empty_rows, d2_empty_rows,
    (gs_set (i := 1) sc_empty_rows.nd rfl (by first | exact .inl rfl | exact .inr rfl) (ge_call (ok_every_tie M) (hr.mono (by decide)) (by rfl) M.m_every_tie M.f_every_tie.kp M.b_every_tie (ga_cons (gv 0) ga_nil))),
    (gnt_lc rfl sc_empty_rows.nd (gi_bor (gi_range (by rfl) M.z_range (ge_op or_add od_add (gb_e (ge_call (ok_rank_of M) (hr.mono (by decide)) (by rfl) M.m_rank_of M.f_rank_of.kp M.b_rank_of (ga_cons (gv 0) (ga_cons (gv 1) ga_nil)))) (gb_e ge_int)))) (blkOk_by (N := N_empty_rows) (sc := (defScope st_empty_rows)) (own := [("turn", 2)]) (by decide +kernel)) (fun s H C cl fp => (gg_name (j := 2) sc_empty_rows.nd rfl (by first | exact .inl rfl | exact .inr rfl))) (fun s H C cl fp => (gn_repL (ge_n (gn_lst (gal_cons ge_int gal_nil))) (ge_op or_add od_add (gb_e (ge_call (ok_spare_of M) (hr.mono (by decide)) (by rfl) M.m_spare_of M.f_spare_of.kp M.b_spare_of (ga_cons (gv 0) (ga_cons (gv 1) ga_nil)))) (gb_e ge_int))))), law_empty_rows⟩
theorem ok_as_table (M : Mo K mg g ad fd) : FnOk P w K mg base CX0 1 (ad 35) (fd 35) ["rows"] (spOf K g S_as_table) :=
  def_ok M.f_as_table sc_as_table S_as_table_len fun cdv A outer s H E hr => ⟨d_as_table,
    (gss_one (gs_ret (ge_callTy cr_tuple cd_tuple (by rfl) M.z_tuple (by decide +kernel) (gab_cons (gb_e (ge_n (gn_lc' rfl sc_as_table.nd (gi_srcB (gvb 0)) (blkOk_by (N := N_as_table) (sc := (defScope st_as_table)) (own := [("row", 1)]) (by decide +kernel)) (fun s H C cl fp => (gg_name (j := 1) sc_as_table.nd rfl (by first | exact .inl rfl | exact .inr rfl))) (fun s H C cl fp => gts_nil) (fun s H C cl fp => (ge_callTy cr_tuple cd_tuple (by rfl) M.z_tuple (by decide +kernel) (gab_cons (gvb 1) gab_nil)))))) gab_nil)))), law_as_table⟩
theorem ok_counted_lots (M : Mo K mg g ad fd) : FnOk P w K mg base CX0 6 (ad 36) (fd 36) ["web"] (spOf K g S_counted_lots) :=
  def_ok M.f_counted_lots sc_counted_lots S_counted_lots_len fun cdv A outer s H E hr => ⟨d_counted_lots,
    (gss_cons (gs_mix2 (i := 1) (j := 2) rfl sc_counted_lots.nd rfl rfl (by decide) rfl rfl (gmx_tab (gnt_call (ok_empty_rows M) (hr.mono (by decide)) (by rfl) M.m_empty_rows M.f_empty_rows.kp M.b_empty_rows (ga_cons (gv 0) ga_nil)) (gmx_val (ge_call (ok_rank_of M) (hr.mono (by decide)) (by rfl) M.m_rank_of M.f_rank_of.kp M.b_rank_of (ga_cons (gv 0) (ga_cons (ge_call (ok_every_tie M) (hr.mono (by decide)) (by rfl) M.m_every_tie M.f_every_tie.kp M.b_every_tie (ga_cons (gv 0) ga_nil)) ga_nil))) gmx_nil)) rfl)
      (gss_cons (gs_for PassesOwn.never rfl (gi_src (ge_call (ok_every_lot M) (hr.mono (by decide)) (by rfl) M.m_every_lot M.f_every_lot.kp M.b_every_lot (ga_cons (gv 0) ga_nil))) (gg_name (j := 3) sc_counted_lots.nd rfl (by first | exact .inl rfl | exact .inr rfl))
      (gss_one (gs_augT 1 ip_add (ge_op op_sub od_sub (gvb 2) (gb_e (ge_call (ok_rank_of M) (hr.mono (by decide)) (by rfl) M.m_rank_of M.f_rank_of.kp M.b_rank_of (ga_cons (gv 0) (ga_cons (gv 3) ga_nil))))) (ge_call (ok_spare_of M) (hr.mono (by decide)) (by rfl) M.m_spare_of M.f_spare_of.kp M.b_spare_of (ga_cons (gv 0) (ga_cons (gv 3) ga_nil))) ge_int)))
      (gss_one (gs_freezeT 1 (gs_ret (gv 1)))))), law_counted_lots⟩
theorem ok_ways_to_choose (M : Mo K mg g ad fd) : FnOk P w K mg base CX0 1 (ad 37) (fd 37) ["many", "some"] (spOf K g S_ways_to_choose) :=
  def_ok M.f_ways_to_choose sc_ways_to_choose S_ways_to_choose_len fun cdv A outer s H E hr => ⟨d_ways_to_choose,
    (gss_cons (gs_set (i := 2) sc_ways_to_choose.nd rfl (by first | exact .inl rfl | exact .inr rfl) ge_int)
      (gss_cons (gs_for PassesOwn.never rfl (gi_range (by rfl) M.z_range (gv 1)) (gg_name (j := 3) sc_ways_to_choose.nd rfl (by first | exact .inl rfl | exact .inr rfl))
      (gss_one (gs_set (i := 2) sc_ways_to_choose.nd rfl (by first | exact .inl rfl | exact .inr rfl) (ge_op op_fdiv od_fdiv (gb_e (ge_op or_mul od_mul (gvb 2) (gb_e (ge_op op_sub od_sub (gvb 0) (gvb 3))))) (gb_e (ge_op or_add od_add (gvb 3) (gb_e ge_int)))))))
      (gss_one (gs_ret (gv 2))))), law_ways_to_choose⟩
theorem ok_shifted (M : Mo K mg g ad fd) : FnOk P w K mg base CX0 2 (ad 38) (fd 38) ["row"] (spOf K g S_shifted) :=
  def_ok M.f_shifted sc_shifted S_shifted_len fun cdv A outer s H E hr => ⟨d_shifted,
    (gss_cons (gs_setW (i := 1) sc_shifted.nd rfl (by first | exact .inl rfl | exact .inr rfl) (gnw_n (gn_repL (ge_n (gn_lst (gal_cons ge_int gal_nil))) (ge_callB cr_len cd_len0 (by rfl) M.z_len (by decide +kernel) (gab_cons (gvb 0) gab_nil)))))
      (gss_cons (gs_for PassesOwn.never rfl (gi_enum (by rfl) M.z_enumerate (gv 0)) (gg_tupK K rfl (ggs_cons (gg_name (j := 2) sc_shifted.nd rfl (by first | exact .inl rfl | exact .inr rfl)) (ggs_cons (gg_name (j := 3) sc_shifted.nd rfl (by first | exact .inl rfl | exact .inr rfl)) ggs_nil)))
      (gss_one (gs_for PassesOwn.never rfl (gi_range (by rfl) M.z_range (ge_op or_add od_add (gvb 2) (gb_e ge_int))) (gg_name (j := 4) sc_shifted.nd rfl (by first | exact .inl rfl | exact .inr rfl))
      (gss_one (gs_augL 1 (gv 4) (ge_op or_mul od_mul (gb_e (ge_op or_mul od_mul (gvb 3) (gb_e (ge_call (ok_ways_to_choose M) (hr.mono (by decide)) (by rfl) M.m_ways_to_choose M.f_ways_to_choose.kp M.b_ways_to_choose (ga_cons (gv 2) (ga_cons (gv 4) ga_nil)))))) (gb_e (ge_if (gt_cmp (or_eq hr.units) od_eq (gb_e (ge_op op_mod od_mod (gb_e (ge_op op_sub od_sub (gvb 2) (gvb 4))) (gb_e ge_int))) (gb_e ge_int) rfl) ge_negI ge_int))))))))
      (gss_one (gs_retO 1)))), law_shifted⟩
theorem ok_table_rows (M : Mo K mg g ad fd) : FnOk P w K mg base CX0 7 (ad 39) (fd 39) ["web"] (spOf K g S_table_rows) :=
  def_ok M.f_table_rows sc_table_rows S_table_rows_len fun cdv A outer s H E hr => ⟨d_table_rows,
    (gss_cons (gs_set (i := 1) sc_table_rows.nd rfl (by first | exact .inl rfl | exact .inr rfl) (ge_n (gn_lc' rfl sc_table_rows.nd (gi_srcB (gb_e (ge_call (ok_counted_lots M) (hr.mono (by decide)) (by rfl) M.m_counted_lots M.f_counted_lots.kp M.b_counted_lots (ga_cons (gv 0) ga_nil)))) (blkOk_by (N := N_table_rows) (sc := (defScope st_table_rows)) (own := [("row", 3)]) (by decide +kernel)) (fun s H C cl fp => (gg_name (j := 3) sc_table_rows.nd rfl (by first | exact .inl rfl | exact .inr rfl))) (fun s H C cl fp => gts_nil) (fun s H C cl fp => (ge_call (ok_shifted M) (hr.mono (by decide)) (by rfl) M.m_shifted M.f_shifted.kp M.b_shifted (ga_cons (gv 3) ga_nil))))))
      (gss_cons (gs_set (i := 2) sc_table_rows.nd rfl (by first | exact .inl rfl | exact .inr rfl) (ge_n (gn_lc' rfl sc_table_rows.nd (gi_bor (gi_range (by rfl) M.z_range (ge_callB cr_len cd_len0 (by rfl) M.z_len (by decide +kernel) (gab_cons (gb_e (ge_ix (gvb 1) (gb_e ge_int))) gab_nil)))) (blkOk_by (N := N_table_rows) (sc := (defScope st_table_rows)) (own := [("place", 4)]) (by decide +kernel)) (fun s H C cl fp => (gg_name (j := 4) sc_table_rows.nd rfl (by first | exact .inl rfl | exact .inr rfl))) (fun s H C cl fp => gts_nil) (fun s H C cl fp => (ge_call (ok_shifted M) (hr.mono (by decide)) (by rfl) M.m_shifted M.f_shifted.kp M.b_shifted (ga_cons (ge_n (gn_lc' rfl sc_table_rows.nd (gi_srcB (gvb 1)) (blkOk_by (N := N_table_rows) (sc := ({ kind := PySem.ScopeKind.function, names := [(PySem.Str.ofString ".0", PySem.NameKind.local), (PySem.Str.ofString "place", PySem.NameKind.cell), (PySem.Str.ofString "shifted", PySem.NameKind.globalImplicit), (PySem.Str.ofString "rows", PySem.NameKind.cell)], isGenerator := false, isCoroutine := false, more := [] : PySem.Scope })) (own := [("row", 3)]) (by decide +kernel)) (fun s H C cl fp => (gg_name (j := 3) sc_table_rows.nd rfl (by first | exact .inl rfl | exact .inr rfl))) (fun s H C cl fp => gts_nil) (fun s H C cl fp => (ge_ix (gvb 3) (gvb 4))))) ga_nil))))))
      (gss_one (gs_ret (ge_n (gn_lc' rfl sc_table_rows.nd (gi_bor (gi_range (by rfl) M.z_range (ge_callB cr_len cd_len0 (by rfl) M.z_len (by decide +kernel) (gab_cons (gvb 1) gab_nil)))) (blkOk_by (N := N_table_rows) (sc := (defScope st_table_rows)) (own := [("place", 4)]) (by decide +kernel)) (fun s H C cl fp => (gg_name (j := 4) sc_table_rows.nd rfl (by first | exact .inl rfl | exact .inr rfl))) (fun s H C cl fp => gts_nil) (fun s H C cl fp => (ge_n (gn_lc' rfl sc_table_rows.nd (gi_srcB (gvb 2)) (blkOk_by (N := N_table_rows) (sc := ({ kind := PySem.ScopeKind.function, names := [(PySem.Str.ofString ".0", PySem.NameKind.local), (PySem.Str.ofString "place", PySem.NameKind.cell), (PySem.Str.ofString "columns", PySem.NameKind.cell)], isGenerator := false, isCoroutine := false, more := [] : PySem.Scope })) (own := [("column", 5)]) (by decide +kernel)) (fun s H C cl fp => (gg_name (j := 5) sc_table_rows.nd rfl (by first | exact .inl rfl | exact .inr rfl))) (fun s H C cl fp => gts_nil) (fun s H C cl fp => (ge_ix (gvb 5) (gvb 4)))))))))))), law_table_rows⟩
theorem ok_table (M : Mo K mg g ad fd) : FnOk P w K mg base CX0 8 (ad 40) (fd 40) ["web"] (spOf K g S_table) :=
  def_ok M.f_table sc_table S_table_len fun cdv A outer s H E hr => ⟨d_table,
    (gss_cons (gs_expr (ge_call (ok_check_web M) (hr.mono (by decide)) (by rfl) M.m_check_web M.f_check_web.kp M.b_check_web (ga_cons (gv 0) ga_nil)))
      (gss_one (gs_ret (ge_call (ok_as_table M) (hr.mono (by decide)) (by rfl) M.m_as_table M.f_as_table.kp M.b_as_table (ga_cons (ge_call (ok_table_rows M) (hr.mono (by decide)) (by rfl) M.m_table_rows M.f_table_rows.kp M.b_table_rows (ga_cons (gv 0) ga_nil)) ga_nil))))), law_table⟩
theorem ok_all_trees (M : Mo K mg g ad fd) : FnOk P w K mg base CX0 7 (ad 41) (fd 41) ["web"] (spOf K g S_all_trees) :=
  def_ok M.f_all_trees sc_all_trees S_all_trees_len fun cdv A outer s H E hr => ⟨d_all_trees,
    (gss_cons (gs_expr (ge_call (ok_check_web M) (hr.mono (by decide)) (by rfl) M.m_check_web M.f_check_web.kp M.b_check_web (ga_cons (gv 0) ga_nil)))
      (gss_one (gs_ret (ge_callTy cr_tuple cd_tuple (by rfl) M.z_tuple (by decide +kernel) (gab_cons (gb_e (ge_call (ok_every_tree M) (hr.mono (by decide)) (by rfl) M.m_every_tree M.f_every_tree.kp M.b_every_tree (ga_cons (gv 0) ga_nil))) gab_nil))))), law_all_trees⟩
theorem cdivP {f n : Int} (h0 : 0 < n) (h1 : n < 4294967296) : CDivP f n := ⟨h0, PyProof.noPylong_of_log2 (by
  have : n.natAbs.log2 < 32 := (Nat.log2_lt (by omega)).mpr (by omega)
  omega)⟩
theorem cask_fresh {c : Option Addr} {F H H' : Hp} {a : Addr} {m : Nat} (e : Ex F H) (ck : Ck g c m F H) (hc : c = some a) (k : ∀ b o, H b = some o → b ≠ a → H' b = some o) : Fresh c F H F H' := by
  obtain ⟨h1, _⟩ := ck a hc
  refine ⟨fun _ _ h => h, fun b o h => k b o (e b o h) (fun z => by subst z; rw [h1] at h; cases h), fun b o h n => .of (k b o h (fun z => n (by rw [z]; exact hc))), fun b o h => .inl h, fun b h => (ck b h).1⟩
theorem cask_ck {c : Option Addr} {F H H' : Hp} {a : Addr} {m m' : Nat} {xs : List V} (hg : g.ck = K03.ckOk) (ck : Ck g c m F H) (hc : c = some a) (k : ∀ b o, H b = some o → b ≠ a → H' b = some o) (h : H' a = some (.lst xs)) (hk : K03.ckOk m' xs) : Ck g c m' F H' := ⟨fun b z => by
  rw [hc] at z
  cases z
  exact ⟨(ck a hc).1, xs, h, by rw [hg]; exact hk⟩, ck.tb.keep fun b o hb z => k b o hb fun e => by
    subst e
    obtain ⟨_, ys, h0, _⟩ := ck b hc
    rw [h0] at hb
    cases hb
    rcases z with z | ⟨_, _, z⟩ <;> cases z⟩
theorem ok_law_tap (M : Mo K mg g ad fd) : FnOk P w K mg base CX0 1 (ad 43) (fd 43) ["_law_cask_here", "_law_upto"] (spOf K g S_law_tap) := by
  refine M.f_law_tap.ok sc_law_tap (fun vs H Q E h => ?_) (fun cdv A outer s H vs Q E hr h => ?_)
  · obtain ⟨c, F, as, m, Q', _, ar, _, hs, _⟩ := h
    rw [← ar.length]; exact S_law_tap_len as m Q' hs
  · obtain ⟨c, F, as, m, Q', eF, ar, ck, ⟨n, hn0, hn1, rfl, q⟩, kk⟩ := h
    obtain ⟨a, rfl, hc⟩ : ∃ a, vs = [.ref a, .int n] ∧ c = some a := by
      cases ar with
      | cons h1 t =>
        cases t with
        | cons h2 t =>
          cases t
          obtain ⟨a, e1, rfl⟩ := h1
          have h2' : Rep K g F (.int n) _ := h2
          cases h2'
          exact ⟨a, rfl, e1⟩
    obtain ⟨hFa, xs, hH, hck⟩ := ck a hc
    rw [M.ck] at hck
    obtain ⟨f, u, v, rfl, hf0, hu0, hu1⟩ := hck
    refine ⟨_, pss_cons (ps_if (pt_cmpR op_gt (pe_ix ix_list (pv 0) pe_int (fun _ _ => rfl)) pe_int (nomark _))
        (pss_cons (ps_asg (pe_callB call_divmodW (by rfl) M.z_divmod (by decide +kernel) (pa_cons (pe_ix ix_list (pv 0) pe_int (fun _ _ => rfl)) (pa_cons (pv 1) pa_nil))) (pg_tup rfl (pgs_cons (pg_sub (pv 0) pe_int set_list) (pgs_cons (pg_name (i := 2) sc_law_tap.nd rfl (.inl rfl)) pgs_nil))))
          (pss_one (ps_ret (pv 2)))) pss_nil)
      (pss_cons (ps_asg (pe_op op_add (pe_ix ix_list (pv 0) pe_int (fun _ _ => rfl)) pe_int) (pg_sub (pv 0) pe_int set_list))
      (pss_cons (ps_set (i := 3) sc_law_tap.nd rfl (.inl rfl) (pe_op op_mul (pe_ix ix_list (pv 0) pe_int (fun _ _ => rfl)) (pe_op op_add (pe_op op_mod (pe_callTy call_int1 (by rfl) M.z_int (by decide +kernel) (pa_cons (pe_op op_fdiv (pe_ix ix_list (pv 0) pe_int (fun _ _ => rfl)) pe_int) pa_nil)) pe_int) pe_int)))
      (pss_cons (ps_asg (pe_op op_mod (pe_callTy call_int1 (by rfl) M.z_int (by decide +kernel) (pa_cons (pe_op op_add (pe_op op_add (pv 3) (pe_op op_mul pe_int (pe_ix ix_list (pv 0) pe_int (fun _ _ => rfl)))) pe_int) pa_nil)) pe_int) (pg_sub (pv 0) pe_int set_list))
      (pss_one (ps_ret (pe_op op_mod (pe_callTy call_int1 (by rfl) M.z_int (by decide +kernel) (pa_cons (pe_op op_fdiv (pe_ix ix_list (pv 0) pe_int (fun _ _ => rfl)) pe_int) pa_nil)) (pv 1))))))), ?_⟩
    refine ⟨.ref a, rfl, a, _, 0, .int f, rfl, rfl, SqL.of hH, rfl, f, 0, rfl, rfl, _, rfl, ?_⟩
    by_cases hf : (0 : Int) < f
    · rw [decide_eq_true hf]
      refine ⟨.ref a, rfl, a, _, 0, .int f, rfl, rfl, SqL.of hH, rfl, .int n, rfl, f, n, rfl, cdivP hn0 hn1, fun t ht => ?_⟩
      have hat : a ≠ t := fun z => by subst z; rw [hH] at ht; cases ht
      refine ⟨t, _, rfl, SqT.of upd_same, rfl, _, _, rfl, .ref a, rfl, a, _, 0, 0, rfl, rfl, by rw [upd_ne hat]; exact hH, rfl, ?_⟩
      refine ⟨_, _, rfl, rfl, _, rfl, ?_⟩
      have hd0 : 0 ≤ f % n := Int.emod_nonneg f (by omega)
      have hd1 : f % n < n := Int.emod_lt_of_pos f hn0
      have e : f % n = ((f % n).toNat : Int) := by omega
      have kp2 : ∀ t, H t = none → ∀ b o, H b = some o → b ≠ a → upd (upd H t (.tup [.int (f / n), .int (f % n)])) a (.lst [.int (f / n), .int u, .int v]) b = some o := fun t ht b o hb nb => by
        have hbt : b ≠ t := fun z => by subst z; rw [hb] at ht; cases ht
        rw [upd_ne nb, upd_ne hbt]; exact hb
      refine kk _ _ F m (.int ((f % n).toNat : Nat)) (cask_fresh eF ck hc (kp2 t ht)) (cask_ck M.ck ck hc (kp2 t ht) upd_same ⟨f / n, u, v, rfl, Int.ediv_nonneg hf0 (by omega), hu0, hu1⟩) ?_ (q _ (by omega))
      · rw [← e]; exact .int _
    · rw [decide_eq_false hf]
      have hu2 : (-(2 ^ 64) < u ∧ u < 2 ^ 64) := by omega
      refine ⟨.ref a, rfl, a, _, 2, .int v, rfl, rfl, SqL.of hH, rfl, v, 1, rfl, rfl, .ref a, rfl, a, _, 2, 2, rfl, rfl, hH, rfl, ?_⟩
      show tSeq _ _ _ _ (upd H a (.lst [.int f, .int u, .int (v + 1)]))
      generalize hH1' : upd H a (.lst [.int f, .int u, .int (v + 1)]) = H1
      have hH1 : H1 a = some (.lst [.int f, .int u, .int (v + 1)]) := by rw [← hH1']; exact upd_same
      have kp1 : ∀ b o, H b = some o → b ≠ a → H1 b = some o := fun b o hb nb => by rw [← hH1', upd_ne nb]; exact hb
      refine ⟨.ref a, rfl, a, _, 1, .int u, rfl, rfl, SqL.of hH1, rfl, .ref a, rfl, a, _, 1, .int u, rfl, rfl, SqL.of hH1, rfl, u, 8, rfl, rfl, ⟨by decide, by decide⟩, .inl ⟨_, rfl, _, 39019, rfl, rfl, (show (0 : Int) < 39019 by decide), _, 71, rfl, rfl, u, _, rfl, rfl, .inl hu2, ?_⟩⟩
      refine ⟨_, rfl, .ref a, rfl, a, _, 2, .int (v + 1), rfl, rfl, SqL.of hH1, rfl, 10061, v + 1, rfl, rfl, .inl ⟨by decide, by decide⟩, _, _, rfl, rfl, _, 31, rfl, rfl, .inl ⟨_, rfl, _, 2147482873, rfl, rfl, (show (0 : Int) < 2147482873 by decide), .ref a, rfl, a, _, 1, 1, rfl, rfl, hH1, rfl, ?_⟩⟩
      dsimp only
      generalize hu' : (u * (u / 8 % 39019 + 71) + 10061 * (v + 1) + 31) % 2147482873 = u'
      have u0 : 0 ≤ u' := by rw [← hu']; exact Int.emod_nonneg _ (by decide)
      have u1 : u' < 2147482873 := by rw [← hu']; exact Int.emod_lt_of_pos _ (by decide)
      have hH2 : upd H1 a (.lst [.int f, .int u', .int (v + 1)]) a = some (.lst [.int f, .int u', .int (v + 1)]) := upd_same
      refine ⟨.ref a, rfl, a, _, 1, .int u', rfl, rfl, SqL.of hH2, rfl, u', 8192, rfl, rfl, ⟨by decide, by decide⟩, .inl ⟨_, rfl, .int n, rfl, _, n, rfl, rfl, hn0, ?_⟩⟩
      show Q (.int (u' / 8192 % n)) _
      generalize hz : u' / 8192 = z
      have hd0 : 0 ≤ z % n := Int.emod_nonneg _ (by omega)
      have hd1 : z % n < n := Int.emod_lt_of_pos _ hn0
      have e : z % n = ((z % n).toNat : Int) := by omega
      have kp : ∀ b o, H b = some o → b ≠ a → upd H1 a (.lst [.int f, .int u', .int (v + 1)]) b = some o := fun b o hb nb => by rw [upd_ne nb]; exact kp1 b o hb nb
      refine kk _ _ F m (.int ((z % n).toNat : Nat)) (cask_fresh eF ck hc kp) (cask_ck M.ck ck hc kp upd_same ⟨f, u', v + 1, rfl, hf0, u0, u1⟩) ?_ (q _ (by omega))
      · rw [← e]; exact .int _
theorem ok_law_pick (M : Mo K mg g ad fd) : FnOk P w K mg base CX0 2 (ad 44) (fd 44) ["_law_cask_here", "_law_things"] (spOf K g S_law_pick) :=
  def_ok M.f_law_pick sc_law_pick S_law_pick_len fun cdv A outer s H E hr => ⟨d_law_pick,
    (gss_one (gs_ret (ge_ix (gvb 1) (gb_e (ge_call (ok_law_tap M) (hr.mono (by decide)) (by rfl) M.m_law_tap M.f_law_tap.kp M.b_law_tap (ga_cask 0 (ga_cons (ge_callB cr_len cd_len0 (by rfl) M.z_len (by decide +kernel) (gab_cons (gvb 1) gab_nil)) ga_nil))))))), law_law_pick⟩
theorem ok_law_spots (M : Mo K mg g ad fd) : FnOk P w K mg base CX0 2 (ad 45) (fd 45) ["_law_cask_here", "_law_many_here"] (spOf K g S_law_spots) :=
  def_ok M.f_law_spots sc_law_spots S_law_spots_len fun cdv A outer s H E hr => ⟨d_law_spots,
    (gss_cons (gs_mix2 (i := 2) (j := 3) rfl sc_law_spots.nd rfl rfl (by decide) rfl rfl (gmx_new (gnw_n (gn_callTy (cr_list rfl) cn_list (by rfl) M.z_list (by decide +kernel) (gab_cons (gb_e ge_str) gab_nil))) (gmx_new (gnw_n (gn_lst gal_nil)) gmx_nil)) rfl)
      (gss_cons (gs_for PassesOwn.never rfl (gi_range (by rfl) M.z_range (gv 1)) (gg_name (j := 4) sc_law_spots.nd rfl (by first | exact .inl rfl | exact .inr rfl))
      (gss_one (gs_appendPop 3 2 (ge_call (ok_law_tap M) (hr.mono (by decide)) (by rfl) M.m_law_tap M.f_law_tap.kp M.b_law_tap (ga_cask 0 (ga_cons (ge_callB cr_len cd_len0 (by rfl) M.z_len (by decide +kernel) (gab_cons (gvb 2) gab_nil)) ga_nil))))))
      (gss_one (gs_ret (ge_mtS PySem.F.slot_str_join PySem.F.type_str_join mt_join md_join (gb_e ge_str) (gab_cons (gb_e (ge_n (gn_callB (cr_sorted' rfl hr.units) cn_sorted (by rfl) M.z_sorted (by decide +kernel) (gab_cons (gvb 3) gab_nil)))) gab_nil)))))), law_law_spots⟩
theorem ok_law_joint (M : Mo K mg g ad fd) : FnOk P w K mg base CX0 1 (ad 46) (fd 46) ["_law_one", "_law_two"] (spOf K g S_law_joint) :=
  def_ok M.f_law_joint sc_law_joint S_law_joint_len fun cdv A outer s H E hr => ⟨d_law_joint,
    (gss_one (gs_ret (ge_if (gt_cmp or_le od_le (gvb 0) (gvb 1) rfl) (ge_op or_add od_add (gvb 0) (gvb 1)) (ge_op or_add od_add (gvb 1) (gvb 0))))), law_law_joint⟩
theorem ok_law_net (M : Mo K mg g ad fd) : FnOk P w K mg base CX0 3 (ad 47) (fd 47) ["_law_cask_here", "_law_most_spots", "_law_most_rows"] (spOf K g S_law_net) :=
  def_ok M.f_law_net sc_law_net S_law_net_len fun cdv A outer s H E hr => ⟨d_law_net,
    (gss_cons (gs_set (i := 3) sc_law_net.nd rfl (by first | exact .inl rfl | exact .inr rfl) (ge_call (ok_law_spots M) (hr.mono (by decide)) (by rfl) M.m_law_spots M.f_law_spots.kp M.b_law_spots (ga_cask 0 (ga_cons (ge_op or_add od_add (gb_e ge_int) (gb_e (ge_call (ok_law_tap M) (hr.mono (by decide)) (by rfl) M.m_law_tap M.f_law_tap.kp M.b_law_tap (ga_cask 0 (ga_cons (gv 1) ga_nil))))) ga_nil))))
      (gss_cons (gs_setN (i := 4) sc_law_net.nd rfl (by first | exact .inl rfl | exact .inr rfl) (gn_lst gal_nil))
      (gss_cons (gs_for PassesOwn.never rfl (gi_range (by rfl) M.z_range (ge_call (ok_law_tap M) (hr.mono (by decide)) (by rfl) M.m_law_tap M.f_law_tap.kp M.b_law_tap (ga_cask 0 (ga_cons (ge_op or_add od_add (gvb 2) (gb_e ge_int)) ga_nil)))) (gg_name (j := 5) sc_law_net.nd rfl (by first | exact .inl rfl | exact .inr rfl))
      (gss_cons (gs_append 4 (ge_call (ok_law_joint M) (hr.mono (by decide)) (by rfl) M.m_law_joint M.f_law_joint.kp M.b_law_joint (ga_cons (ge_call (ok_law_pick M) (hr.mono (by decide)) (by rfl) M.m_law_pick M.f_law_pick.kp M.b_law_pick (ga_cask 0 (ga_cons (ge_n (gn_callTy (cr_list rfl) cn_list (by rfl) M.z_list (by decide +kernel) (gab_cons (gvb 3) gab_nil))) ga_nil))) (ga_cons (ge_call (ok_law_pick M) (hr.mono (by decide)) (by rfl) M.m_law_pick M.f_law_pick.kp M.b_law_pick (ga_cask 0 (ga_cons (ge_n (gn_callTy (cr_list rfl) cn_list (by rfl) M.z_list (by decide +kernel) (gab_cons (gvb 3) gab_nil))) ga_nil))) ga_nil))))
      (gss_one (gs_if (gt_cmp (or_eq hr.units) od_eq (gb_e (ge_call (ok_law_tap M) (hr.mono (by decide)) (by rfl) M.m_law_tap M.f_law_tap.kp M.b_law_tap (ga_cask 0 (ga_cons ge_int ga_nil)))) (gb_e ge_int) rfl) (gss_one (gs_setI 4 (ge_ix (gvb 4) (gb_e ge_int)) ge_negI)) gss_nil))))
      (gss_one (gs_freeze 4 (gs_ret (ge_tup (gal_cons (gv 3) (gal_cons (gv 4) gal_nil))))))))), law_law_net⟩
theorem ok_law_page (M : Mo K mg g ad fd) : FnOk P w K mg base CX0 1 (ad 48) (fd 48) ["_law_net_here"] (spOf K g S_law_page) :=
  def_ok M.f_law_page sc_law_page S_law_page_len fun cdv A outer s H E hr => ⟨d_law_page,
    (gss_one (gs_ret (ge_mtS PySem.F.slot_str_join PySem.F.type_str_join mt_join md_join (gb_e ge_str) (gab_cons (gb_e (ge_op or_add od_add (gb_e (ge_n (gn_lst (gal_cons (ge_ix (gvb 0) (gb_e ge_int)) gal_nil)))) (gb_e (ge_n (gn_callTy (cr_list rfl) cn_list (by rfl) M.z_list (by decide +kernel) (gab_cons (gb_e (ge_ix (gvb 0) (gb_e ge_int))) gab_nil)))))) gab_nil)))), law_law_page⟩
theorem ok_law_orders (M : Mo K mg g ad fd) : FnOk P w K mg base CX0 1 (ad 49) (fd 49) ["_law_signs"] (spOf K g S_law_orders) :=
  def_ok M.f_law_orders sc_law_orders S_law_orders_len fun cdv A outer s H E hr => ⟨d_law_orders,
    (gss_cons (gs_set (i := 1) sc_law_orders.nd rfl (by first | exact .inl rfl | exact .inr rfl) (ge_n (gn_lst (gal_cons ge_str gal_nil))))
      (gss_cons (gs_for PassesOwn.never rfl (gi_src (gv 0)) (gg_name (j := 2) sc_law_orders.nd rfl (by first | exact .inl rfl | exact .inr rfl))
      (gss_cons (gs_set (i := 3) sc_law_orders.nd rfl (by first | exact .inl rfl | exact .inr rfl) (ge_n (gn_lst gal_nil)))
      (gss_cons (gs_for PassesOwn.never rfl (gi_src (gv 1)) (gg_name (j := 4) sc_law_orders.nd rfl (by first | exact .inl rfl | exact .inr rfl))
      (gss_one (gs_set (i := 3) sc_law_orders.nd rfl (by first | exact .inl rfl | exact .inr rfl) (ge_op or_add od_add (gvb 3) (gb_e (ge_n (gn_lc' rfl sc_law_orders.nd (gi_srcB (gvb 0)) (blkOk_by (N := N_law_orders) (sc := (defScope st_law_orders)) (own := [("_law_sign", 5)]) (by decide +kernel)) (fun s H C cl fp => (gg_name (j := 5) sc_law_orders.nd rfl (by first | exact .inl rfl | exact .inr rfl))) (fun s H C cl fp => (gts_one (gt_cmp or_notin od_notin (gvb 5) (gvb 4) rfl))) (fun s H C cl fp => (ge_op or_add od_add (gvb 4) (gvb 5))))))))))
      (gss_one (gs_set (i := 1) sc_law_orders.nd rfl (by first | exact .inl rfl | exact .inr rfl) (gv 3))))))
      (gss_one (gs_ret (gv 1))))), law_law_orders⟩
theorem ok_law_by (M : Mo K mg g ad fd) : FnOk P w K mg base CX0 2 (ad 50) (fd 50) ["_law_net_here", "_law_signs"] (spOf K g S_law_by) :=
  def_ok M.f_law_by sc_law_by S_law_by_len fun cdv A outer s H E hr => ⟨d_law_by,
    (gss_cons (gs_set (i := 2) sc_law_by.nd rfl (by first | exact .inl rfl | exact .inr rfl) (ge_nw (gnw_dictP rfl (by rfl) M.z_dict (gb_e (ge_n (gn_lc' rfl sc_law_by.nd (gi_bor (gi_range (by rfl) M.z_range (ge_callB cr_len cd_len0 (by rfl) M.z_len (by decide +kernel) (gab_cons (gvb 1) gab_nil)))) (blkOk_by (N := N_law_by) (sc := (defScope st_law_by)) (own := [("_law_k", 4)]) (by decide +kernel)) (fun s H C cl fp => (gg_name (j := 4) sc_law_by.nd rfl (by first | exact .inl rfl | exact .inr rfl))) (fun s H C cl fp => gts_nil) (fun s H C cl fp => (ge_tup (gal_cons (ge_ix (gb_e (ge_ix (gvb 0) (gb_e ge_int))) (gvb 4)) (gal_cons (ge_ix (gvb 1) (gvb 4)) gal_nil))))))))))
      (gss_cons (gs_setLc' (i := 3) rfl sc_law_by.nd rfl rfl rfl (gi_srcB (gb_e (ge_ix (gvb 0) (gb_e ge_int)))) (blkOk_by (N := N_law_by) (sc := (defScope st_law_by)) (own := [("_law_row", 5)]) (by decide +kernel)) (fun s H C cl fp => (gg_name (j := 5) sc_law_by.nd rfl (by first | exact .inl rfl | exact .inr rfl))) (fun s H C cl fp => gts_nil) (fun s H C cl fp => (ge_call (ok_law_joint M) (hr.mono (by decide)) (by rfl) M.m_law_joint M.f_law_joint.kp M.b_law_joint (ga_cons (ge_dix hr.units (gvb 2) (ge_ix (gvb 5) (gb_e ge_int))) (ga_cons (ge_dix hr.units (gvb 2) (ge_ix (gvb 5) (gb_e ge_int))) ga_nil)))))
      (gss_one (gs_ret (ge_tup (gal_cons (ge_mtS PySem.F.slot_str_join PySem.F.type_str_join mt_join md_join (gb_e ge_str) (gab_cons (gb_e (ge_n (gn_callB (cr_sorted' rfl hr.units) cn_sorted (by rfl) M.z_sorted (by decide +kernel) (gab_cons (gvb 1) gab_nil)))) gab_nil)) (gal_cons (gv 3) gal_nil))))))), law_law_by⟩
theorem ok_law_single_right (M : Mo K mg g ad fd) : FnOk P w K mg base CX0 8 (ad 51) (fd 51) ["_law_mine", "_law_net_here", "_law_signs"] (spOf K g S_law_single_right) :=
  def_ok M.f_law_single_right sc_law_single_right S_law_single_right_len fun cdv A outer s H E hr => ⟨d_law_single_right,
    (gss_cons (gs_set (i := 3) sc_law_single_right.nd rfl (by first | exact .inl rfl | exact .inr rfl) (ge_call (ok_law_by M) (hr.mono (by decide)) (by rfl) M.m_law_by M.f_law_by.kp M.b_law_by (ga_cons (gv 1) (ga_cons (gv 2) ga_nil))))
      (gss_cons (gs_set (i := 4) sc_law_single_right.nd rfl (by first | exact .inl rfl | exact .inr rfl) (ge_call (ok_renamed M) (hr.mono (by decide)) (by rfl) M.m_renamed M.f_renamed.kp M.b_renamed (ga_cons (gv 0) (ga_cons (gv 2) ga_nil))))
      (gss_cons (gs_if (gw_pt (gw_or (gt_cmp (or_ne hr.units) od_ne (gb_e (ge_meth0 (ok_Webtext M) (hr.mono (by decide)) M.wty.cls M.me_text M.b_Webtext (gv 4))) (gb_e (ge_call (ok_law_page M) (hr.mono (by decide)) (by rfl) M.m_law_page M.f_law_page.kp M.b_law_page (ga_cons (gv 3) ga_nil))) rfl) (gw_or1 (gt_neW (ok_Webeq M) (hr.mono (by decide)) M.wty.hm M.wne M.weq M.weqf M.b_Webeq (ge_callK (ok_renamed M) (hr.mono (by decide)) (by rfl) M.m_renamed M.f_renamed.kp M.kw_renamed_10 pm10_rel rfl (gk_cons (gv 2) (mono_var _) (gk_cons (gv 0) (mono_var _) gk_nil)) rfl) (gv 4))))) (gss_one (gs_ret ge_bl)) gss_nil)
      (gss_cons (gs_set (i := 5) sc_law_single_right.nd rfl (by first | exact .inl rfl | exact .inr rfl) (ge_n (gn_callB (cr_sorted' rfl hr.units) cn_sorted (by rfl) M.z_sorted (by decide +kernel) (gab_cons (gvb 2) gab_nil))))
      (gss_cons (gs_set (i := 6) sc_law_single_right.nd rfl (by first | exact .inl rfl | exact .inr rfl) (ge_mtS PySem.F.slot_str_join PySem.F.type_str_join mt_join md_join (gb_e ge_str) (gab_cons (gb_e (ge_n (gn_lc' rfl sc_law_single_right.nd (gi_srcB (gvb 5)) (blkOk_by (N := N_law_single_right) (sc := (defScope st_law_single_right)) (own := [("_law_sign", 7)]) (by decide +kernel)) (fun s H C cl fp => (gg_name (j := 7) sc_law_single_right.nd rfl (by first | exact .inl rfl | exact .inr rfl))) (fun s H C cl fp => gts_nil) (fun s H C cl fp => (ge_ix (gb_e (ge_ix (gvb 1) (gb_e ge_int))) (gb_e (ge_mtS PySem.F.slot_str_index PySem.F.type_str_index mt_sindex md_sindex (gvb 2) (gab_cons (gvb 7) gab_nil)))))))) gab_nil)))
      (gss_one (gs_ret (ge_and (ge_eqW (ok_Webeq M) (hr.mono (by decide)) M.weq M.weqf M.b_Webeq (ge_call (ok_renamed M) (hr.mono (by decide)) (by rfl) M.m_renamed M.f_renamed.kp M.b_renamed (ga_cons (gv 4) (ga_cons (gv 6) ga_nil))) (gv 0)) (ge_one (ge_cmp (or_eq hr.units) od_eq (gb_e (ge_call (ok_plain_text M) (hr.mono (by decide)) (by rfl) M.m_plain_text M.f_plain_text.kp M.b_plain_text (ga_cons (gv 4) ga_nil))) (gb_e (ge_call (ok_plain_text M) (hr.mono (by decide)) (by rfl) M.m_plain_text M.f_plain_text.kp M.b_plain_text (ga_cons (gv 0) ga_nil))) rfl)))))))))), law_law_single_right⟩
theorem ok_law_stays (M : Mo K mg g ad fd) : FnOk P w K mg base CX0 9 (ad 52) (fd 52) ["_law_mine", "_law_fresh"] (spOf K g S_law_stays) :=
  def_ok M.f_law_stays sc_law_stays S_law_stays_len fun cdv A outer s H E hr => ⟨d_law_stays,
    (gss_cons (gs_set (i := 2) sc_law_stays.nd rfl (by first | exact .inl rfl | exact .inr rfl) (ge_n (gn_lst (gal_cons (ge_call (ok_rings M) (hr.mono (by decide)) (by rfl) M.m_rings M.f_rings.kp M.b_rings (ga_cons (gv 0) ga_nil)) (gal_cons (ge_call (ok_blocks M) (hr.mono (by decide)) (by rfl) M.m_blocks M.f_blocks.kp M.b_blocks (ga_cons (gv 0) ga_nil)) (gal_cons (ge_call (ok_all_trees M) (hr.mono (by decide)) (by rfl) M.m_all_trees M.f_all_trees.kp M.b_all_trees (ga_cons (gv 0) ga_nil)) (gal_cons (ge_call (ok_table M) (hr.mono (by decide)) (by rfl) M.m_table M.f_table.kp M.b_table (ga_cons (gv 0) ga_nil)) gal_nil)))))))
      (gss_one (gs_ret (ge_cmp (or_eq hr.units) od_eq (gvb 2) (gb_e (ge_n (gn_lst (gal_cons (ge_call (ok_rings M) (hr.mono (by decide)) (by rfl) M.m_rings M.f_rings.kp M.b_rings (ga_cons (gv 1) ga_nil)) (gal_cons (ge_call (ok_blocks M) (hr.mono (by decide)) (by rfl) M.m_blocks M.f_blocks.kp M.b_blocks (ga_cons (gv 1) ga_nil)) (gal_cons (ge_call (ok_all_trees M) (hr.mono (by decide)) (by rfl) M.m_all_trees M.f_all_trees.kp M.b_all_trees (ga_cons (gv 1) ga_nil)) (gal_cons (ge_call (ok_table M) (hr.mono (by decide)) (by rfl) M.m_table M.f_table.kp M.b_table (ga_cons (gv 1) ga_nil)) gal_nil))))))) rfl)))), law_law_stays⟩
theorem ok_law_right (M : Mo K mg g ad fd) : FnG P w K mg base 10 (ad 53) (fd 53) ["_law_cask_here"] (spOf K g S_law_right) :=
  def_okG M.f_law_right sc_law_right S_law_right_len fun cdv A outer s H E hr calm => ⟨d_law_right,
    (gss_cons (gs_set (i := 1) sc_law_right.nd rfl (by first | exact .inl rfl | exact .inr rfl) (ge_call (ok_law_net M) (hr.mono (by decide)) (by rfl) M.m_law_net M.f_law_net.kp M.b_law_net (ga_cask 0 (ga_cons ge_int (ga_cons ge_int ga_nil)))))
      (gss_cons (gs_par (i := 2) (j := 3) rfl sc_law_right.nd rfl rfl (by decide) rfl rfl (gal_cons (ge_make M (hr.mono (by decide)) (by rfl) (ga_cons (ge_ix (gvb 1) (gb_e ge_int)) (ga_cons (ge_callTy cr_tuple cd_tuple (by rfl) M.z_tuple (by decide +kernel) (gab_cons (gb_e (ge_ix (gvb 1) (gb_e ge_int))) gab_nil)) ga_nil))) (gal_cons (ge_callB cr_len cd_len0 (by rfl) M.z_len (by decide +kernel) (gab_cons (gb_e (ge_ix (gvb 1) (gb_e ge_int))) gab_nil)) gal_nil)) rfl)
      (gss_cons (gs_setLc' (i := 5) rfl sc_law_right.nd rfl rfl rfl (gi_srcB (gb_e (ge_call (ok_law_orders M) (hr.mono (by decide)) (by rfl) M.m_law_orders M.f_law_orders.kp M.b_law_orders (ga_cons (ge_ix (gvb 1) (gb_e ge_int)) ga_nil)))) (blkOk_by (N := N_law_right) (sc := (defScope st_law_right)) (own := [("_law_signs", 4)]) (by decide +kernel)) (fun s H C cl fp => (gg_name (j := 4) sc_law_right.nd rfl (by first | exact .inl rfl | exact .inr rfl))) (fun s H C cl fp => (gts_one (gt_cmp (or_eq hr.units) od_eq (gb_e (ge_n (gn_callB (cr_sorted' rfl hr.units) cn_sorted (by rfl) M.z_sorted (by decide +kernel) (gab_cons (gb_e (ge_ix (gb_e (ge_call (ok_law_by M) (hr.mono (by decide)) (by rfl) M.m_law_by M.f_law_by.kp M.b_law_by (ga_cons (gv 1) (ga_cons (gv 4) ga_nil)))) (gb_e ge_int))) gab_nil)))) (gb_e (ge_n (gn_callB (cr_sorted' rfl hr.units) cn_sorted (by rfl) M.z_sorted (by decide +kernel) (gab_cons (gb_e (ge_ix (gvb 1) (gb_e ge_int))) gab_nil)))) rfl))) (fun s H C cl fp => (gv 4)))
      (gss_cons (gs_set (i := 6) sc_law_right.nd rfl (by first | exact .inl rfl | exact .inr rfl) (ge_call (ok_law_orders M) (hr.mono (by decide)) (by rfl) M.m_law_orders M.f_law_orders.kp M.b_law_orders (ga_cons (ge_ix (gvb 1) (gb_e ge_int)) ga_nil)))
      (gss_cons (gs_if (gw_pt (gw_or (gt_cmp (or_ne hr.units) od_ne (gb_e (ge_call (ok_count_renamings M) (hr.mono (by decide)) (by rfl) M.m_count_renamings M.f_count_renamings.kp M.b_count_renamings (ga_cons (gv 2) ga_nil))) (gb_e (ge_callB cr_len cd_len0 (by rfl) M.z_len (by decide +kernel) (gab_cons (gvb 5) gab_nil))) rfl) (gw_or1 (gt_cmp (or_ne hr.units) od_ne (gb_e (ge_callK (ok_count_renamings M) (hr.mono (by decide)) (by rfl) M.m_count_renamings M.f_count_renamings.kp M.kw_count_renamings_0 pm0_rel rfl (gk_cons (gv 2) (mono_var _) gk_nil) rfl)) (gb_e (ge_callB cr_len cd_len0 (by rfl) M.z_len (by decide +kernel) (gab_cons (gvb 5) gab_nil))) rfl)))) (gss_one (gs_ret ge_bl)) gss_nil)
      (gss_cons (gs_if (gt_cmp (or_ne hr.units) od_ne (gb_e (ge_op or_mul od_mul (gb_e (ge_op op_fdiv od_fdiv (gb_e (ge_callB cr_len cd_len0 (by rfl) M.z_len (by decide +kernel) (gab_cons (gvb 6) gab_nil))) (gb_e (ge_callB cr_len cd_len0 (by rfl) M.z_len (by decide +kernel) (gab_cons (gvb 5) gab_nil))))) (gb_e (ge_callB cr_len cd_len0 (by rfl) M.z_len (by decide +kernel) (gab_cons (gvb 5) gab_nil))))) (gb_e (ge_callB cr_len cd_len0 (by rfl) M.z_len (by decide +kernel) (gab_cons (gvb 6) gab_nil))) rfl) (gss_one (gs_ret ge_bl)) gss_nil)
      (gss_cons (gs_set (i := 7) sc_law_right.nd rfl (by first | exact .inl rfl | exact .inr rfl) (ge_slice (gb_e ge_str) go_none (go_some (gv 3))))
      (gss_cons (gs_setLc' (i := 8) rfl sc_law_right.nd rfl rfl rfl (gi_srcB (gb_e (ge_call (ok_law_orders M) (hr.mono (by decide)) (by rfl) M.m_law_orders M.f_law_orders.kp M.b_law_orders (ga_cons (gv 7) ga_nil)))) (blkOk_by (N := N_law_right) (sc := (defScope st_law_right)) (own := [("_law_signs", 4)]) (by decide +kernel)) (fun s H C cl fp => (gg_name (j := 4) sc_law_right.nd rfl (by first | exact .inl rfl | exact .inr rfl))) (fun s H C cl fp => gts_nil) (fun s H C cl fp => (ge_mtS PySem.F.slot_str_join PySem.F.type_str_join mt_join md_join (gb_e ge_str) (gab_cons (gb_e (ge_op or_add od_add (gb_e (ge_n (gn_lst (gal_cons (gv 7) gal_nil)))) (gb_e (ge_n (gn_callB (cr_sorted' rfl hr.units) cn_sorted (by rfl) M.z_sorted (by decide +kernel) (gab_cons (gb_e (ge_ix (gb_e (ge_call (ok_law_by M) (hr.mono (by decide)) (by rfl) M.m_law_by M.f_law_by.kp M.b_law_by (ga_cons (gv 1) (ga_cons (gv 4) ga_nil)))) (gb_e ge_int))) gab_nil)))))) gab_nil))))
      (gss_cons (gs_if (gw_pt (gw_or (gt_cmp (or_ne hr.units) od_ne (gb_e (ge_call (ok_plain_text M) (hr.mono (by decide)) (by rfl) M.m_plain_text M.f_plain_text.kp M.b_plain_text (ga_cons (gv 2) ga_nil))) (gb_e (ge_callB (cr_minT rfl hr.units) cd_minT (by rfl) M.z_min (by decide +kernel) (gab_cons (gvb 8) gab_nil))) rfl) (gw_or1 (gt_cmp (or_ne hr.units) od_ne (gb_e (ge_callK (ok_plain_text M) (hr.mono (by decide)) (by rfl) M.m_plain_text M.f_plain_text.kp M.kw_plain_text_0 pm0_rel rfl (gk_cons (gv 2) (mono_var _) gk_nil) rfl)) (gb_e (ge_callB (cr_minT rfl hr.units) cd_minT (by rfl) M.z_min (by decide +kernel) (gab_cons (gvb 8) gab_nil))) rfl)))) (gss_one (gs_ret ge_bl)) gss_nil)
      (gss_cons (gs_for PassesOwn.never rfl (gi_range (by rfl) M.z_range ge_int) (gg_name (j := 9) sc_law_right.nd rfl (by first | exact .inl rfl | exact .inr rfl))
      (gss_cons (gs_mixT2 (i := 4) (j := 10) rfl sc_law_right.nd rfl rfl (by first | exact .inl rfl | exact .inr rfl) (by first | exact .inl rfl | exact .inr rfl) (gmx_val ge_str (gmx_new (gnw_n (gn_callTy (cr_list rfl) cn_list (by rfl) M.z_list (by decide +kernel) (gab_cons (gb_e ge_str) gab_nil))) gmx_nil)))
      (gss_cons (gs_for PassesOwn.never rfl (gi_range (by rfl) M.z_range (gv 3)) (gg_name (j := 11) sc_law_right.nd rfl (by first | exact .inl rfl | exact .inr rfl))
      (gss_one (gs_catPop 4 10 sc_law_right.nd (by first | exact .inl rfl | exact .inr rfl) (ge_call (ok_law_tap M) (hr.mono (by decide)) (by rfl) M.m_law_tap M.f_law_tap.kp M.b_law_tap (ga_cask 0 (ga_cons (ge_callB cr_len cd_len0 (by rfl) M.z_len (by decide +kernel) (gab_cons (gvb 10) gab_nil)) ga_nil))))))
      (gss_cons (gs_if (gw_pt (gw_or (gt_not (gt_val (ge_call (ok_law_single_right M) (hr.mono (by decide)) (by rfl) M.m_law_single_right M.f_law_single_right.kp M.b_law_single_right (ga_cons (gv 2) (ga_cons (gv 1) (ga_cons (gv 4) ga_nil)))))) (gw_or1 (gt_not (gt_val (ge_call (ok_law_stays M) (hr.mono (by decide)) (by rfl) M.m_law_stays M.f_law_stays.kp M.b_law_stays (ga_cons (gv 2) (ga_cons (ge_call (ok_renamed M) (hr.mono (by decide)) (by rfl) M.m_renamed M.f_renamed.kp M.b_renamed (ga_cons (gv 2) (ga_cons (gv 4) ga_nil))) ga_nil)))))))) (gss_one (gs_ret ge_bl)) gss_nil)
      (gss_cons (gs_set (i := 12) sc_law_right.nd rfl (by first | exact .inl rfl | exact .inr rfl) (ge_call (ok_law_pick M) (hr.mono (by decide)) (by rfl) M.m_law_pick M.f_law_pick.kp M.b_law_pick (ga_cask 0 (ga_cons (gv 6) ga_nil))))
      (gss_cons (gs_set (i := 13) sc_law_right.nd rfl (by first | exact .inl rfl | exact .inr rfl) (ge_mtS PySem.F.slot_str_join PySem.F.type_str_join mt_join md_join (gb_e ge_str) (gab_cons (gb_e (ge_n (gn_lc' rfl sc_law_right.nd (gi_srcB (gvb 4)) (blkOk_by (N := N_law_right) (sc := (defScope st_law_right)) (own := [("_law_sign", 14)]) (by decide +kernel)) (fun s H C cl fp => (gg_name (j := 14) sc_law_right.nd rfl (by first | exact .inl rfl | exact .inr rfl))) (fun s H C cl fp => gts_nil) (fun s H C cl fp => (ge_ix (gvb 12) (gb_e (ge_mtL PySem.F.slot_list_index PySem.F.type_list_index mt_index md_index (gb_e (ge_n (gn_callB (cr_sorted' rfl hr.units) cn_sorted (by rfl) M.z_sorted (by decide +kernel) (gab_cons (gvb 4) gab_nil)))) (gab_cons (gvb 14) gab_nil)))))))) gab_nil)))
      (gss_one (gs_if (gt_neW (ok_Webeq M) (hr.mono (by decide)) M.wty.hm M.wne M.weq M.weqf M.b_Webeq (ge_call (ok_renamed M) (hr.mono (by decide)) (by rfl) M.m_renamed M.f_renamed.kp M.b_renamed (ga_cons (ge_call (ok_renamed M) (hr.mono (by decide)) (by rfl) M.m_renamed M.f_renamed.kp M.b_renamed (ga_cons (gv 2) (ga_cons (gv 4) ga_nil))) (ga_cons (gv 12) ga_nil))) (ge_call (ok_renamed M) (hr.mono (by decide)) (by rfl) M.m_renamed M.f_renamed.kp M.b_renamed (ga_cons (gv 2) (ga_cons (gv 13) ga_nil)))) (gss_one (gs_ret ge_bl)) gss_nil))))))))
      (gss_one (gs_ret (ge_call (ok_law_single_right M) (hr.mono (by decide)) (by rfl) M.m_law_single_right M.f_law_single_right.kp M.b_law_single_right (ga_cons (gv 2) (ga_cons (gv 1) (ga_cons (ge_call (ok_law_pick M) (hr.mono (by decide)) (by rfl) M.m_law_pick M.f_law_pick.kp M.b_law_pick (ga_cask 0 (ga_cons (gv 5) ga_nil))) ga_nil)))))))))))))))), law_law_right⟩
end K06
namespace K06
open PySem L2 G
open T hiding S_are_letters S_are_letters_len S_law_lots S_law_parts ckOk
open SH hiding sb
open K10 hiding S_every_lot S_every_lot_len S_law_right S_law_right_len d_every_lot d_law_right fl law_every_lot n_every_lot n_law_right pm0 pm120 rest rng_in sum_add
open K15 hiding S_law_right S_law_right_len d_law_right n_law_right pm0
open K03 hiding S_law_net S_law_net_len S_law_right S_law_right_len S_law_spots S_law_spots_len d_law_net d_law_right d_law_spots law_law_net law_law_spots n_law_net n_law_right n_law_spots pm10
open K04 hiding S_law_right S_law_right_len d_law_right n_law_right pm0
open K05 hiding S_law_net S_law_net_len S_law_right S_law_right_len
open WB
variable {P : Program} {w : World} {K : PySem.W.Frag} {mg : Str → Option Value} {base : Heap} {g : Gp} {ad : Nat → Addr} {fd : Nat → FuncData}
def spCask (K : PySem.W.Frag) : Sp := fun vs H Q _ => ∃ (a : Addr) (ns : List Int) (k : Nat), vs = [.ref a, .int (k : Nat)] ∧ SqL K H a (ns.map V.int) ∧ k < 1000 ∧ ns.length ≤ 63 ∧
  ∀ p H' (f s t : Int), Ex H H' → H p = none → H' p = some (.lst [.int f, .int s, .int t]) → 0 ≤ f → 0 ≤ s → s < 2147482873 → Q (.ref p) H'
theorem ok_cask (M : Mo K mg g ad fd) : FnOk P w K mg base CX0 1 (ad 42) (fd 42) ["_law_cells", "_law_at"] (spCask K) := by
  refine M.f_law_cask.ok sc_law_cask (fun vs H Q E h => ?_) (fun cdv A outer s H vs Q E hr h => ?_)
  · obtain ⟨a, ns, k, rfl, _⟩ := h
    rfl
  · obtain ⟨a, ns, k, rfl, hS, hk, hlen, q⟩ := h
    obtain ⟨t3, p3, fin'⟩ : ∃ t, PSs (cxOf CX0 P w K mg base N_law_cask "_law_cask" (defScope st_law_cask) (ad 42) cdv A outer s H E).nox ((defBody st_law_cask).drop 3) t ∧ ∀ (own mixed : Int) (y4 : Option V), t { nx := fun _ H' => Q .non H', rt := Q } [some (.ref a), some (.int (k : Nat)), some (.int own), some (.int mixed), y4] H := by
      refine ⟨_, pss_one (ps_ret (pe_lst (pa_cons (pe_ifExp (PW.pt (pw_or (pt_cmpR op_lt (pv 2) pe_int (nomark _)) (pw_or1 (pt_cmpR op_ge (pv 2) (pe_op op_pow pe_int pe_int) (nomark _))))) (pe_callB call_abs (by rfl) M.z_abs (by decide +kernel) (pa_cons (pv 2) pa_nil)) pe_int) (pa_cons (pe_op op_mod (pe_callTy call_int1 (by rfl) M.z_int (by decide +kernel) (pa_cons (pe_op op_add (pe_op op_mul (pv 3) pe_int) (pe_op op_mul (pv 2) pe_int)) pa_nil)) pe_int) (pa_cons pe_int pa_nil))))), fun own mixed y4 => ?_⟩
      have ret : ∀ f : Int, 0 ≤ f → (tCons (tOp (rI (fun _ j => 0 < j) fun i j => .int (i % j)) (tCB (fun xs H Q => (∃ i, xs = [.int i] ∧ Q (.int i) H) ∨ ∃ k, xs = [.bl k] ∧ Q (.int (if k then 1 else 0)) H) (tCons (tOp (rI0 fun i j => .int (i + j)) (tOp (rI CMul fun i j => .int (i * j)) (tVar 3) (tC (.int 37))) (tOp (rI CMul fun i j => .int (i * j)) (tVar 2) (tC (.int 967)))) tNil)) (tC (.int 2147482873))) (tCons (tC (.int 1)) tNil)) [some (.ref a), some (.int (k : Nat)), some (.int own), some (.int mixed), y4] H fun vs H2 => ((V.int f :: vs).length ≤ sizeLine ∧ ∀ p, H2 p = none → Q (.ref p) (upd H2 p (.lst (V.int f :: vs)))) := by
        intro f hf
        refine ⟨_, rfl, mixed, 37, rfl, rfl, .inr ⟨by decide, by decide⟩, _, rfl, own, 967, rfl, rfl, .inr ⟨by decide, by decide⟩, _, _, rfl, rfl, .inl ⟨_, rfl, _, 2147482873, rfl, rfl, (show (0 : Int) < 2147482873 by decide), (ll (show 3 ≤ LL by decide)), fun p hp => ?_⟩⟩
        exact q p _ f _ 1 (Evl.Ex.new hp) hp upd_same hf (Int.emod_nonneg _ (by decide)) (Int.emod_lt_of_pos _ (by decide))
      refine ⟨_, rfl, own, 0, rfl, rfl, _, rfl, ?_⟩
      by_cases h2 : own < 0
      · rw [decide_eq_true h2]
        refine ⟨_, rfl, own, rfl, ?_⟩
        rw [if_pos h2]
        exact ret _ (by omega)
      · rw [decide_eq_false h2]
        refine ⟨_, rfl, 10, 18, rfl, rfl, ⟨by decide, by decide, by decide⟩, own, _, rfl, rfl, _, rfl, ?_⟩
        by_cases h3 : ((10 : Int) ^ (18 : Int).toNat) ≤ own
        · rw [decide_eq_true h3]
          refine ⟨_, rfl, own, rfl, ?_⟩
          rw [if_neg h2]
          exact ret _ (by omega)
        · rw [decide_eq_false h3]
          exact ret _ (by omega)
    obtain ⟨t2, p2, two⟩ : ∃ t, PSs (cxOf CX0 P w K mg base N_law_cask "_law_cask" (defScope st_law_cask) (ad 42) cdv A outer s H E).nox ((defBody st_law_cask).drop 1) t ∧ ∀ (own : Int), t { nx := fun _ H' => Q .non H', rt := Q } [some (.ref a), some (.int (k : Nat)), some (.int own), none, none] H := by
      refine ⟨_, pss_cons (ps_set (i := 3) sc_law_cask.nd rfl (.inl rfl) (pe_op op_add pe_int (pe_op op_mul pe_int (pv 1))))
        (pss_cons (ps_for PassesOwn.never rfl (pi_range1 (by rfl) M.z_range (pa_cons (pe_callB (cr_min2 rfl) (by rfl) M.z_min (by decide +kernel) (pa_cons (pe_callB call_len_seq (by rfl) M.z_len PySem.boot_len (pa_cons (pv 0) pa_nil)) (pa_cons pe_int pa_nil))) pa_nil)) (pg_name (i := 4) sc_law_cask.nd rfl (.inl rfl))
          (pss_one (ps_set (i := 3) sc_law_cask.nd rfl (.inl rfl) (pe_op op_mod (pe_callTy call_int1 (by rfl) M.z_int (by decide +kernel) (pa_cons (pe_op op_add (pe_op op_add (pe_op op_mul (pv 3) (pe_op op_add pe_int (pe_op op_mul pe_int (pv 4)))) (pe_op op_mul pe_int (pe_ix ix_list (pv 0) (pv 4) (fun _ _ => rfl)))) pe_int) pa_nil)) pe_int)))) p3), fun own => ?_⟩
      refine ⟨_, rfl, 18013, (k : Nat), rfl, rfl, .inl ⟨by decide, by decide⟩, 282842, _, rfl, rfl, ?_⟩
      refine ⟨_, rfl, a, ns.map V.int, rfl, .inl hS, .inl ⟨((ns.map V.int).length : Nat), 8, rfl, ?_⟩⟩
      rw [List.length_map]
      generalize hj : (if (8 : Int) < (ns.length : Nat) then (8 : Int) else (ns.length : Nat)) = j
      have hj1 : j ≤ (ns.length : Nat) := by rw [← hj]; split <;> omega
      have hj2 : 0 ≤ j ∧ j ≤ 8 := by rw [← hj]; split <;> omega
      refine ⟨j, rfl, by omega, by omega, fun i m σ H3 => ∃ (mixed : Int) (y4 : Option V), σ = [some (.ref a), some (.int (k : Nat)), some (.int own), some (.int mixed), y4] ∧ i + m = j.toNat ∧ H3 = H, ⟨j.toNat, _, none, rfl, by omega, rfl⟩, fun i m σ H3 hW => ?_⟩
      obtain ⟨mixed, y4, rfl, em, rfl⟩ := hW
      by_cases hi : i < j.toNat
      · have hin : i < ns.length := by omega
        have gi : (ns.map V.int)[i]? = some (.int ns[i]) := by rw [List.getElem?_map, List.getElem?_eq_getElem hin]; rfl
        refine .inr ⟨hi, fun σ' H' => ∃ (mixed : Int) (y4 : Option V), σ' = [some (.ref a), some (.int (k : Nat)), some (.int own), some (.int mixed), y4] ∧ H' = H3, fun σ' H' hN => ?_, fun v H' hy => ?_⟩
        · obtain ⟨c3, z3, e1, e4⟩ := hN
          exact ⟨m - 1, by omega, c3, z3, e1, by omega, e4⟩
        · obtain ⟨rfl, rfl⟩ := hy
          have ei : (0 : Int) + (i : Nat) = (i : Nat) := by omega
          have hb : (-(2 ^ 64) < (30181 + 26 * (0 + (i : Nat)) : Int) ∧ (30181 + 26 * (0 + (i : Nat)) : Int) < 2 ^ 64) := by omega
          refine ⟨_, rfl, _, rfl, 26, _, rfl, rfl, .inl ⟨by decide, by decide⟩, 30181, _, rfl, rfl, mixed, _, rfl, rfl, .inr hb, _, rfl, _, rfl, a, ns.map V.int, _, .int ns[i], rfl, rfl, hS, by rw [ei]; exact atI_nat gi, 59, ns[i], rfl, rfl, .inl ⟨by decide, by decide⟩, _, _, rfl, rfl, _, 19001, rfl, rfl, .inl ⟨_, rfl, _, 2147482873, rfl, rfl, (show (0 : Int) < 2147482873 by decide), _, _, rfl, rfl⟩⟩
      · exact .inl ⟨by show j.toNat ≤ i; omega, fin' own mixed y4⟩
    refine ⟨_, pss_cons (ps_set (i := 2) sc_law_cask.nd rfl (.inl rfl) (pe_ifExp (pt_cmpR op_lt (pv 1) (pe_callB call_len_seq (by rfl) M.z_len PySem.boot_len (pa_cons (pv 0) pa_nil)) (nomark _)) (pe_ix ix_list (pv 0) (pv 1) (fun _ _ => rfl)) pe_int)) p2, ?_⟩
    refine ⟨_, rfl, _, rfl, a, ns.map V.int, rfl, .inl hS, (k : Nat), _, rfl, rfl, _, rfl, ?_⟩
    by_cases hlt : ((k : Nat) : Int) < ((ns.map V.int).length : Nat)
    · rw [decide_eq_true hlt]
      rw [List.length_map] at hlt
      have hk' : k < ns.length := by omega
      exact ⟨_, rfl, _, rfl, a, ns.map V.int, (k : Nat), .int ns[k], rfl, rfl, hS, atI_nat (by rw [List.getElem?_map, List.getElem?_eq_getElem hk']; rfl), two ns[k]⟩
    · rw [decide_eq_false hlt]
      exact two _
def dLenScr (i : Nat) : DE := fun env m Q => ∃ ns, env[i]? = some (.scr ns) ∧ Q (.int (ns.length : Nat)) m
theorem ge_lenScr {X : Cx} (i : Nat) {x : Str} {p p2 pos : Pos} (hg : Gl X "len") (hm : X.mg "len" = none) (hN : X.N[i]? = some x := by rfl) (hv : Vis X.env.scope x := by first | exact Or.inl rfl | exact Or.inr (Or.inl rfl) | exact Or.inr (Or.inr rfl)) (hd : (x == ("__debug__" : Str)) = false := by decide)
    (hcd : (x == ("__classdict__" : Str)) = false := by decide) (hs : starEach [.Name x p2] X.env = (false, eval (.Name x p2) X.env) :: starEach [] X.env := by rfl) : GE g X (.Call (.Name "len" p) [.Name x p2] [] pos) (dLenScr i) :=
  PE.weak (pe_callB call_len_seq hg hm PySem.boot_len (pa_cons (pe_var hN hv hd hcd) pa_nil hs) (by decide) (by decide) hs rfl) fun σ H Q ⟨c, F, env, m, Q1, r, ⟨ns, hns, q⟩, kk⟩ => by
    obtain ⟨a, e, h⟩ := r.slot i _ hns
    refine ⟨_, e, a, ns.map V.int, rfl, .inl (Evl.ex_l r.sub h), ?_⟩
    rw [List.length_map]
    exact kk _ H F m _ r (Fresh.refl r.sub r.ck) (.int _) q
def dRight (i j : Nat) : DE := fun env m Q => ∃ ns k, env[i]? = some (.scr ns) ∧ env[j]? = some (.val (natD k)) ∧ ns.length ≤ 63 ∧ k < 1000 ∧ Q (.bl true) m
theorem ge_right {X : Cx} (M : Mo X.K X.mg g ad fd) (i j : Nat) {x y : Str} {p p2 p3 p4 pos pos2 : Pos} (hr : Room 10 X.A) (calm : Calm X.A) (hg1 : Gl X "_law_right") (hg2 : Gl X "_law_cask") (hN : X.N[i]? = some x := by rfl) (hv : Vis X.env.scope x := by first | exact Or.inl rfl | exact Or.inr (Or.inl rfl) | exact Or.inr (Or.inr rfl)) (hd : (x == ("__debug__" : Str)) = false := by decide)
    (hcd : (x == ("__classdict__" : Str)) = false := by decide) (hN2 : X.N[j]? = some y := by rfl) (hv2 : Vis X.env.scope y := by first | exact Or.inl rfl | exact Or.inr (Or.inl rfl) | exact Or.inr (Or.inr rfl)) (hd2 : (y == ("__debug__" : Str)) = false := by decide) (hcd2 : (y == ("__classdict__" : Str)) = false := by decide)
    (hs1 : starEach [.Name x p3, .Name y p4] X.env = (false, eval (.Name x p3) X.env) :: starEach [.Name y p4] X.env := by rfl) (hs2 : starEach [.Name y p4] X.env = (false, eval (.Name y p4) X.env) :: starEach [] X.env := by rfl)
    (hs3 : starEach [.Call (.Name "_law_cask" p2) [.Name x p3, .Name y p4] [] pos2] X.env = (false, eval (.Call (.Name "_law_cask" p2) [.Name x p3, .Name y p4] [] pos2) X.env) :: starEach [] X.env := by rfl) :
    GE g X (.Call (.Name "_law_right" p) [.Call (.Name "_law_cask" p2) [.Name x p3, .Name y p4] [] pos2] [] pos) (dRight i j) :=
  PE.weak (pe_callG (ok_law_right M) hr calm hg1 M.m_law_right M.f_law_right.kp M.b_law_right (pa_cons (pe_call (ok_cask M) (hr.mono (by decide)) hg2 M.m_law_cask M.f_law_cask.kp M.b_law_cask .nil pass0 (pa_cons (pe_var hN hv hd hcd) (pa_cons (pe_var hN2 hv2 hd2 hcd2) pa_nil hs2) hs1) (by decide) hs1 (by rw [hs2]; rfl)) pa_nil hs3) (by decide) hs3 rfl) fun σ H Q ⟨c, F, env, m, Q1, r, ⟨ns, k, h1, h2, hlen, hk, q⟩, kk⟩ => by
    obtain ⟨a, e1, hS⟩ := r.slot i _ h1
    obtain ⟨v, e2, rv⟩ := r.slot j _ h2
    have rv' : Rep X.K g F (.int (k : Nat)) v := rv
    cases rv'
    refine ⟨_, e1, _, e2, a, ns, k, rfl, Evl.ex_l r.sub hS, hk, hlen, fun pp H1 f s t ex hp hH1 hf hs0 hs1 => ?_⟩
    have hF : F pp = none := ex_none r.sub hp
    refine ⟨some pp, F, [.cask], 0, fun d _ => d = .bl true, r.sub.trans ex, .cons ⟨pp, rfl, rfl⟩ .nil, ⟨fun b z => ?_, r.ck.tb.keep fun b o z _ => ex b o z⟩, ⟨rfl, rfl⟩, fun v2 H2 F2 m2 x2 fr ckx rp ex2 => ?_⟩
    · cases z
      exact ⟨hF, _, hH1, by rw [M.ck]; exact ⟨f, s, t, rfl, hf, hs0, hs1⟩⟩
    · subst ex2
      have ne : ∀ {b : Addr} {o : HO}, H b = some o → (some pp : Option Addr) ≠ some b := fun hb z => by cases z; rw [hp] at hb; cases hb
      have fresh : Fresh c F H F2 H2 := by
        refine ⟨fr.ff, fr.fh, fun b o hb _ => fr.hk b o (ex b o hb) (ne hb), fun b o hb => ?_, fun b z => ?_⟩
        · rcases fr.new b o hb with u | u
          · exact .inl u
          · exact .inr (ex_none ex u)
        · obtain ⟨u1, ys, u2, _⟩ := r.ck b z
          cases w2 : F2 b with
          | none => rfl
          | some o =>
            rcases fr.new b o w2 with u | u
            · rw [u1] at u; cases u
            · rw [ex b _ u2] at u; cases u
      have ck2 : Ck g c m F2 H2 := ⟨fun b z => by
        obtain ⟨u1, ys, u2, u3⟩ := r.ck b z
        exact ⟨fresh.nc b z, ys, fr.hh b _ (ex b _ u2) (ne u2), u3⟩, ckx.tb⟩
      exact kk v2 H2 F2 m _ (r.fresh fresh ck2) fresh rp q
def d_law : DS := dRet (dCallB allD (dConsL (dNew (dLc (dIRng (dCallB maxD2 (dConsL (dC (.int 2)) (dConsL (dCallB minD2 (dConsL (dLenScr 0) (dConsL (dC (.int 3)) dNilL))) dNilL)))) (tgN 1) dYes (dRight 0 1) [1])) dNilL))
def S_law : G.Spec := fun as m Q => ∃ ns, ns.length ≤ 63 ∧ as = [.scr ns] ∧ ∀ m', Q (.bl true) m'
theorem S_law_len : ∀ as m Q, S_law as m Q → as.length = 1 := by rintro as m Q ⟨_, _, rfl, _⟩; rfl
theorem law_law : ∀ as m Q, S_law as m Q → d_law (pad N_law as) m (fin Q) := by
  rintro as m Q ⟨ns, hlen, rfl, q⟩
  refine ⟨_, rfl, _, rfl, _, rfl, ?_⟩
  obtain ⟨n, hn, e⟩ : ∃ n : Nat, n ≤ 3 ∧ (if (if (3 : Int) < (ns.length : Nat) then (3 : Int) else (ns.length : Nat)) > 2 then (if (3 : Int) < (ns.length : Nat) then (3 : Int) else (ns.length : Nat)) else 2) = (n : Nat) := by
    refine ⟨(if (if (3 : Int) < (ns.length : Nat) then (3 : Int) else (ns.length : Nat)) > 2 then (if (3 : Int) < (ns.length : Nat) then (3 : Int) else (ns.length : Nat)) else 2).toNat, ?_, ?_⟩ <;> (repeat' split) <;> omega
  rw [e]
  refine ⟨(n : Nat), rfl, by omega, by omega, ?_⟩
  rw [natD_map]
  refine ⟨by rw [List.length_map, List.length_range]; have := llv; omega, ?_⟩
  refine lcR_m natD (fun _ => .bl true) (List.range n) m _ (fun i hi => ?_) ⟨_, all_true _, q m⟩
  have := List.mem_range.mp hi
  exact ⟨_, rfl, fun m Q q => ⟨ns, i, rfl, rfl, hlen, by omega, q⟩⟩
theorem ok_law (M : Mo K mg g ad fd) : FnG P w K mg base 11 (ad 54) (fd 54) ["_law_cells"] (spOf K g S_law) :=
  def_okG M.f_law sc_law S_law_len fun cdv A outer s H E hr calm => ⟨d_law,
    (gss_one (gs_ret (ge_callB (cr_all rfl) cd_all (by rfl) M.z_all (by decide +kernel) (gab_cons (gb_e (ge_n (gn_lc' rfl sc_law.nd (gi_bor (gi_range (by rfl) M.z_range (ge_callB (cr_max2 rfl) cd_max2 (by rfl) M.z_max (by decide +kernel) (gab_cons (gb_e ge_int) (gab_cons (gb_e (ge_callB (cr_min2 rfl) cd_min2 (by rfl) M.z_min (by decide +kernel) (gab_cons (gb_e (ge_lenScr 0 (by rfl) M.z_len)) (gab_cons (gb_e ge_int) gab_nil)))) gab_nil))))) (blkOk_by (N := N_law) (sc := defScope st_law) (own := [("_law_at", 1)]) (by decide +kernel)) (fun s H C cl fp => gg_name (j := 1) sc_law.nd rfl (.inl rfl)) (fun s H C cl fp => gts_nil) (fun s H C cl fp => ge_right M 0 1 hr calm (by rfl) (by rfl))))) gab_nil)))), law_law⟩
end K06
namespace K06
open PySem L2 G
open T hiding S_are_letters S_are_letters_len S_law_lots S_law_parts ckOk
open SH hiding sb
open K10 hiding S_every_lot S_every_lot_len S_law_right S_law_right_len d_every_lot d_law_right fl law_every_lot n_every_lot n_law_right pm0 pm120 rest rng_in sum_add
open K15 hiding S_law_right S_law_right_len d_law_right n_law_right pm0
open K03 hiding S_law_net S_law_net_len S_law_right S_law_right_len S_law_spots S_law_spots_len d_law_net d_law_right d_law_spots law_law_net law_law_spots n_law_net n_law_right n_law_spots pm10
open K04 hiding S_law_right S_law_right_len d_law_right n_law_right pm0
open K05 hiding S_law_net S_law_net_len S_law_right S_law_right_len
open WB
def spLaw (K : PySem.W.Frag) : Sp := fun vs H Q _ => ∃ (a : Addr) (ns : List Int), vs = [.ref a] ∧ SqL K H a (ns.map V.int) ∧ ns.length ≤ 63 ∧ ∀ H', Q (.bl true) H'
theorem all_mk {P : Program} {w : World} {K : PySem.W.Frag} {h : Heap} {mg : Str → Option Value} {fa C f0 f1 f2 f3 f4 f5 f6 f7 f8 f9 f10 f11 f12 f13 f14 f15 f16 f17 f18 f19 f20 f21 f22 f23 f24 f25 f26 f27 f28 f29 f30 f31 f32 f33 f34 f35 f36 f37 f38 f39 f40 f41 f42 f43 f44 f45 f46 f47 f48 f49 f50 f51 f52 f53 f54 : Addr} (X : K.In h) (G : h.Ns mainGlobals mg) (hfa : mg "law" = some (.ref fa))
    {od0 an0 : Option Addr} {sl0 : Array (Option Value)} {oc0 kV0 dc0 pm0 cd0 ct0 : Value}
    {od1 an1 : Option Addr} {sl1 : Array (Option Value)} {oc1 kV1 dc1 pm1 cd1 ct1 : Value}
    {od2 an2 : Option Addr} {sl2 : Array (Option Value)} {oc2 kV2 dc2 pm2 cd2 ct2 : Value}
    {od3 an3 : Option Addr} {sl3 : Array (Option Value)} {oc3 kV3 dc3 pm3 cd3 ct3 : Value}
    {od4 an4 : Option Addr} {sl4 : Array (Option Value)} {oc4 kV4 dc4 pm4 cd4 ct4 : Value}
    {od5 an5 : Option Addr} {sl5 : Array (Option Value)} {oc5 kV5 dc5 pm5 cd5 ct5 : Value}
    {od6 an6 : Option Addr} {sl6 : Array (Option Value)} {oc6 kV6 dc6 pm6 cd6 ct6 : Value}
    {od7 an7 : Option Addr} {sl7 : Array (Option Value)} {oc7 kV7 dc7 pm7 cd7 ct7 : Value}
    {od8 an8 : Option Addr} {sl8 : Array (Option Value)} {oc8 kV8 dc8 pm8 cd8 ct8 : Value}
    {od9 an9 : Option Addr} {sl9 : Array (Option Value)} {oc9 kV9 dc9 pm9 cd9 ct9 : Value}
    {od10 an10 : Option Addr} {sl10 : Array (Option Value)} {oc10 kV10 dc10 pm10 cd10 ct10 : Value}
    {od11 an11 : Option Addr} {sl11 : Array (Option Value)} {oc11 kV11 dc11 pm11 cd11 ct11 : Value}
    {od12 an12 : Option Addr} {sl12 : Array (Option Value)} {oc12 kV12 dc12 pm12 cd12 ct12 : Value}
    {od13 an13 : Option Addr} {sl13 : Array (Option Value)} {oc13 kV13 dc13 pm13 cd13 ct13 : Value}
    {od14 an14 : Option Addr} {sl14 : Array (Option Value)} {oc14 kV14 dc14 pm14 cd14 ct14 : Value}
    {od15 an15 : Option Addr} {sl15 : Array (Option Value)} {oc15 kV15 dc15 pm15 cd15 ct15 : Value}
    {od16 an16 : Option Addr} {sl16 : Array (Option Value)} {oc16 kV16 dc16 pm16 cd16 ct16 : Value}
    {od17 an17 : Option Addr} {sl17 : Array (Option Value)} {oc17 kV17 dc17 pm17 cd17 ct17 : Value}
    {od18 an18 : Option Addr} {sl18 : Array (Option Value)} {oc18 kV18 dc18 pm18 cd18 ct18 : Value}
    {od19 an19 : Option Addr} {sl19 : Array (Option Value)} {oc19 kV19 dc19 pm19 cd19 ct19 : Value}
    {od20 an20 : Option Addr} {sl20 : Array (Option Value)} {oc20 kV20 dc20 pm20 cd20 ct20 : Value}
    {od21 an21 : Option Addr} {sl21 : Array (Option Value)} {oc21 kV21 dc21 pm21 cd21 ct21 : Value}
    {od22 an22 : Option Addr} {sl22 : Array (Option Value)} {oc22 kV22 dc22 pm22 cd22 ct22 : Value}
    {od23 an23 : Option Addr} {sl23 : Array (Option Value)} {oc23 kV23 dc23 pm23 cd23 ct23 : Value}
    {od24 an24 : Option Addr} {sl24 : Array (Option Value)} {oc24 kV24 dc24 pm24 cd24 ct24 : Value}
    {od25 an25 : Option Addr} {sl25 : Array (Option Value)} {oc25 kV25 dc25 pm25 cd25 ct25 : Value}
    {od26 an26 : Option Addr} {sl26 : Array (Option Value)} {oc26 kV26 dc26 pm26 cd26 ct26 : Value}
    {od27 an27 : Option Addr} {sl27 : Array (Option Value)} {oc27 kV27 dc27 pm27 cd27 ct27 : Value}
    {od28 an28 : Option Addr} {sl28 : Array (Option Value)} {oc28 kV28 dc28 pm28 cd28 ct28 : Value}
    {od29 an29 : Option Addr} {sl29 : Array (Option Value)} {oc29 kV29 dc29 pm29 cd29 ct29 : Value}
    {od30 an30 : Option Addr} {sl30 : Array (Option Value)} {oc30 kV30 dc30 pm30 cd30 ct30 : Value}
    {od31 an31 : Option Addr} {sl31 : Array (Option Value)} {oc31 kV31 dc31 pm31 cd31 ct31 : Value}
    {od32 an32 : Option Addr} {sl32 : Array (Option Value)} {oc32 kV32 dc32 pm32 cd32 ct32 : Value}
    {od33 an33 : Option Addr} {sl33 : Array (Option Value)} {oc33 kV33 dc33 pm33 cd33 ct33 : Value}
    {od34 an34 : Option Addr} {sl34 : Array (Option Value)} {oc34 kV34 dc34 pm34 cd34 ct34 : Value}
    {od35 an35 : Option Addr} {sl35 : Array (Option Value)} {oc35 kV35 dc35 pm35 cd35 ct35 : Value}
    {od36 an36 : Option Addr} {sl36 : Array (Option Value)} {oc36 kV36 dc36 pm36 cd36 ct36 : Value}
    {od37 an37 : Option Addr} {sl37 : Array (Option Value)} {oc37 kV37 dc37 pm37 cd37 ct37 : Value}
    {od38 an38 : Option Addr} {sl38 : Array (Option Value)} {oc38 kV38 dc38 pm38 cd38 ct38 : Value}
    {od39 an39 : Option Addr} {sl39 : Array (Option Value)} {oc39 kV39 dc39 pm39 cd39 ct39 : Value}
    {od40 an40 : Option Addr} {sl40 : Array (Option Value)} {oc40 kV40 dc40 pm40 cd40 ct40 : Value}
    {od41 an41 : Option Addr} {sl41 : Array (Option Value)} {oc41 kV41 dc41 pm41 cd41 ct41 : Value}
    {od42 an42 : Option Addr} {sl42 : Array (Option Value)} {oc42 kV42 dc42 pm42 cd42 ct42 : Value}
    {od43 an43 : Option Addr} {sl43 : Array (Option Value)} {oc43 kV43 dc43 pm43 cd43 ct43 : Value}
    {od44 an44 : Option Addr} {sl44 : Array (Option Value)} {oc44 kV44 dc44 pm44 cd44 ct44 : Value}
    {od45 an45 : Option Addr} {sl45 : Array (Option Value)} {oc45 kV45 dc45 pm45 cd45 ct45 : Value}
    {od46 an46 : Option Addr} {sl46 : Array (Option Value)} {oc46 kV46 dc46 pm46 cd46 ct46 : Value}
    {od47 an47 : Option Addr} {sl47 : Array (Option Value)} {oc47 kV47 dc47 pm47 cd47 ct47 : Value}
    {od48 an48 : Option Addr} {sl48 : Array (Option Value)} {oc48 kV48 dc48 pm48 cd48 ct48 : Value}
    {od49 an49 : Option Addr} {sl49 : Array (Option Value)} {oc49 kV49 dc49 pm49 cd49 ct49 : Value}
    {od50 an50 : Option Addr} {sl50 : Array (Option Value)} {oc50 kV50 dc50 pm50 cd50 ct50 : Value}
    {od51 an51 : Option Addr} {sl51 : Array (Option Value)} {oc51 kV51 dc51 pm51 cd51 ct51 : Value}
    {od52 an52 : Option Addr} {sl52 : Array (Option Value)} {oc52 kV52 dc52 pm52 cd52 ct52 : Value}
    {od53 an53 : Option Addr} {sl53 : Array (Option Value)} {oc53 kV53 dc53 pm53 cd53 ct53 : Value}
    {od54 an54 : Option Addr} {sl54 : Array (Option Value)} {oc54 kV54 dc54 pm54 cd54 ct54 : Value}
    (a0 : PySem.W.nsIn K mainGlobals "are_letters" = some (some (.ref f0)))
    (l0 : K.lookup f0 = some ⟨oc0, od0, .func (PySem.W.fnOf "are_letters" "are_letters" (defArgs st_are_letters) (defBody st_are_letters) (defScope st_are_letters) .none kV0 dc0 pm0 an0 cd0 ct0), sl0⟩) (c0 : PySem.W.codeIn K cd0 "are_letters" = true) (k0 : PySem.W.keepIn K (.ref f0) = true)
    (a1 : PySem.W.nsIn K mainGlobals "are_places" = some (some (.ref f1)))
    (l1 : K.lookup f1 = some ⟨oc1, od1, .func (PySem.W.fnOf "are_places" "are_places" (defArgs st_are_places) (defBody st_are_places) (defScope st_are_places) .none kV1 dc1 pm1 an1 cd1 ct1), sl1⟩) (c1 : PySem.W.codeIn K cd1 "are_places" = true) (k1 : PySem.W.keepIn K (.ref f1) = true)
    (a2 : PySem.W.nsIn K mainGlobals "is_tie" = some (some (.ref f2)))
    (l2 : K.lookup f2 = some ⟨oc2, od2, .func (PySem.W.fnOf "is_tie" "is_tie" (defArgs st_is_tie) (defBody st_is_tie) (defScope st_is_tie) .none kV2 dc2 pm2 an2 cd2 ct2), sl2⟩) (c2 : PySem.W.codeIn K cd2 "is_tie" = true) (k2 : PySem.W.keepIn K (.ref f2) = true)
    (a3 : PySem.W.nsIn K mainGlobals "wrong_tie" = some (some (.ref f3)))
    (l3 : K.lookup f3 = some ⟨oc3, od3, .func (PySem.W.fnOf "wrong_tie" "wrong_tie" (defArgs st_wrong_tie) (defBody st_wrong_tie) (defScope st_wrong_tie) .none kV3 dc3 pm3 an3 cd3 ct3), sl3⟩) (c3 : PySem.W.codeIn K cd3 "wrong_tie" = true) (k3 : PySem.W.keepIn K (.ref f3) = true)
    (a4 : PySem.W.findIn K (.ref C) "__init__" = some (some (.ref f4)))
    (l4 : K.lookup f4 = some ⟨oc4, od4, .func (PySem.W.fnOf "__init__" "Web.__init__" (defArgs st_Webinit) (defBody st_Webinit) (defScope st_Webinit) .none kV4 dc4 pm4 an4 cd4 ct4), sl4⟩) (c4 : PySem.W.codeIn K cd4 "Web.__init__" = true) (k4 : PySem.W.keepIn K (.ref f4) = true)
    (a5 : PySem.W.findIn K (.ref C) "__len__" = some (some (.ref f5)))
    (l5 : K.lookup f5 = some ⟨oc5, od5, .func (PySem.W.fnOf "__len__" "Web.__len__" (defArgs st_Weblen) (defBody st_Weblen) (defScope st_Weblen) .none kV5 dc5 pm5 an5 cd5 ct5), sl5⟩) (c5 : PySem.W.codeIn K cd5 "Web.__len__" = true) (k5 : PySem.W.keepIn K (.ref f5) = true)
    (a6 : PySem.W.findIn K (.ref C) "text" = some (some (.ref f6)))
    (l6 : K.lookup f6 = some ⟨oc6, od6, .func (PySem.W.fnOf "text" "Web.text" (defArgs st_Webtext) (defBody st_Webtext) (defScope st_Webtext) .none kV6 dc6 pm6 an6 cd6 ct6), sl6⟩) (c6 : PySem.W.codeIn K cd6 "Web.text" = true) (k6 : PySem.W.keepIn K (.ref f6) = true)
    (a7 : PySem.W.findIn K (.ref C) "__eq__" = some (some (.ref f7)))
    (l7 : K.lookup f7 = some ⟨oc7, od7, .func (PySem.W.fnOf "__eq__" "Web.__eq__" (defArgs st_Webeq) (defBody st_Webeq) (defScope st_Webeq) .none kV7 dc7 pm7 an7 cd7 ct7), sl7⟩) (c7 : PySem.W.codeIn K cd7 "Web.__eq__" = true) (k7 : PySem.W.keepIn K (.ref f7) = true)
    (a8 : PySem.W.nsIn K mainGlobals "check_web" = some (some (.ref f8)))
    (l8 : K.lookup f8 = some ⟨oc8, od8, .func (PySem.W.fnOf "check_web" "check_web" (defArgs st_check_web) (defBody st_check_web) (defScope st_check_web) .none kV8 dc8 pm8 an8 cd8 ct8), sl8⟩) (c8 : PySem.W.codeIn K cd8 "check_web" = true) (k8 : PySem.W.keepIn K (.ref f8) = true)
    (a9 : PySem.W.nsIn K mainGlobals "tie_of" = some (some (.ref f9)))
    (l9 : K.lookup f9 = some ⟨oc9, od9, .func (PySem.W.fnOf "tie_of" "tie_of" (defArgs st_tie_of) (defBody st_tie_of) (defScope st_tie_of) .none kV9 dc9 pm9 an9 cd9 ct9), sl9⟩) (c9 : PySem.W.codeIn K cd9 "tie_of" = true) (k9 : PySem.W.keepIn K (.ref f9) = true)
    (a10 : PySem.W.nsIn K mainGlobals "with_letters" = some (some (.ref f10)))
    (l10 : K.lookup f10 = some ⟨oc10, od10, .func (PySem.W.fnOf "with_letters" "with_letters" (defArgs st_with_letters) (defBody st_with_letters) (defScope st_with_letters) .none kV10 dc10 pm10 an10 cd10 ct10), sl10⟩) (c10 : PySem.W.codeIn K cd10 "with_letters" = true) (k10 : PySem.W.keepIn K (.ref f10) = true)
    (a11 : PySem.W.nsIn K mainGlobals "renamed" = some (some (.ref f11)))
    (l11 : K.lookup f11 = some ⟨oc11, od11, .func (PySem.W.fnOf "renamed" "renamed" (defArgs st_renamed) (defBody st_renamed) (defScope st_renamed) .none kV11 dc11 pm11 an11 cd11 ct11), sl11⟩) (c11 : PySem.W.codeIn K cd11 "renamed" = true) (k11 : PySem.W.keepIn K (.ref f11) = true)
    (a12 : PySem.W.nsIn K mainGlobals "herds_of" = some (some (.ref f12)))
    (l12 : K.lookup f12 = some ⟨oc12, od12, .func (PySem.W.fnOf "herds_of" "herds_of" (defArgs st_herds_of) (defBody st_herds_of) (defScope st_herds_of) .none kV12 dc12 pm12 an12 cd12 ct12), sl12⟩) (c12 : PySem.W.codeIn K cd12 "herds_of" = true) (k12 : PySem.W.keepIn K (.ref f12) = true)
    (a13 : PySem.W.nsIn K mainGlobals "all_orders" = some (some (.ref f13)))
    (l13 : K.lookup f13 = some ⟨oc13, od13, .func (PySem.W.fnOf "all_orders" "all_orders" (defArgs st_all_orders) (defBody st_all_orders) (defScope st_all_orders) .none kV13 dc13 pm13 an13 cd13 ct13), sl13⟩) (c13 : PySem.W.codeIn K cd13 "all_orders" = true) (k13 : PySem.W.keepIn K (.ref f13) = true)
    (a14 : PySem.W.nsIn K mainGlobals "drawn" = some (some (.ref f14)))
    (l14 : K.lookup f14 = some ⟨oc14, od14, .func (PySem.W.fnOf "drawn" "drawn" (defArgs st_drawn) (defBody st_drawn) (defScope st_drawn) .none kV14 dc14 pm14 an14 cd14 ct14), sl14⟩) (c14 : PySem.W.codeIn K cd14 "drawn" = true) (k14 : PySem.W.keepIn K (.ref f14) = true)
    (a15 : PySem.W.nsIn K mainGlobals "renamings_to" = some (some (.ref f15)))
    (l15 : K.lookup f15 = some ⟨oc15, od15, .func (PySem.W.fnOf "renamings_to" "renamings_to" (defArgs st_renamings_to) (defBody st_renamings_to) (defScope st_renamings_to) .none kV15 dc15 pm15 an15 cd15 ct15), sl15⟩) (c15 : PySem.W.codeIn K cd15 "renamings_to" = true) (k15 : PySem.W.keepIn K (.ref f15) = true)
    (a16 : PySem.W.nsIn K mainGlobals "plain_of" = some (some (.ref f16)))
    (l16 : K.lookup f16 = some ⟨oc16, od16, .func (PySem.W.fnOf "plain_of" "plain_of" (defArgs st_plain_of) (defBody st_plain_of) (defScope st_plain_of) .none kV16 dc16 pm16 an16 cd16 ct16), sl16⟩) (c16 : PySem.W.codeIn K cd16 "plain_of" = true) (k16 : PySem.W.keepIn K (.ref f16) = true)
    (a17 : PySem.W.nsIn K mainGlobals "plain_text" = some (some (.ref f17)))
    (l17 : K.lookup f17 = some ⟨oc17, od17, .func (PySem.W.fnOf "plain_text" "plain_text" (defArgs st_plain_text) (defBody st_plain_text) (defScope st_plain_text) .none kV17 dc17 pm17 an17 cd17 ct17), sl17⟩) (c17 : PySem.W.codeIn K cd17 "plain_text" = true) (k17 : PySem.W.keepIn K (.ref f17) = true)
    (a18 : PySem.W.nsIn K mainGlobals "count_renamings" = some (some (.ref f18)))
    (l18 : K.lookup f18 = some ⟨oc18, od18, .func (PySem.W.fnOf "count_renamings" "count_renamings" (defArgs st_count_renamings) (defBody st_count_renamings) (defScope st_count_renamings) .none kV18 dc18 pm18 an18 cd18 ct18), sl18⟩) (c18 : PySem.W.codeIn K cd18 "count_renamings" = true) (k18 : PySem.W.keepIn K (.ref f18) = true)
    (a19 : PySem.W.nsIn K mainGlobals "every_tie" = some (some (.ref f19)))
    (l19 : K.lookup f19 = some ⟨oc19, od19, .func (PySem.W.fnOf "every_tie" "every_tie" (defArgs st_every_tie) (defBody st_every_tie) (defScope st_every_tie) .none kV19 dc19 pm19 an19 cd19 ct19), sl19⟩) (c19 : PySem.W.codeIn K cd19 "every_tie" = true) (k19 : PySem.W.keepIn K (.ref f19) = true)
    (a20 : PySem.W.nsIn K mainGlobals "ties_of" = some (some (.ref f20)))
    (l20 : K.lookup f20 = some ⟨oc20, od20, .func (PySem.W.fnOf "ties_of" "ties_of" (defArgs st_ties_of) (defBody st_ties_of) (defScope st_ties_of) .none kV20 dc20 pm20 an20 cd20 ct20), sl20⟩) (c20 : PySem.W.codeIn K cd20 "ties_of" = true) (k20 : PySem.W.keepIn K (.ref f20) = true)
    (a21 : PySem.W.nsIn K mainGlobals "pieces_of" = some (some (.ref f21)))
    (l21 : K.lookup f21 = some ⟨oc21, od21, .func (PySem.W.fnOf "pieces_of" "pieces_of" (defArgs st_pieces_of) (defBody st_pieces_of) (defScope st_pieces_of) .none kV21 dc21 pm21 an21 cd21 ct21), sl21⟩) (c21 : PySem.W.codeIn K cd21 "pieces_of" = true) (k21 : PySem.W.keepIn K (.ref f21) = true)
    (a22 : PySem.W.nsIn K mainGlobals "rank_of" = some (some (.ref f22)))
    (l22 : K.lookup f22 = some ⟨oc22, od22, .func (PySem.W.fnOf "rank_of" "rank_of" (defArgs st_rank_of) (defBody st_rank_of) (defScope st_rank_of) .none kV22 dc22 pm22 an22 cd22 ct22), sl22⟩) (c22 : PySem.W.codeIn K cd22 "rank_of" = true) (k22 : PySem.W.keepIn K (.ref f22) = true)
    (a23 : PySem.W.nsIn K mainGlobals "spare_of" = some (some (.ref f23)))
    (l23 : K.lookup f23 = some ⟨oc23, od23, .func (PySem.W.fnOf "spare_of" "spare_of" (defArgs st_spare_of) (defBody st_spare_of) (defScope st_spare_of) .none kV23 dc23 pm23 an23 cd23 ct23), sl23⟩) (c23 : PySem.W.codeIn K cd23 "spare_of" = true) (k23 : PySem.W.keepIn K (.ref f23) = true)
    (a24 : PySem.W.nsIn K mainGlobals "without" = some (some (.ref f24)))
    (l24 : K.lookup f24 = some ⟨oc24, od24, .func (PySem.W.fnOf "without" "without" (defArgs st_without) (defBody st_without) (defScope st_without) .none kV24 dc24 pm24 an24 cd24 ct24), sl24⟩) (c24 : PySem.W.codeIn K cd24 "without" = true) (k24 : PySem.W.keepIn K (.ref f24) = true)
    (a25 : PySem.W.nsIn K mainGlobals "is_free_lot" = some (some (.ref f25)))
    (l25 : K.lookup f25 = some ⟨oc25, od25, .func (PySem.W.fnOf "is_free_lot" "is_free_lot" (defArgs st_is_free_lot) (defBody st_is_free_lot) (defScope st_is_free_lot) .none kV25 dc25 pm25 an25 cd25 ct25), sl25⟩) (c25 : PySem.W.codeIn K cd25 "is_free_lot" = true) (k25 : PySem.W.keepIn K (.ref f25) = true)
    (a26 : PySem.W.nsIn K mainGlobals "is_round" = some (some (.ref f26)))
    (l26 : K.lookup f26 = some ⟨oc26, od26, .func (PySem.W.fnOf "is_round" "is_round" (defArgs st_is_round) (defBody st_is_round) (defScope st_is_round) .none kV26 dc26 pm26 an26 cd26 ct26), sl26⟩) (c26 : PySem.W.codeIn K cd26 "is_round" = true) (k26 : PySem.W.keepIn K (.ref f26) = true)
    (a27 : PySem.W.nsIn K mainGlobals "ends_at" = some (some (.ref f27)))
    (l27 : K.lookup f27 = some ⟨oc27, od27, .func (PySem.W.fnOf "ends_at" "ends_at" (defArgs st_ends_at) (defBody st_ends_at) (defScope st_ends_at) .none kV27 dc27 pm27 an27 cd27 ct27), sl27⟩) (c27 : PySem.W.codeIn K cd27 "ends_at" = true) (k27 : PySem.W.keepIn K (.ref f27) = true)
    (a28 : PySem.W.nsIn K mainGlobals "is_even_lot" = some (some (.ref f28)))
    (l28 : K.lookup f28 = some ⟨oc28, od28, .func (PySem.W.fnOf "is_even_lot" "is_even_lot" (defArgs st_is_even_lot) (defBody st_is_even_lot) (defScope st_is_even_lot) .none kV28 dc28 pm28 an28 cd28 ct28), sl28⟩) (c28 : PySem.W.codeIn K cd28 "is_even_lot" = true) (k28 : PySem.W.keepIn K (.ref f28) = true)
    (a29 : PySem.W.nsIn K mainGlobals "every_lot" = some (some (.ref f29)))
    (l29 : K.lookup f29 = some ⟨oc29, od29, .func (PySem.W.fnOf "every_lot" "every_lot" (defArgs st_every_lot) (defBody st_every_lot) (defScope st_every_lot) .none kV29 dc29 pm29 an29 cd29 ct29), sl29⟩) (c29 : PySem.W.codeIn K cd29 "every_lot" = true) (k29 : PySem.W.keepIn K (.ref f29) = true)
    (a30 : PySem.W.nsIn K mainGlobals "every_tree" = some (some (.ref f30)))
    (l30 : K.lookup f30 = some ⟨oc30, od30, .func (PySem.W.fnOf "every_tree" "every_tree" (defArgs st_every_tree) (defBody st_every_tree) (defScope st_every_tree) .none kV30 dc30 pm30 an30 cd30 ct30), sl30⟩) (c30 : PySem.W.codeIn K cd30 "every_tree" = true) (k30 : PySem.W.keepIn K (.ref f30) = true)
    (a31 : PySem.W.nsIn K mainGlobals "all_rings" = some (some (.ref f31)))
    (l31 : K.lookup f31 = some ⟨oc31, od31, .func (PySem.W.fnOf "all_rings" "all_rings" (defArgs st_all_rings) (defBody st_all_rings) (defScope st_all_rings) .none kV31 dc31 pm31 an31 cd31 ct31), sl31⟩) (c31 : PySem.W.codeIn K cd31 "all_rings" = true) (k31 : PySem.W.keepIn K (.ref f31) = true)
    (a32 : PySem.W.nsIn K mainGlobals "rings" = some (some (.ref f32)))
    (l32 : K.lookup f32 = some ⟨oc32, od32, .func (PySem.W.fnOf "rings" "rings" (defArgs st_rings) (defBody st_rings) (defScope st_rings) .none kV32 dc32 pm32 an32 cd32 ct32), sl32⟩) (c32 : PySem.W.codeIn K cd32 "rings" = true) (k32 : PySem.W.keepIn K (.ref f32) = true)
    (a33 : PySem.W.nsIn K mainGlobals "blocks" = some (some (.ref f33)))
    (l33 : K.lookup f33 = some ⟨oc33, od33, .func (PySem.W.fnOf "blocks" "blocks" (defArgs st_blocks) (defBody st_blocks) (defScope st_blocks) .none kV33 dc33 pm33 an33 cd33 ct33), sl33⟩) (c33 : PySem.W.codeIn K cd33 "blocks" = true) (k33 : PySem.W.keepIn K (.ref f33) = true)
    (a34 : PySem.W.nsIn K mainGlobals "empty_rows" = some (some (.ref f34)))
    (l34 : K.lookup f34 = some ⟨oc34, od34, .func (PySem.W.fnOf "empty_rows" "empty_rows" (defArgs st_empty_rows) (defBody st_empty_rows) (defScope st_empty_rows) .none kV34 dc34 pm34 an34 cd34 ct34), sl34⟩) (c34 : PySem.W.codeIn K cd34 "empty_rows" = true) (k34 : PySem.W.keepIn K (.ref f34) = true)
    (a35 : PySem.W.nsIn K mainGlobals "as_table" = some (some (.ref f35)))
    (l35 : K.lookup f35 = some ⟨oc35, od35, .func (PySem.W.fnOf "as_table" "as_table" (defArgs st_as_table) (defBody st_as_table) (defScope st_as_table) .none kV35 dc35 pm35 an35 cd35 ct35), sl35⟩) (c35 : PySem.W.codeIn K cd35 "as_table" = true) (k35 : PySem.W.keepIn K (.ref f35) = true)
    (a36 : PySem.W.nsIn K mainGlobals "counted_lots" = some (some (.ref f36)))
    (l36 : K.lookup f36 = some ⟨oc36, od36, .func (PySem.W.fnOf "counted_lots" "counted_lots" (defArgs st_counted_lots) (defBody st_counted_lots) (defScope st_counted_lots) .none kV36 dc36 pm36 an36 cd36 ct36), sl36⟩) (c36 : PySem.W.codeIn K cd36 "counted_lots" = true) (k36 : PySem.W.keepIn K (.ref f36) = true)
    (a37 : PySem.W.nsIn K mainGlobals "ways_to_choose" = some (some (.ref f37)))
    (l37 : K.lookup f37 = some ⟨oc37, od37, .func (PySem.W.fnOf "ways_to_choose" "ways_to_choose" (defArgs st_ways_to_choose) (defBody st_ways_to_choose) (defScope st_ways_to_choose) .none kV37 dc37 pm37 an37 cd37 ct37), sl37⟩) (c37 : PySem.W.codeIn K cd37 "ways_to_choose" = true) (k37 : PySem.W.keepIn K (.ref f37) = true)
    (a38 : PySem.W.nsIn K mainGlobals "shifted" = some (some (.ref f38)))
    (l38 : K.lookup f38 = some ⟨oc38, od38, .func (PySem.W.fnOf "shifted" "shifted" (defArgs st_shifted) (defBody st_shifted) (defScope st_shifted) .none kV38 dc38 pm38 an38 cd38 ct38), sl38⟩) (c38 : PySem.W.codeIn K cd38 "shifted" = true) (k38 : PySem.W.keepIn K (.ref f38) = true)
    (a39 : PySem.W.nsIn K mainGlobals "table_rows" = some (some (.ref f39)))
    (l39 : K.lookup f39 = some ⟨oc39, od39, .func (PySem.W.fnOf "table_rows" "table_rows" (defArgs st_table_rows) (defBody st_table_rows) (defScope st_table_rows) .none kV39 dc39 pm39 an39 cd39 ct39), sl39⟩) (c39 : PySem.W.codeIn K cd39 "table_rows" = true) (k39 : PySem.W.keepIn K (.ref f39) = true)
    (a40 : PySem.W.nsIn K mainGlobals "table" = some (some (.ref f40)))
    (l40 : K.lookup f40 = some ⟨oc40, od40, .func (PySem.W.fnOf "table" "table" (defArgs st_table) (defBody st_table) (defScope st_table) .none kV40 dc40 pm40 an40 cd40 ct40), sl40⟩) (c40 : PySem.W.codeIn K cd40 "table" = true) (k40 : PySem.W.keepIn K (.ref f40) = true)
    (a41 : PySem.W.nsIn K mainGlobals "all_trees" = some (some (.ref f41)))
    (l41 : K.lookup f41 = some ⟨oc41, od41, .func (PySem.W.fnOf "all_trees" "all_trees" (defArgs st_all_trees) (defBody st_all_trees) (defScope st_all_trees) .none kV41 dc41 pm41 an41 cd41 ct41), sl41⟩) (c41 : PySem.W.codeIn K cd41 "all_trees" = true) (k41 : PySem.W.keepIn K (.ref f41) = true)
    (a42 : PySem.W.nsIn K mainGlobals "_law_cask" = some (some (.ref f42)))
    (l42 : K.lookup f42 = some ⟨oc42, od42, .func (PySem.W.fnOf "_law_cask" "_law_cask" (defArgs st_law_cask) (defBody st_law_cask) (defScope st_law_cask) .none kV42 dc42 pm42 an42 cd42 ct42), sl42⟩) (c42 : PySem.W.codeIn K cd42 "_law_cask" = true) (k42 : PySem.W.keepIn K (.ref f42) = true)
    (a43 : PySem.W.nsIn K mainGlobals "_law_tap" = some (some (.ref f43)))
    (l43 : K.lookup f43 = some ⟨oc43, od43, .func (PySem.W.fnOf "_law_tap" "_law_tap" (defArgs st_law_tap) (defBody st_law_tap) (defScope st_law_tap) .none kV43 dc43 pm43 an43 cd43 ct43), sl43⟩) (c43 : PySem.W.codeIn K cd43 "_law_tap" = true) (k43 : PySem.W.keepIn K (.ref f43) = true)
    (a44 : PySem.W.nsIn K mainGlobals "_law_pick" = some (some (.ref f44)))
    (l44 : K.lookup f44 = some ⟨oc44, od44, .func (PySem.W.fnOf "_law_pick" "_law_pick" (defArgs st_law_pick) (defBody st_law_pick) (defScope st_law_pick) .none kV44 dc44 pm44 an44 cd44 ct44), sl44⟩) (c44 : PySem.W.codeIn K cd44 "_law_pick" = true) (k44 : PySem.W.keepIn K (.ref f44) = true)
    (a45 : PySem.W.nsIn K mainGlobals "_law_spots" = some (some (.ref f45)))
    (l45 : K.lookup f45 = some ⟨oc45, od45, .func (PySem.W.fnOf "_law_spots" "_law_spots" (defArgs st_law_spots) (defBody st_law_spots) (defScope st_law_spots) .none kV45 dc45 pm45 an45 cd45 ct45), sl45⟩) (c45 : PySem.W.codeIn K cd45 "_law_spots" = true) (k45 : PySem.W.keepIn K (.ref f45) = true)
    (a46 : PySem.W.nsIn K mainGlobals "_law_joint" = some (some (.ref f46)))
    (l46 : K.lookup f46 = some ⟨oc46, od46, .func (PySem.W.fnOf "_law_joint" "_law_joint" (defArgs st_law_joint) (defBody st_law_joint) (defScope st_law_joint) .none kV46 dc46 pm46 an46 cd46 ct46), sl46⟩) (c46 : PySem.W.codeIn K cd46 "_law_joint" = true) (k46 : PySem.W.keepIn K (.ref f46) = true)
    (a47 : PySem.W.nsIn K mainGlobals "_law_net" = some (some (.ref f47)))
    (l47 : K.lookup f47 = some ⟨oc47, od47, .func (PySem.W.fnOf "_law_net" "_law_net" (defArgs st_law_net) (defBody st_law_net) (defScope st_law_net) .none kV47 dc47 pm47 an47 cd47 ct47), sl47⟩) (c47 : PySem.W.codeIn K cd47 "_law_net" = true) (k47 : PySem.W.keepIn K (.ref f47) = true)
    (a48 : PySem.W.nsIn K mainGlobals "_law_page" = some (some (.ref f48)))
    (l48 : K.lookup f48 = some ⟨oc48, od48, .func (PySem.W.fnOf "_law_page" "_law_page" (defArgs st_law_page) (defBody st_law_page) (defScope st_law_page) .none kV48 dc48 pm48 an48 cd48 ct48), sl48⟩) (c48 : PySem.W.codeIn K cd48 "_law_page" = true) (k48 : PySem.W.keepIn K (.ref f48) = true)
    (a49 : PySem.W.nsIn K mainGlobals "_law_orders" = some (some (.ref f49)))
    (l49 : K.lookup f49 = some ⟨oc49, od49, .func (PySem.W.fnOf "_law_orders" "_law_orders" (defArgs st_law_orders) (defBody st_law_orders) (defScope st_law_orders) .none kV49 dc49 pm49 an49 cd49 ct49), sl49⟩) (c49 : PySem.W.codeIn K cd49 "_law_orders" = true) (k49 : PySem.W.keepIn K (.ref f49) = true)
    (a50 : PySem.W.nsIn K mainGlobals "_law_by" = some (some (.ref f50)))
    (l50 : K.lookup f50 = some ⟨oc50, od50, .func (PySem.W.fnOf "_law_by" "_law_by" (defArgs st_law_by) (defBody st_law_by) (defScope st_law_by) .none kV50 dc50 pm50 an50 cd50 ct50), sl50⟩) (c50 : PySem.W.codeIn K cd50 "_law_by" = true) (k50 : PySem.W.keepIn K (.ref f50) = true)
    (a51 : PySem.W.nsIn K mainGlobals "_law_single_right" = some (some (.ref f51)))
    (l51 : K.lookup f51 = some ⟨oc51, od51, .func (PySem.W.fnOf "_law_single_right" "_law_single_right" (defArgs st_law_single_right) (defBody st_law_single_right) (defScope st_law_single_right) .none kV51 dc51 pm51 an51 cd51 ct51), sl51⟩) (c51 : PySem.W.codeIn K cd51 "_law_single_right" = true) (k51 : PySem.W.keepIn K (.ref f51) = true)
    (a52 : PySem.W.nsIn K mainGlobals "_law_stays" = some (some (.ref f52)))
    (l52 : K.lookup f52 = some ⟨oc52, od52, .func (PySem.W.fnOf "_law_stays" "_law_stays" (defArgs st_law_stays) (defBody st_law_stays) (defScope st_law_stays) .none kV52 dc52 pm52 an52 cd52 ct52), sl52⟩) (c52 : PySem.W.codeIn K cd52 "_law_stays" = true) (k52 : PySem.W.keepIn K (.ref f52) = true)
    (a53 : PySem.W.nsIn K mainGlobals "_law_right" = some (some (.ref f53)))
    (l53 : K.lookup f53 = some ⟨oc53, od53, .func (PySem.W.fnOf "_law_right" "_law_right" (defArgs st_law_right) (defBody st_law_right) (defScope st_law_right) .none kV53 dc53 pm53 an53 cd53 ct53), sl53⟩) (c53 : PySem.W.codeIn K cd53 "_law_right" = true) (k53 : PySem.W.keepIn K (.ref f53) = true)
    (a54 : PySem.W.nsIn K mainGlobals "law" = some (some (.ref f54)))
    (l54 : K.lookup f54 = some ⟨oc54, od54, .func (PySem.W.fnOf "law" "law" (defArgs st_law) (defBody st_law) (defScope st_law) .none kV54 dc54 pm54 an54 cd54 ct54), sl54⟩) (c54 : PySem.W.codeIn K cd54 "law" = true) (k54 : PySem.W.keepIn K (.ref f54) = true)
    (aW : PySem.W.nsIn K mainGlobals "Web" = some (some (.ref C)))
    (z_len : PySem.W.nsIn K mainGlobals "len" = some none)
    (z_all : PySem.W.nsIn K mainGlobals "all" = some none)
    (z_any : PySem.W.nsIn K mainGlobals "any" = some none)
    (z_abs : PySem.W.nsIn K mainGlobals "abs" = some none)
    (z_int : PySem.W.nsIn K mainGlobals "int" = some none)
    (z_bool : PySem.W.nsIn K mainGlobals "bool" = some none)
    (z_divmod : PySem.W.nsIn K mainGlobals "divmod" = some none)
    (z_min : PySem.W.nsIn K mainGlobals "min" = some none)
    (z_max : PySem.W.nsIn K mainGlobals "max" = some none)
    (z_tuple : PySem.W.nsIn K mainGlobals "tuple" = some none)
    (z_list : PySem.W.nsIn K mainGlobals "list" = some none)
    (z_sorted : PySem.W.nsIn K mainGlobals "sorted" = some none)
    (z_str : PySem.W.nsIn K mainGlobals "str" = some none)
    (z_isinstance : PySem.W.nsIn K mainGlobals "isinstance" = some none)
    (z_enumerate : PySem.W.nsIn K mainGlobals "enumerate" = some none)
    (z_range : PySem.W.nsIn K mainGlobals "range" = some none)
    (z_sum : PySem.W.nsIn K mainGlobals "sum" = some none)
    (z_zip : PySem.W.nsIn K mainGlobals "zip" = some none)
    (z_dict : PySem.W.nsIn K mainGlobals "dict" = some none)
    (z_set : PySem.W.nsIn K mainGlobals "set" = some none)
    {tk_MOST_PLACES : Tok} {tk_MOST_TIES : Tok} {tk_LETTERS : Tok}
    (v_MOST_PLACES : PySem.W.nsIn K mainGlobals "MOST_PLACES" = some (some (.int 7 tk_MOST_PLACES)))
    (v_MOST_TIES : PySem.W.nsIn K mainGlobals "MOST_TIES" = some (some (.int 11 tk_MOST_TIES)))
    (v_LETTERS : PySem.W.nsIn K mainGlobals "LETTERS" = some (some (.str "abcdefgh" tk_LETTERS)))
    (w1 : PySem.W.plainGet K C Str.empty = true)
    (w2 : PySem.W.hasDictIn K C = true)
    (w3 : PySem.W.plainOver K C = true)
    (w4 : PySem.W.findIn K (.ref C) "__setattr__" = some (some (.builtin "object.__setattr__")))
    (w5 : PySem.W.findIn K (.ref C) "__class__" = some (some (.builtin "object.__class__")))
    (w6 : PySem.W.specialIn K (.builtin "object.__class__") "__get__" = some (some (.builtin "getset_descriptor.__get__")))
    (w7 : PySem.W.takesIn K (.builtin "object.__class__") = true)
    (w8 : PySem.W.mroIn K C (.type "object") = some true)
    (w9 : PySem.W.findIn K (.ref C) "places" = some none)
    (w10 : PySem.W.findIn K (.ref C) "ties" = some none)
    (w11 : PySem.W.isFn K (.ref f5) = true)
    (w12 : PySem.W.makesIn K C = true)
    (w13 : PySem.W.isFn K (.ref f4) = true)
    (w14 : PySem.W.keepIn K (.ref C) = true)
    (w15 : PySem.W.isFn K (.ref f7) = true)
    (w16 : PySem.W.findIn K (.ref C) "__ne__" = some (some (.builtin "object.__ne__")))
    (w17 : PySem.W.isFn K (.ref f6) = true)
    : ∃ fd : FuncData, (∀ (s : Shared) (v : Value), BindsTo s fd ⟨[v], []⟩ [("_law_cells", v)]) ∧ ∀ base : Heap, K.In base → base.Ns mainGlobals mg → FnG P w K mg base 11 fa fd ["_law_cells"] (spLaw K) := by
  have e := hfa.symm.trans (PySem.W.mg_of X G a54)
  cases e
  have F0 := fun_mk (st := st_are_letters) l0 c0 k0
  have b0 := F0.binds (ps := ["value"]) fun _ _ _ _ _ _ us hl => match us, hl with | [_], _ => rfl
  have F1 := fun_mk (st := st_are_places) l1 c1 k1
  have b1 := F1.binds (ps := ["value"]) fun _ _ _ _ _ _ us hl => match us, hl with | [_], _ => rfl
  have F2 := fun_mk (st := st_is_tie) l2 c2 k2
  have b2 := F2.binds (ps := ["places", "value"]) fun _ _ _ _ _ _ us hl => match us, hl with | [_, _], _ => rfl
  have F3 := fun_mk (st := st_wrong_tie) l3 c3 k3
  have b3 := F3.binds (ps := ["places", "ties"]) fun _ _ _ _ _ _ us hl => match us, hl with | [_, _], _ => rfl
  have F4 := fun_mk (st := st_Webinit) l4 c4 k4
  have b4 := F4.binds (ps := ["self", "places", "ties"]) fun _ _ _ _ _ _ us hl => match us, hl with | [_, _, _], _ => rfl
  have F5 := fun_mk (st := st_Weblen) l5 c5 k5
  have b5 := F5.binds (ps := ["self"]) fun _ _ _ _ _ _ us hl => match us, hl with | [_], _ => rfl
  have F6 := fun_mk (st := st_Webtext) l6 c6 k6
  have b6 := F6.binds (ps := ["self"]) fun _ _ _ _ _ _ us hl => match us, hl with | [_], _ => rfl
  have F7 := fun_mk (st := st_Webeq) l7 c7 k7
  have b7 := F7.binds (ps := ["self", "other"]) fun _ _ _ _ _ _ us hl => match us, hl with | [_, _], _ => rfl
  have F8 := fun_mk (st := st_check_web) l8 c8 k8
  have b8 := F8.binds (ps := ["web"]) fun _ _ _ _ _ _ us hl => match us, hl with | [_], _ => rfl
  have F9 := fun_mk (st := st_tie_of) l9 c9 k9
  have b9 := F9.binds (ps := ["one", "other"]) fun _ _ _ _ _ _ us hl => match us, hl with | [_, _], _ => rfl
  have F10 := fun_mk (st := st_with_letters) l10 c10 k10
  have b10 := F10.binds (ps := ["web", "letters"]) fun _ _ _ _ _ _ us hl => match us, hl with | [_, _], _ => rfl
  have F11 := fun_mk (st := st_renamed) l11 c11 k11
  have b11 := F11.binds (ps := ["web", "letters"]) fun _ _ _ _ _ _ us hl => match us, hl with | [_, _], _ => rfl
  have F12 := fun_mk (st := st_herds_of) l12 c12 k12
  have b12 := F12.binds (ps := ["places", "ties"]) fun _ _ _ _ _ _ us hl => match us, hl with | [_, _], _ => rfl
  have F13 := fun_mk (st := st_all_orders) l13 c13 k13
  have b13 := F13.binds (ps := ["letters"]) fun _ _ _ _ _ _ us hl => match us, hl with | [_], _ => rfl
  have F14 := fun_mk (st := st_drawn) l14 c14 k14
  have b14 := F14.binds (ps := ["web"]) fun _ _ _ _ _ _ us hl => match us, hl with | [_], _ => rfl
  have F15 := fun_mk (st := st_renamings_to) l15 c15 k15
  have b15 := F15.binds (ps := ["web", "other"]) fun _ _ _ _ _ _ us hl => match us, hl with | [_, _], _ => rfl
  have F16 := fun_mk (st := st_plain_of) l16 c16 k16
  have b16 := F16.binds (ps := ["web"]) fun _ _ _ _ _ _ us hl => match us, hl with | [_], _ => rfl
  have F17 := fun_mk (st := st_plain_text) l17 c17 k17
  have b17 := F17.binds (ps := ["web"]) fun _ _ _ _ _ _ us hl => match us, hl with | [_], _ => rfl
  have F18 := fun_mk (st := st_count_renamings) l18 c18 k18
  have b18 := F18.binds (ps := ["web"]) fun _ _ _ _ _ _ us hl => match us, hl with | [_], _ => rfl
  have F19 := fun_mk (st := st_every_tie) l19 c19 k19
  have b19 := F19.binds (ps := ["web"]) fun _ _ _ _ _ _ us hl => match us, hl with | [_], _ => rfl
  have F20 := fun_mk (st := st_ties_of) l20 c20 k20
  have b20 := F20.binds (ps := ["web", "lot"]) fun _ _ _ _ _ _ us hl => match us, hl with | [_, _], _ => rfl
  have F21 := fun_mk (st := st_pieces_of) l21 c21 k21
  have b21 := F21.binds (ps := ["web", "lot"]) fun _ _ _ _ _ _ us hl => match us, hl with | [_, _], _ => rfl
  have F22 := fun_mk (st := st_rank_of) l22 c22 k22
  have b22 := F22.binds (ps := ["web", "lot"]) fun _ _ _ _ _ _ us hl => match us, hl with | [_, _], _ => rfl
  have F23 := fun_mk (st := st_spare_of) l23 c23 k23
  have b23 := F23.binds (ps := ["web", "lot"]) fun _ _ _ _ _ _ us hl => match us, hl with | [_, _], _ => rfl
  have F24 := fun_mk (st := st_without) l24 c24 k24
  have b24 := F24.binds (ps := ["lot", "index"]) fun _ _ _ _ _ _ us hl => match us, hl with | [_, _], _ => rfl
  have F25 := fun_mk (st := st_is_free_lot) l25 c25 k25
  have b25 := F25.binds (ps := ["web", "lot"]) fun _ _ _ _ _ _ us hl => match us, hl with | [_, _], _ => rfl
  have F26 := fun_mk (st := st_is_round) l26 c26 k26
  have b26 := F26.binds (ps := ["web", "lot"]) fun _ _ _ _ _ _ us hl => match us, hl with | [_, _], _ => rfl
  have F27 := fun_mk (st := st_ends_at) l27 c27 k27
  have b27 := F27.binds (ps := ["web", "lot", "place"]) fun _ _ _ _ _ _ us hl => match us, hl with | [_, _, _], _ => rfl
  have F28 := fun_mk (st := st_is_even_lot) l28 c28 k28
  have b28 := F28.binds (ps := ["web", "lot"]) fun _ _ _ _ _ _ us hl => match us, hl with | [_, _], _ => rfl
  have F29 := fun_mk (st := st_every_lot) l29 c29 k29
  have b29 := F29.binds (ps := ["web"]) fun _ _ _ _ _ _ us hl => match us, hl with | [_], _ => rfl
  have F30 := fun_mk (st := st_every_tree) l30 c30 k30
  have b30 := F30.binds (ps := ["web"]) fun _ _ _ _ _ _ us hl => match us, hl with | [_], _ => rfl
  have F31 := fun_mk (st := st_all_rings) l31 c31 k31
  have b31 := F31.binds (ps := ["web"]) fun _ _ _ _ _ _ us hl => match us, hl with | [_], _ => rfl
  have F32 := fun_mk (st := st_rings) l32 c32 k32
  have b32 := F32.binds (ps := ["web"]) fun _ _ _ _ _ _ us hl => match us, hl with | [_], _ => rfl
  have F33 := fun_mk (st := st_blocks) l33 c33 k33
  have b33 := F33.binds (ps := ["web"]) fun _ _ _ _ _ _ us hl => match us, hl with | [_], _ => rfl
  have F34 := fun_mk (st := st_empty_rows) l34 c34 k34
  have b34 := F34.binds (ps := ["web"]) fun _ _ _ _ _ _ us hl => match us, hl with | [_], _ => rfl
  have F35 := fun_mk (st := st_as_table) l35 c35 k35
  have b35 := F35.binds (ps := ["rows"]) fun _ _ _ _ _ _ us hl => match us, hl with | [_], _ => rfl
  have F36 := fun_mk (st := st_counted_lots) l36 c36 k36
  have b36 := F36.binds (ps := ["web"]) fun _ _ _ _ _ _ us hl => match us, hl with | [_], _ => rfl
  have F37 := fun_mk (st := st_ways_to_choose) l37 c37 k37
  have b37 := F37.binds (ps := ["many", "some"]) fun _ _ _ _ _ _ us hl => match us, hl with | [_, _], _ => rfl
  have F38 := fun_mk (st := st_shifted) l38 c38 k38
  have b38 := F38.binds (ps := ["row"]) fun _ _ _ _ _ _ us hl => match us, hl with | [_], _ => rfl
  have F39 := fun_mk (st := st_table_rows) l39 c39 k39
  have b39 := F39.binds (ps := ["web"]) fun _ _ _ _ _ _ us hl => match us, hl with | [_], _ => rfl
  have F40 := fun_mk (st := st_table) l40 c40 k40
  have b40 := F40.binds (ps := ["web"]) fun _ _ _ _ _ _ us hl => match us, hl with | [_], _ => rfl
  have F41 := fun_mk (st := st_all_trees) l41 c41 k41
  have b41 := F41.binds (ps := ["web"]) fun _ _ _ _ _ _ us hl => match us, hl with | [_], _ => rfl
  have F42 := fun_mk (st := st_law_cask) l42 c42 k42
  have b42 := F42.binds (ps := ["_law_cells", "_law_at"]) fun _ _ _ _ _ _ us hl => match us, hl with | [_, _], _ => rfl
  have F43 := fun_mk (st := st_law_tap) l43 c43 k43
  have b43 := F43.binds (ps := ["_law_cask_here", "_law_upto"]) fun _ _ _ _ _ _ us hl => match us, hl with | [_, _], _ => rfl
  have F44 := fun_mk (st := st_law_pick) l44 c44 k44
  have b44 := F44.binds (ps := ["_law_cask_here", "_law_things"]) fun _ _ _ _ _ _ us hl => match us, hl with | [_, _], _ => rfl
  have F45 := fun_mk (st := st_law_spots) l45 c45 k45
  have b45 := F45.binds (ps := ["_law_cask_here", "_law_many_here"]) fun _ _ _ _ _ _ us hl => match us, hl with | [_, _], _ => rfl
  have F46 := fun_mk (st := st_law_joint) l46 c46 k46
  have b46 := F46.binds (ps := ["_law_one", "_law_two"]) fun _ _ _ _ _ _ us hl => match us, hl with | [_, _], _ => rfl
  have F47 := fun_mk (st := st_law_net) l47 c47 k47
  have b47 := F47.binds (ps := ["_law_cask_here", "_law_most_spots", "_law_most_rows"]) fun _ _ _ _ _ _ us hl => match us, hl with | [_, _, _], _ => rfl
  have F48 := fun_mk (st := st_law_page) l48 c48 k48
  have b48 := F48.binds (ps := ["_law_net_here"]) fun _ _ _ _ _ _ us hl => match us, hl with | [_], _ => rfl
  have F49 := fun_mk (st := st_law_orders) l49 c49 k49
  have b49 := F49.binds (ps := ["_law_signs"]) fun _ _ _ _ _ _ us hl => match us, hl with | [_], _ => rfl
  have F50 := fun_mk (st := st_law_by) l50 c50 k50
  have b50 := F50.binds (ps := ["_law_net_here", "_law_signs"]) fun _ _ _ _ _ _ us hl => match us, hl with | [_, _], _ => rfl
  have F51 := fun_mk (st := st_law_single_right) l51 c51 k51
  have b51 := F51.binds (ps := ["_law_mine", "_law_net_here", "_law_signs"]) fun _ _ _ _ _ _ us hl => match us, hl with | [_, _, _], _ => rfl
  have F52 := fun_mk (st := st_law_stays) l52 c52 k52
  have b52 := F52.binds (ps := ["_law_mine", "_law_fresh"]) fun _ _ _ _ _ _ us hl => match us, hl with | [_, _], _ => rfl
  have F53 := fun_mk (st := st_law_right) l53 c53 k53
  have b53 := F53.binds (ps := ["_law_cask_here"]) fun _ _ _ _ _ _ us hl => match us, hl with | [_], _ => rfl
  have F54 := fun_mk (st := st_law) l54 c54 k54
  have b54 := F54.binds (ps := ["_law_cells"]) fun _ _ _ _ _ _ us hl => match us, hl with | [_], _ => rfl
  have M : Mo K mg { Cw := C, ck := K03.ckOk, T := [] } (fun i => [f0, f1, f2, f3, f4, f5, f6, f7, f8, f9, f10, f11, f12, f13, f14, f15, f16, f17, f18, f19, f20, f21, f22, f23, f24, f25, f26, f27, f28, f29, f30, f31, f32, f33, f34, f35, f36, f37, f38, f39, f40, f41, f42, f43, f44, f45, f46, f47, f48, f49, f50, f51, f52, f53, fa].getD i 0) (fun i => [PySem.W.fnOf "are_letters" "are_letters" (defArgs st_are_letters) (defBody st_are_letters) (defScope st_are_letters) .none kV0 dc0 pm0 an0 cd0 ct0, PySem.W.fnOf "are_places" "are_places" (defArgs st_are_places) (defBody st_are_places) (defScope st_are_places) .none kV1 dc1 pm1 an1 cd1 ct1, PySem.W.fnOf "is_tie" "is_tie" (defArgs st_is_tie) (defBody st_is_tie) (defScope st_is_tie) .none kV2 dc2 pm2 an2 cd2 ct2, PySem.W.fnOf "wrong_tie" "wrong_tie" (defArgs st_wrong_tie) (defBody st_wrong_tie) (defScope st_wrong_tie) .none kV3 dc3 pm3 an3 cd3 ct3, PySem.W.fnOf "__init__" "Web.__init__" (defArgs st_Webinit) (defBody st_Webinit) (defScope st_Webinit) .none kV4 dc4 pm4 an4 cd4 ct4, PySem.W.fnOf "__len__" "Web.__len__" (defArgs st_Weblen) (defBody st_Weblen) (defScope st_Weblen) .none kV5 dc5 pm5 an5 cd5 ct5, PySem.W.fnOf "text" "Web.text" (defArgs st_Webtext) (defBody st_Webtext) (defScope st_Webtext) .none kV6 dc6 pm6 an6 cd6 ct6, PySem.W.fnOf "__eq__" "Web.__eq__" (defArgs st_Webeq) (defBody st_Webeq) (defScope st_Webeq) .none kV7 dc7 pm7 an7 cd7 ct7, PySem.W.fnOf "check_web" "check_web" (defArgs st_check_web) (defBody st_check_web) (defScope st_check_web) .none kV8 dc8 pm8 an8 cd8 ct8, PySem.W.fnOf "tie_of" "tie_of" (defArgs st_tie_of) (defBody st_tie_of) (defScope st_tie_of) .none kV9 dc9 pm9 an9 cd9 ct9, PySem.W.fnOf "with_letters" "with_letters" (defArgs st_with_letters) (defBody st_with_letters) (defScope st_with_letters) .none kV10 dc10 pm10 an10 cd10 ct10, PySem.W.fnOf "renamed" "renamed" (defArgs st_renamed) (defBody st_renamed) (defScope st_renamed) .none kV11 dc11 pm11 an11 cd11 ct11, PySem.W.fnOf "herds_of" "herds_of" (defArgs st_herds_of) (defBody st_herds_of) (defScope st_herds_of) .none kV12 dc12 pm12 an12 cd12 ct12, PySem.W.fnOf "all_orders" "all_orders" (defArgs st_all_orders) (defBody st_all_orders) (defScope st_all_orders) .none kV13 dc13 pm13 an13 cd13 ct13, PySem.W.fnOf "drawn" "drawn" (defArgs st_drawn) (defBody st_drawn) (defScope st_drawn) .none kV14 dc14 pm14 an14 cd14 ct14, PySem.W.fnOf "renamings_to" "renamings_to" (defArgs st_renamings_to) (defBody st_renamings_to) (defScope st_renamings_to) .none kV15 dc15 pm15 an15 cd15 ct15, PySem.W.fnOf "plain_of" "plain_of" (defArgs st_plain_of) (defBody st_plain_of) (defScope st_plain_of) .none kV16 dc16 pm16 an16 cd16 ct16, PySem.W.fnOf "plain_text" "plain_text" (defArgs st_plain_text) (defBody st_plain_text) (defScope st_plain_text) .none kV17 dc17 pm17 an17 cd17 ct17, PySem.W.fnOf "count_renamings" "count_renamings" (defArgs st_count_renamings) (defBody st_count_renamings) (defScope st_count_renamings) .none kV18 dc18 pm18 an18 cd18 ct18, PySem.W.fnOf "every_tie" "every_tie" (defArgs st_every_tie) (defBody st_every_tie) (defScope st_every_tie) .none kV19 dc19 pm19 an19 cd19 ct19, PySem.W.fnOf "ties_of" "ties_of" (defArgs st_ties_of) (defBody st_ties_of) (defScope st_ties_of) .none kV20 dc20 pm20 an20 cd20 ct20, PySem.W.fnOf "pieces_of" "pieces_of" (defArgs st_pieces_of) (defBody st_pieces_of) (defScope st_pieces_of) .none kV21 dc21 pm21 an21 cd21 ct21, PySem.W.fnOf "rank_of" "rank_of" (defArgs st_rank_of) (defBody st_rank_of) (defScope st_rank_of) .none kV22 dc22 pm22 an22 cd22 ct22, PySem.W.fnOf "spare_of" "spare_of" (defArgs st_spare_of) (defBody st_spare_of) (defScope st_spare_of) .none kV23 dc23 pm23 an23 cd23 ct23, PySem.W.fnOf "without" "without" (defArgs st_without) (defBody st_without) (defScope st_without) .none kV24 dc24 pm24 an24 cd24 ct24, PySem.W.fnOf "is_free_lot" "is_free_lot" (defArgs st_is_free_lot) (defBody st_is_free_lot) (defScope st_is_free_lot) .none kV25 dc25 pm25 an25 cd25 ct25, PySem.W.fnOf "is_round" "is_round" (defArgs st_is_round) (defBody st_is_round) (defScope st_is_round) .none kV26 dc26 pm26 an26 cd26 ct26, PySem.W.fnOf "ends_at" "ends_at" (defArgs st_ends_at) (defBody st_ends_at) (defScope st_ends_at) .none kV27 dc27 pm27 an27 cd27 ct27, PySem.W.fnOf "is_even_lot" "is_even_lot" (defArgs st_is_even_lot) (defBody st_is_even_lot) (defScope st_is_even_lot) .none kV28 dc28 pm28 an28 cd28 ct28, PySem.W.fnOf "every_lot" "every_lot" (defArgs st_every_lot) (defBody st_every_lot) (defScope st_every_lot) .none kV29 dc29 pm29 an29 cd29 ct29, PySem.W.fnOf "every_tree" "every_tree" (defArgs st_every_tree) (defBody st_every_tree) (defScope st_every_tree) .none kV30 dc30 pm30 an30 cd30 ct30, PySem.W.fnOf "all_rings" "all_rings" (defArgs st_all_rings) (defBody st_all_rings) (defScope st_all_rings) .none kV31 dc31 pm31 an31 cd31 ct31, PySem.W.fnOf "rings" "rings" (defArgs st_rings) (defBody st_rings) (defScope st_rings) .none kV32 dc32 pm32 an32 cd32 ct32, PySem.W.fnOf "blocks" "blocks" (defArgs st_blocks) (defBody st_blocks) (defScope st_blocks) .none kV33 dc33 pm33 an33 cd33 ct33, PySem.W.fnOf "empty_rows" "empty_rows" (defArgs st_empty_rows) (defBody st_empty_rows) (defScope st_empty_rows) .none kV34 dc34 pm34 an34 cd34 ct34, PySem.W.fnOf "as_table" "as_table" (defArgs st_as_table) (defBody st_as_table) (defScope st_as_table) .none kV35 dc35 pm35 an35 cd35 ct35, PySem.W.fnOf "counted_lots" "counted_lots" (defArgs st_counted_lots) (defBody st_counted_lots) (defScope st_counted_lots) .none kV36 dc36 pm36 an36 cd36 ct36, PySem.W.fnOf "ways_to_choose" "ways_to_choose" (defArgs st_ways_to_choose) (defBody st_ways_to_choose) (defScope st_ways_to_choose) .none kV37 dc37 pm37 an37 cd37 ct37, PySem.W.fnOf "shifted" "shifted" (defArgs st_shifted) (defBody st_shifted) (defScope st_shifted) .none kV38 dc38 pm38 an38 cd38 ct38, PySem.W.fnOf "table_rows" "table_rows" (defArgs st_table_rows) (defBody st_table_rows) (defScope st_table_rows) .none kV39 dc39 pm39 an39 cd39 ct39, PySem.W.fnOf "table" "table" (defArgs st_table) (defBody st_table) (defScope st_table) .none kV40 dc40 pm40 an40 cd40 ct40, PySem.W.fnOf "all_trees" "all_trees" (defArgs st_all_trees) (defBody st_all_trees) (defScope st_all_trees) .none kV41 dc41 pm41 an41 cd41 ct41, PySem.W.fnOf "_law_cask" "_law_cask" (defArgs st_law_cask) (defBody st_law_cask) (defScope st_law_cask) .none kV42 dc42 pm42 an42 cd42 ct42, PySem.W.fnOf "_law_tap" "_law_tap" (defArgs st_law_tap) (defBody st_law_tap) (defScope st_law_tap) .none kV43 dc43 pm43 an43 cd43 ct43, PySem.W.fnOf "_law_pick" "_law_pick" (defArgs st_law_pick) (defBody st_law_pick) (defScope st_law_pick) .none kV44 dc44 pm44 an44 cd44 ct44, PySem.W.fnOf "_law_spots" "_law_spots" (defArgs st_law_spots) (defBody st_law_spots) (defScope st_law_spots) .none kV45 dc45 pm45 an45 cd45 ct45, PySem.W.fnOf "_law_joint" "_law_joint" (defArgs st_law_joint) (defBody st_law_joint) (defScope st_law_joint) .none kV46 dc46 pm46 an46 cd46 ct46, PySem.W.fnOf "_law_net" "_law_net" (defArgs st_law_net) (defBody st_law_net) (defScope st_law_net) .none kV47 dc47 pm47 an47 cd47 ct47, PySem.W.fnOf "_law_page" "_law_page" (defArgs st_law_page) (defBody st_law_page) (defScope st_law_page) .none kV48 dc48 pm48 an48 cd48 ct48, PySem.W.fnOf "_law_orders" "_law_orders" (defArgs st_law_orders) (defBody st_law_orders) (defScope st_law_orders) .none kV49 dc49 pm49 an49 cd49 ct49, PySem.W.fnOf "_law_by" "_law_by" (defArgs st_law_by) (defBody st_law_by) (defScope st_law_by) .none kV50 dc50 pm50 an50 cd50 ct50, PySem.W.fnOf "_law_single_right" "_law_single_right" (defArgs st_law_single_right) (defBody st_law_single_right) (defScope st_law_single_right) .none kV51 dc51 pm51 an51 cd51 ct51, PySem.W.fnOf "_law_stays" "_law_stays" (defArgs st_law_stays) (defBody st_law_stays) (defScope st_law_stays) .none kV52 dc52 pm52 an52 cd52 ct52, PySem.W.fnOf "_law_right" "_law_right" (defArgs st_law_right) (defBody st_law_right) (defScope st_law_right) .none kV53 dc53 pm53 an53 cd53 ct53, PySem.W.fnOf "law" "law" (defArgs st_law) (defBody st_law) (defScope st_law) .none kV54 dc54 pm54 an54 cd54 ct54].getD i (PySem.W.fnOf "law" "law" (defArgs st_law) (defBody st_law) (defScope st_law) .none kV54 dc54 pm54 an54 cd54 ct54)) := {
    f_are_letters := F0
    b_are_letters := b0
    m_are_letters := PySem.W.mg_of X G a0
    f_are_places := F1
    b_are_places := b1
    m_are_places := PySem.W.mg_of X G a1
    f_is_tie := F2
    b_is_tie := b2
    m_is_tie := PySem.W.mg_of X G a2
    f_wrong_tie := F3
    b_wrong_tie := b3
    m_wrong_tie := PySem.W.mg_of X G a3
    f_Webinit := F4
    b_Webinit := b4
    f_Weblen := F5
    b_Weblen := b5
    f_Webtext := F6
    b_Webtext := b6
    f_Webeq := F7
    b_Webeq := b7
    f_check_web := F8
    b_check_web := b8
    m_check_web := PySem.W.mg_of X G a8
    f_tie_of := F9
    b_tie_of := b9
    m_tie_of := PySem.W.mg_of X G a9
    f_with_letters := F10
    b_with_letters := b10
    m_with_letters := PySem.W.mg_of X G a10
    f_renamed := F11
    b_renamed := b11
    m_renamed := PySem.W.mg_of X G a11
    f_herds_of := F12
    b_herds_of := b12
    m_herds_of := PySem.W.mg_of X G a12
    f_all_orders := F13
    b_all_orders := b13
    m_all_orders := PySem.W.mg_of X G a13
    f_drawn := F14
    b_drawn := b14
    m_drawn := PySem.W.mg_of X G a14
    f_renamings_to := F15
    b_renamings_to := b15
    m_renamings_to := PySem.W.mg_of X G a15
    f_plain_of := F16
    b_plain_of := b16
    m_plain_of := PySem.W.mg_of X G a16
    f_plain_text := F17
    b_plain_text := b17
    m_plain_text := PySem.W.mg_of X G a17
    f_count_renamings := F18
    b_count_renamings := b18
    m_count_renamings := PySem.W.mg_of X G a18
    f_every_tie := F19
    b_every_tie := b19
    m_every_tie := PySem.W.mg_of X G a19
    f_ties_of := F20
    b_ties_of := b20
    m_ties_of := PySem.W.mg_of X G a20
    f_pieces_of := F21
    b_pieces_of := b21
    m_pieces_of := PySem.W.mg_of X G a21
    f_rank_of := F22
    b_rank_of := b22
    m_rank_of := PySem.W.mg_of X G a22
    f_spare_of := F23
    b_spare_of := b23
    m_spare_of := PySem.W.mg_of X G a23
    f_without := F24
    b_without := b24
    m_without := PySem.W.mg_of X G a24
    f_is_free_lot := F25
    b_is_free_lot := b25
    m_is_free_lot := PySem.W.mg_of X G a25
    f_is_round := F26
    b_is_round := b26
    m_is_round := PySem.W.mg_of X G a26
    f_ends_at := F27
    b_ends_at := b27
    m_ends_at := PySem.W.mg_of X G a27
    f_is_even_lot := F28
    b_is_even_lot := b28
    m_is_even_lot := PySem.W.mg_of X G a28
    f_every_lot := F29
    b_every_lot := b29
    m_every_lot := PySem.W.mg_of X G a29
    f_every_tree := F30
    b_every_tree := b30
    m_every_tree := PySem.W.mg_of X G a30
    f_all_rings := F31
    b_all_rings := b31
    m_all_rings := PySem.W.mg_of X G a31
    f_rings := F32
    b_rings := b32
    m_rings := PySem.W.mg_of X G a32
    f_blocks := F33
    b_blocks := b33
    m_blocks := PySem.W.mg_of X G a33
    f_empty_rows := F34
    b_empty_rows := b34
    m_empty_rows := PySem.W.mg_of X G a34
    f_as_table := F35
    b_as_table := b35
    m_as_table := PySem.W.mg_of X G a35
    f_counted_lots := F36
    b_counted_lots := b36
    m_counted_lots := PySem.W.mg_of X G a36
    f_ways_to_choose := F37
    b_ways_to_choose := b37
    m_ways_to_choose := PySem.W.mg_of X G a37
    f_shifted := F38
    b_shifted := b38
    m_shifted := PySem.W.mg_of X G a38
    f_table_rows := F39
    b_table_rows := b39
    m_table_rows := PySem.W.mg_of X G a39
    f_table := F40
    b_table := b40
    m_table := PySem.W.mg_of X G a40
    f_all_trees := F41
    b_all_trees := b41
    m_all_trees := PySem.W.mg_of X G a41
    f_law_cask := F42
    b_law_cask := b42
    m_law_cask := PySem.W.mg_of X G a42
    f_law_tap := F43
    b_law_tap := b43
    m_law_tap := PySem.W.mg_of X G a43
    f_law_pick := F44
    b_law_pick := b44
    m_law_pick := PySem.W.mg_of X G a44
    f_law_spots := F45
    b_law_spots := b45
    m_law_spots := PySem.W.mg_of X G a45
    f_law_joint := F46
    b_law_joint := b46
    m_law_joint := PySem.W.mg_of X G a46
    f_law_net := F47
    b_law_net := b47
    m_law_net := PySem.W.mg_of X G a47
    f_law_page := F48
    b_law_page := b48
    m_law_page := PySem.W.mg_of X G a48
    f_law_orders := F49
    b_law_orders := b49
    m_law_orders := PySem.W.mg_of X G a49
    f_law_by := F50
    b_law_by := b50
    m_law_by := PySem.W.mg_of X G a50
    f_law_single_right := F51
    b_law_single_right := b51
    m_law_single_right := PySem.W.mg_of X G a51
    f_law_stays := F52
    b_law_stays := b52
    m_law_stays := PySem.W.mg_of X G a52
    f_law_right := F53
    b_law_right := b53
    m_law_right := PySem.W.mg_of X G a53
    f_law := F54
    b_law := b54
    m_law := PySem.W.mg_of X G a54
    kw_count_renamings_0 := fun s ws _ hl => match ws, hl with | [_], _ => .of_eq rfl
    kw_plain_text_0 := fun s ws _ hl => match ws, hl with | [_], _ => .of_eq rfl
    kw_renamed_10 := fun s ws _ hl => match ws, hl with | [_, _], _ => .of_eq rfl
    m_Web := PySem.W.mg_of X G aW
    z_len := PySem.W.mg_none_of X G z_len
    z_all := PySem.W.mg_none_of X G z_all
    z_any := PySem.W.mg_none_of X G z_any
    z_abs := PySem.W.mg_none_of X G z_abs
    z_int := PySem.W.mg_none_of X G z_int
    z_bool := PySem.W.mg_none_of X G z_bool
    z_divmod := PySem.W.mg_none_of X G z_divmod
    z_min := PySem.W.mg_none_of X G z_min
    z_max := PySem.W.mg_none_of X G z_max
    z_tuple := PySem.W.mg_none_of X G z_tuple
    z_list := PySem.W.mg_none_of X G z_list
    z_sorted := PySem.W.mg_none_of X G z_sorted
    z_str := PySem.W.mg_none_of X G z_str
    z_isinstance := PySem.W.mg_none_of X G z_isinstance
    z_enumerate := PySem.W.mg_none_of X G z_enumerate
    z_range := PySem.W.mg_none_of X G z_range
    z_sum := PySem.W.mg_none_of X G z_sum
    z_zip := PySem.W.mg_none_of X G z_zip
    z_dict := PySem.W.mg_none_of X G z_dict
    z_set := PySem.W.mg_none_of X G z_set
    g_MOST_PLACES := ⟨_, PySem.W.mg_of X G v_MOST_PLACES⟩
    g_MOST_TIES := ⟨_, PySem.W.mg_of X G v_MOST_TIES⟩
    g_LETTERS := ⟨_, PySem.W.mg_of X G v_LETTERS⟩
    wty := ⟨⟨w1, w2, w3, w4⟩, w5, w6, w7, w8⟩
    weq := a7
    weqf := w15
    wne := w16
    me_text := ⟨a6, w17, k6⟩
    ck := rfl
    tb := rfl
    np := w9
    nt := w10
    fl := a5
    il := w11
    mkw := ⟨w12, a4, w13, w14⟩ }
  refine ⟨_, fun s v => .of_eq rfl, fun base _ _ => (ok_law M).imp ?_⟩
  rintro vs H Q E ⟨a, ns, rfl, hS, hl, q⟩
  refine ⟨none, H, [.scr ns], 0, fun d _ => d = .bl true, fun _ _ h => h, .cons ⟨a, rfl, hS⟩ .nil, ⟨(fun _ z => nomatch z), ⟨(fun _ z => by cases z), (fun _ z => by cases z)⟩⟩, ⟨ns, hl, rfl, fun _ => rfl⟩, fun v H' F' m' x _ _ rp e => ?_⟩
  subst e
  cases rp
  exact q H'
end K06
open PySem PySem.W PyProof.Rows
set_option maxHeartbeats 0 in
theorem PySem.Challenge.cw_webreckon_k06_whole_webs_renamed_holds : PySem.Challenge.rw_webreckon_k06_whole_webs_renamed.Holds := by
  w_on; o_law; k_head; (case hw => w_witness2)
  k_fill
  refine G.walk_ofG (l := PySem.Challenge.rw_webreckon_k06_whole_webs_renamed) (n := 63) (k := 11) (x := "_law_cells") (sp := fun w => K06.spLaw _) rfl (by decide) rfl ⟨rfl, by decide, by decide⟩ (fun w h Y => PySem.W.kIn_of Y) ?F (fun _ _ a ns hl _ hS => ⟨a, ns, rfl, hS, hl, fun _ => rfl⟩)
  case F =>
    intro w mg fa h KX G hmg
    refine' K06.all_mk KX G hmg ?a0 ?l0 ?c0 ?k0 ?a1 ?l1 ?c1 ?k1 ?a2 ?l2 ?c2 ?k2 ?a3 ?l3 ?c3 ?k3 ?a4 ?l4 ?c4 ?k4 ?a5 ?l5 ?c5 ?k5 ?a6 ?l6 ?c6 ?k6 ?a7 ?l7 ?c7 ?k7 ?a8 ?l8 ?c8 ?k8 ?a9 ?l9 ?c9 ?k9 ?a10 ?l10 ?c10 ?k10 ?a11 ?l11 ?c11 ?k11 ?a12 ?l12 ?c12 ?k12 ?a13 ?l13 ?c13 ?k13 ?a14 ?l14 ?c14 ?k14 ?a15 ?l15 ?c15 ?k15 ?a16 ?l16 ?c16 ?k16 ?a17 ?l17 ?c17 ?k17 ?a18 ?l18 ?c18 ?k18 ?a19 ?l19 ?c19 ?k19 ?a20 ?l20 ?c20 ?k20 ?a21 ?l21 ?c21 ?k21 ?a22 ?l22 ?c22 ?k22 ?a23 ?l23 ?c23 ?k23 ?a24 ?l24 ?c24 ?k24 ?a25 ?l25 ?c25 ?k25 ?a26 ?l26 ?c26 ?k26 ?a27 ?l27 ?c27 ?k27 ?a28 ?l28 ?c28 ?k28 ?a29 ?l29 ?c29 ?k29 ?a30 ?l30 ?c30 ?k30 ?a31 ?l31 ?c31 ?k31 ?a32 ?l32 ?c32 ?k32 ?a33 ?l33 ?c33 ?k33 ?a34 ?l34 ?c34 ?k34 ?a35 ?l35 ?c35 ?k35 ?a36 ?l36 ?c36 ?k36 ?a37 ?l37 ?c37 ?k37 ?a38 ?l38 ?c38 ?k38 ?a39 ?l39 ?c39 ?k39 ?a40 ?l40 ?c40 ?k40 ?a41 ?l41 ?c41 ?k41 ?a42 ?l42 ?c42 ?k42 ?a43 ?l43 ?c43 ?k43 ?a44 ?l44 ?c44 ?k44 ?a45 ?l45 ?c45 ?k45 ?a46 ?l46 ?c46 ?k46 ?a47 ?l47 ?c47 ?k47 ?a48 ?l48 ?c48 ?k48 ?a49 ?l49 ?c49 ?k49 ?a50 ?l50 ?c50 ?k50 ?a51 ?l51 ?c51 ?k51 ?a52 ?l52 ?c52 ?k52 ?a53 ?l53 ?c53 ?k53 ?a54 ?l54 ?c54 ?k54 ?aW ?z_len ?z_all ?z_any ?z_abs ?z_int ?z_bool ?z_divmod ?z_min ?z_max ?z_tuple ?z_list ?z_sorted ?z_str ?z_isinstance ?z_enumerate ?z_range ?z_sum ?z_zip ?z_dict ?z_set ?v_MOST_PLACES ?v_MOST_TIES ?v_LETTERS ?w1 ?w2 ?w3 ?w4 ?w5 ?w6 ?w7 ?w8 ?w9 ?w10 ?w11 ?w12 ?w13 ?w14 ?w15 ?w16 ?w17
    (case aW => k_is); (case a0 => k_is); (case l0 => k_is); (case c0 => k_is); (case k0 => k_is); (case a1 => k_is); (case l1 => k_is); (case c1 => k_is); (case k1 => k_is); (case a2 => k_is); (case l2 => k_is); (case c2 => k_is); (case k2 => k_is); (case a3 => k_is); (case l3 => k_is); (case c3 => k_is); (case k3 => k_is); (case a4 => k_is); (case l4 => k_is); (case c4 => k_is); (case k4 => k_is); (case a5 => k_is); (case l5 => k_is); (case c5 => k_is); (case k5 => k_is); (case a6 => k_is); (case l6 => k_is); (case c6 => k_is); (case k6 => k_is); (case a7 => k_is); (case l7 => k_is); (case c7 => k_is); (case k7 => k_is); (case a8 => k_is); (case l8 => k_is); (case c8 => k_is); (case k8 => k_is); (case a9 => k_is); (case l9 => k_is); (case c9 => k_is); (case k9 => k_is); (case a10 => k_is); (case l10 => k_is); (case c10 => k_is); (case k10 => k_is); (case a11 => k_is); (case l11 => k_is); (case c11 => k_is); (case k11 => k_is); (case a12 => k_is); (case l12 => k_is); (case c12 => k_is); (case k12 => k_is); (case a13 => k_is); (case l13 => k_is); (case c13 => k_is); (case k13 => k_is); (case a14 => k_is); (case l14 => k_is); (case c14 => k_is); (case k14 => k_is); (case a15 => k_is); (case l15 => k_is); (case c15 => k_is); (case k15 => k_is); (case a16 => k_is); (case l16 => k_is); (case c16 => k_is); (case k16 => k_is); (case a17 => k_is); (case l17 => k_is); (case c17 => k_is); (case k17 => k_is); (case a18 => k_is); (case l18 => k_is); (case c18 => k_is); (case k18 => k_is); (case a19 => k_is); (case l19 => k_is); (case c19 => k_is); (case k19 => k_is); (case a20 => k_is); (case l20 => k_is); (case c20 => k_is); (case k20 => k_is); (case a21 => k_is); (case l21 => k_is); (case c21 => k_is); (case k21 => k_is); (case a22 => k_is); (case l22 => k_is); (case c22 => k_is); (case k22 => k_is); (case a23 => k_is); (case l23 => k_is); (case c23 => k_is); (case k23 => k_is); (case a24 => k_is); (case l24 => k_is); (case c24 => k_is); (case k24 => k_is); (case a25 => k_is); (case l25 => k_is); (case c25 => k_is); (case k25 => k_is); (case a26 => k_is); (case l26 => k_is); (case c26 => k_is); (case k26 => k_is); (case a27 => k_is); (case l27 => k_is); (case c27 => k_is); (case k27 => k_is); (case a28 => k_is); (case l28 => k_is); (case c28 => k_is); (case k28 => k_is); (case a29 => k_is); (case l29 => k_is); (case c29 => k_is); (case k29 => k_is); (case a30 => k_is); (case l30 => k_is); (case c30 => k_is); (case k30 => k_is); (case a31 => k_is); (case l31 => k_is); (case c31 => k_is); (case k31 => k_is); (case a32 => k_is); (case l32 => k_is); (case c32 => k_is); (case k32 => k_is); (case a33 => k_is); (case l33 => k_is); (case c33 => k_is); (case k33 => k_is); (case a34 => k_is); (case l34 => k_is); (case c34 => k_is); (case k34 => k_is); (case a35 => k_is); (case l35 => k_is); (case c35 => k_is); (case k35 => k_is); (case a36 => k_is); (case l36 => k_is); (case c36 => k_is); (case k36 => k_is); (case a37 => k_is); (case l37 => k_is); (case c37 => k_is); (case k37 => k_is); (case a38 => k_is); (case l38 => k_is); (case c38 => k_is); (case k38 => k_is); (case a39 => k_is); (case l39 => k_is); (case c39 => k_is); (case k39 => k_is); (case a40 => k_is); (case l40 => k_is); (case c40 => k_is); (case k40 => k_is); (case a41 => k_is); (case l41 => k_is); (case c41 => k_is); (case k41 => k_is); (case a42 => k_is); (case l42 => k_is); (case c42 => k_is); (case k42 => k_is); (case a43 => k_is); (case l43 => k_is); (case c43 => k_is); (case k43 => k_is); (case a44 => k_is); (case l44 => k_is); (case c44 => k_is); (case k44 => k_is); (case a45 => k_is); (case l45 => k_is); (case c45 => k_is); (case k45 => k_is); (case a46 => k_is); (case l46 => k_is); (case c46 => k_is); (case k46 => k_is); (case a47 => k_is); (case l47 => k_is); (case c47 => k_is); (case k47 => k_is); (case a48 => k_is); (case l48 => k_is); (case c48 => k_is); (case k48 => k_is); (case a49 => k_is); (case l49 => k_is); (case c49 => k_is); (case k49 => k_is); (case a50 => k_is); (case l50 => k_is); (case c50 => k_is); (case k50 => k_is); (case a51 => k_is); (case l51 => k_is); (case c51 => k_is); (case k51 => k_is); (case a52 => k_is); (case l52 => k_is); (case c52 => k_is); (case k52 => k_is); (case a53 => k_is); (case l53 => k_is); (case c53 => k_is); (case k53 => k_is); (case a54 => k_is); (case l54 => k_is); (case c54 => k_is); (case k54 => k_is); (case z_len => k_is); (case z_all => k_is); (case z_any => k_is); (case z_abs => k_is); (case z_int => k_is); (case z_bool => k_is); (case z_divmod => k_is); (case z_min => k_is); (case z_max => k_is); (case z_tuple => k_is); (case z_list => k_is); (case z_sorted => k_is); (case z_str => k_is); (case z_isinstance => k_is); (case z_enumerate => k_is); (case z_range => k_is); (case z_sum => k_is); (case z_zip => k_is); (case z_dict => k_is); (case z_set => k_is); (case v_MOST_PLACES => k_is); (case v_MOST_TIES => k_is); (case v_LETTERS => k_is); (case w1 => k_is); (case w2 => k_is); (case w3 => k_is); (case w4 => k_is); (case w5 => k_is); (case w6 => k_is); (case w7 => k_is); (case w8 => k_is); (case w9 => k_is); (case w10 => k_is); (case w11 => k_is); (case w12 => k_is); (case w13 => k_is); (case w14 => k_is); (case w15 => k_is); (case w16 => k_is); (case w17 => k_is)
