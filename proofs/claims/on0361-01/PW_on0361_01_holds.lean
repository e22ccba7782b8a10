import PyProof.Rows.All
import Wide.All
import OpenK.AllK
import Wide.FinOn
import PySem.Challenge.RW_on0361_01
set_option compiler.extract_closed false
set_option Elab.async false
set_option linter.unusedVariables false
set_option maxRecDepth 100000
set_option maxHeartbeats 4000000

section
open PySem PySem.W PySem.Calls PyProof.Rows
namespace Mine
abbrev Know := Addr → Obj → Prop
def Le (P P' : Know) : Prop := ∀ a o, P a o → P' a o
theorem Le.refl (P : Know) : Le P P := fun _ _ h => h
theorem Le.trans {P P' P'' : Know} (h : Le P P') (h' : Le P' P'') : Le P P'' := fun a o x => h' a o (h a o x)

/-- an object laid plainly -/
def Pl (o : Obj) (T : String) : Prop := o.cls = .type T ∧ o.dict = none ∧ o.slots = #[]

inductive D where
  | none | bool (b : Bool) | int (i : Int) | str (x : Str) | bytes (b : Array UInt8) | tuple (ds : List D) | list (ds : List D) | addr (a : Addr) | typ (T : String)

mutual
inductive In (P : Know) : Value → D → Prop
  | none : In P Value.none D.none
  | bool (b : Bool) : In P (Value.bool b) (D.bool b)
  | int (i : Int) (t : Tok) : In P (Value.int i t) (D.int i)
  | str (x : Str) (t : Tok) : In P (Value.str x t) (D.str x)
  | bytes (b : Array UInt8) (t : Tok) : In P (Value.bytes b t) (D.bytes b)
  | tuple {a : Addr} {vs : List Value} {n : Nat} {ds : List D} {o : Obj} : P a o → Pl o "tuple" → o.data = .seq vs.toArray n → All P vs ds → In P (Value.ref a) (D.tuple ds)
  | list {a : Addr} {vs : List Value} {n : Nat} {ds : List D} {o : Obj} : P a o → Pl o "list" → o.data = .seq vs.toArray n → All P vs ds → In P (Value.ref a) (D.list ds)
  | addr (a : Addr) : In P (Value.ref a) (D.addr a)
  | typ (T : String) : In P (Value.type T) (D.typ T)
inductive All (P : Know) : List Value → List D → Prop
  | nil : All P [] []
  | cons {v : Value} {vs : List Value} {d : D} {ds : List D} : In P v d → All P vs ds → All P (v :: vs) (d :: ds)
end
/-- what a value of that kind is, without a split of the goal -/
theorem In.eNone {P : Know} {C : Value → Prop} (v : Value) (h : In P v .none) (k : C .none) : C v := by cases h; exact k
theorem In.eBool {P : Know} {b : Bool} {C : Value → Prop} (v : Value) (h : In P v (.bool b)) (k : C (.bool b)) : C v := by cases h; exact k
theorem In.eInt {P : Know} {i : Int} {C : Value → Prop} (v : Value) (h : In P v (.int i)) (k : ∀ t, C (.int i t)) : C v := by cases h; exact k _
theorem In.eStr {P : Know} {x : Str} {C : Value → Prop} (v : Value) (h : In P v (.str x)) (k : ∀ t, C (.str x t)) : C v := by cases h; exact k _
theorem In.eBytes {P : Know} {b : Array UInt8} {C : Value → Prop} (v : Value) (h : In P v (.bytes b)) (k : ∀ t, C (.bytes b t)) : C v := by cases h; exact k _
theorem In.eTyp {P : Know} {T : String} {C : Value → Prop} (v : Value) (h : In P v (.typ T)) (k : C (.type T)) : C v := by cases h; exact k
theorem In.eAddr {P : Know} {a : Addr} {C : Value → Prop} (v : Value) (h : In P v (.addr a)) (k : C (.ref a)) : C v := by cases h; exact k
theorem In.eTuple {P : Know} {ds : List D} {C : Value → Prop} (v : Value) (h : In P v (.tuple ds)) (k : ∀ (a : Addr) (vs : List Value) (n : Nat) (o : Obj), P a o → Pl o "tuple" → o.data = .seq vs.toArray n → All P vs ds → C (.ref a)) : C v := by
  cases h with
  | tuple hp hc hd hr => exact k _ _ _ _ hp hc hd hr
theorem In.eList {P : Know} {ds : List D} {C : Value → Prop} (v : Value) (h : In P v (.list ds)) (k : ∀ (a : Addr) (vs : List Value) (n : Nat) (o : Obj), P a o → Pl o "list" → o.data = .seq vs.toArray n → All P vs ds → C (.ref a)) : C v := by
  cases h with
  | list hp hc hd hr => exact k _ _ _ _ hp hc hd hr
theorem All.e0 {P : Know} {C : List Value → Prop} (vs : List Value) (h : All P vs []) (k : C []) : C vs := by cases h; exact k
theorem All.e1 {P : Know} {d : D} {C : List Value → Prop} (vs : List Value) (h : All P vs [d]) (k : ∀ v, In P v d → C [v]) : C vs := by
  cases h with
  | cons h1 h2 => cases h2; exact k _ h1
theorem All.e2 {P : Know} {d e : D} {C : List Value → Prop} (vs : List Value) (h : All P vs [d, e]) (k : ∀ v u, In P v d → In P u e → C [v, u]) : C vs := by
  cases h with
  | cons h1 h2 =>
    cases h2 with
    | cons h2 h3 => cases h3; exact k _ _ h1 h2
mutual
theorem In.mono {P P' : Know} (hs : Le P P') : ∀ {v : Value} {d : D}, In P v d → In P' v d
  | _, _, .none => .none
  | _, _, .bool b => .bool b
  | _, _, .int i t => .int i t
  | _, _, .str x t => .str x t
  | _, _, .bytes b t => .bytes b t
  | _, _, .tuple h c e r => .tuple (hs _ _ h) c e (All.mono hs r)
  | _, _, .list h c e r => .list (hs _ _ h) c e (All.mono hs r)
  | _, _, .addr a => .addr a
  | _, _, .typ a => .typ a
theorem All.mono {P P' : Know} (hs : Le P P') : ∀ {vs : List Value} {ds : List D}, All P vs ds → All P' vs ds
  | _, _, .nil => .nil
  | _, _, .cons h r => .cons (In.mono hs h) (All.mono hs r)
end
section
variable {P : Know} {v : Value} {d : D} {vs ws : List Value} {ds es : List D}
theorem All.length (h : All P vs ds) : vs.length = ds.length := by
  induction vs generalizing ds with
  | nil => cases h; rfl
  | cons v vs ih =>
    cases h with
    | cons _ r => rw [List.length_cons, List.length_cons, ih r]
theorem All.append (h : All P vs ds) (k : All P ws es) : All P (vs ++ ws) (ds ++ es) := by
  induction vs generalizing ds with
  | nil => cases h; exact k
  | cons v vs ih =>
    cases h with
    | cons h r => exact .cons h (ih r)
theorem All.one (h : In P v d) : All P [v] [d] := .cons h .nil
theorem All.get (h : All P vs ds) {k : Nat} {d : D} (hk : ds[k]? = some d) : ∃ v, vs[k]? = some v ∧ In P v d := by
  induction vs generalizing ds k with
  | nil => cases h; cases hk
  | cons v vs ih =>
    cases h with
    | cons h r =>
      cases k with
      | zero => cases hk; exact ⟨v, rfl, h⟩
      | succ k => exact ih r hk
theorem All.get' (h : All P vs ds) {k : Nat} {v : Value} (hk : vs[k]? = some v) : ∃ d, ds[k]? = some d ∧ In P v d := by
  induction vs generalizing ds k with
  | nil => cases hk
  | cons v vs ih =>
    cases h with
    | cons h r =>
      cases k with
      | zero => cases hk; exact ⟨_, rfl, h⟩
      | succ k => exact ih r hk
theorem All.drop (h : All P vs ds) (n : Nat) : All P (vs.drop n) (ds.drop n) := by
  induction n generalizing vs ds with
  | zero => exact h
  | succ n ih =>
    cases h with
    | nil => exact .nil
    | cons _ r => exact ih r
theorem All.take (h : All P vs ds) (n : Nat) : All P (vs.take n) (ds.take n) := by
  induction n generalizing vs ds with
  | zero => exact .nil
  | succ n ih =>
    cases h with
    | nil => exact .nil
    | cons h r => exact .cons h (ih r)
theorem All.reverse (h : All P vs ds) : All P vs.reverse ds.reverse := by
  induction vs generalizing ds with
  | nil => cases h; exact .nil
  | cons v vs ih =>
    cases h with
    | cons h r => rw [List.reverse_cons, List.reverse_cons]; exact (ih r).append (.one h)
end

inductive MO where
  | list (ds : List D)
  | dict (es : List (Str × D))
  | cell (d : Option D)
  | obj (o : Obj)

structure GC where
  prog : Program
  w : World
  base : Heap
  K : Frag
  p : Program
  loose : List Str
  mean : ExcName → Option Value
  mg : Str → Option Value
  mb : Str → Option Value

inductive Prs (P : Know) : List (Str × Value) → List (Str × D) → Prop
  | nil : Prs P [] []
  | cons {x : Str} {v : Value} {d : D} {a : List (Str × Value)} {b : List (Str × D)} : In P v d → Prs P a b → Prs P ((x, v) :: a) ((x, d) :: b)

def CellRep (P : Know) : Option Value → Option D → Prop
  | none, none => True
  | some v, some d => In P v d
  | _, _ => False

def MRep (g : GC) (P : Know) : MO → Obj → Prop
  | .list ds, o => ∃ vs n, Pl o "list" ∧ o.data = .seq (List.toArray vs) n ∧ All P vs ds
  | .dict es, o => ∃ kvs, o.IsDictOf (strKind g.prog g.w) kvs ∧ Prs P kvs es
  | .cell d, o => ∃ v, o.data = .cell v ∧ CellRep P v d
  | .obj o', o => o = o'

theorem Prs.mono {P P' : Know} (hs : Le P P') {l : List (Str × Value)} {es : List (Str × D)} (h : Prs P l es) : Prs P' l es := by
  induction h with
  | nil => exact .nil
  | cons h _ ih => exact .cons (h.mono hs) ih
theorem MRep.mono {g : GC} {P P' : Know} (hs : Le P P') {mo : MO} {o : Obj} (h : MRep g P mo o) : MRep g P' mo o := by
  cases mo with
  | list ds => obtain ⟨vs, n, e, e', r⟩ := h; exact ⟨vs, n, e, e', r.mono hs⟩
  | dict es => obtain ⟨l, e, r⟩ := h; exact ⟨l, e, r.mono hs⟩
  | cell d =>
    obtain ⟨v, e, r⟩ := h
    refine ⟨v, e, ?_⟩
    cases v <;> cases d <;> first | exact r | exact In.mono hs r
  | obj o' => exact h

structure Cx where
  g : GC
  A : Around
  fs : List Env
  env : Env
  L : Addr
  Kp : Know
  s₀ : Shared

abbrev Cx.fa (cx : Cx) : List Addr := cx.fs.filterMap (·.frame)
abbrev Cx.M (cx : Cx) : Model := model cx.g.prog cx.g.w
abbrev Rho := List (Str × D)
abbrev Mu := List (Addr × MO)

def Same (s₀ s : Shared) : Prop := ∃ h tk, s = { s₀ with heap := h, toks := tk }
theorem Same.refl (s : Shared) : Same s s := ⟨s.heap, s.toks, rfl⟩
theorem Same.trans {a b c : Shared} (h : Same a b) (k : Same b c) : Same a c := by
  obtain ⟨h1, t1, rfl⟩ := h; obtain ⟨h2, t2, rfl⟩ := k; exact ⟨h2, t2, rfl⟩
theorem Same.of {a b : Shared} (h : Same a b) (hp : Heap) (tk : Nat) : Same a { b with heap := hp, toks := tk } := h.trans ⟨hp, tk, rfl⟩

structure CxOk (n : Nat) (cx : Cx) : Prop where
  K : cx.g.K.In cx.g.base
  T : Top cx.g.p cx.g.loose cx.g.mean cx.g.mg cx.g.mb cx.g.base
  hA : cx.A.frames = some cx.fs
  hL : cx.env.locals = cx.L
  kind : cx.env.scope.kind = .function
  glob : cx.env.globals = mainGlobals
  bi : cx.env.builtins = builtinsNs
  hf : ∃ fe outer Lf, cx.fs = fe :: outer ∧ fe.frame = some Lf ∧ cx.env.frame = some Lf
  hh : cx.A.handled = none
  depth : cx.A.depth + 20 * n ≤ 900
  units : cx.A.units + 100 * n ≤ 9000
theorem CxOk.mono {n k : Nat} {cx : Cx} (h : CxOk n cx) (hk : k ≤ n) : CxOk k cx :=
  ⟨h.K, h.T, h.hA, h.hL, h.kind, h.glob, h.bi, h.hf, h.hh, by have := h.depth; omega, by have := h.units; omega⟩

structure Sat (cx : Cx) (ρ : Rho) (μ : Mu) (P : Know) (s : Shared) : Prop where
  same : Same cx.s₀ s
  ns : ∃ m, s.heap.Ns cx.L m ∧ ∀ x d, ρ.lookup x = some d → ∃ v, m x = some v ∧ In P v d
  fz : ∀ a o, P a o → s.heap.get? a = some o
  mu : ∀ e ∈ μ, ∃ o, s.heap.get? e.1 = some o ∧ MRep cx.g P e.2 o
  nd : (μ.map Prod.fst).Nodup
  dj : ∀ e ∈ μ, ∀ o, ¬ P e.1 o
  stays : cx.g.base.StaysIn s.heap
  mb : ∀ e ∈ μ, cx.g.base.get? e.1 = none
  fr : s.heap.FunFrames cx.g.base cx.fs
  kp : ∀ b o, cx.Kp b o → (b ∉ cx.fa → s.heap.get? b = some o) ∧ ∃ sl, s.heap.get? b = some { o with slots := sl }
  sp : ∀ b, (b = cx.L ∨ b ∈ cx.fa ∨ ∃ o, cx.Kp b o) → b ∉ μ.map Prod.fst ∧ ∀ o, ¬ P b o
  lb : cx.g.base.get? cx.L = none
  lk : ∀ o, ¬ cx.Kp cx.L o

theorem funFrames_of {base h h' : Heap} : ∀ {l : List Env}, h.FunFrames base l → (∀ b o, b ∈ l.filterMap (·.frame) → h.get? b = some o → (∀ vs, o.data ≠ .fields vs) → ∃ o', h'.get? b = some o' ∧ ∀ vs, o'.data ≠ .fields vs) → h'.FunFrames base l
  | [], _, _ => trivial
  | env :: rest, ⟨hk, ⟨L, o, hf, hn, ho, hd⟩, hr⟩, k => by
    have hm : L ∈ (env :: rest).filterMap (·.frame) := by rw [List.filterMap_cons, hf]; exact .head _
    obtain ⟨o', ho', hd'⟩ := k L o hm ho hd
    refine ⟨hk, ⟨L, o', hf, hn, ho', hd'⟩, funFrames_of hr fun b o hb => k b o ?_⟩
    rw [List.filterMap_cons, hf]; exact .tail _ hb

section
variable {cx : Cx} {ρ : Rho} {μ : Mu} {P P' : Know} {s s' : Shared}

/-- the heap has grown; what is new may be known from now on -/
theorem Sat.grow (S : Sat cx ρ μ P s) (hs : Same s s') (hk : ∀ b o, s.heap.get? b = some o → s'.heap.get? b = some o) (hP : Le P P')
    (hN : ∀ a o, P' a o → P a o ∨ (s'.heap.get? a = some o ∧ s.heap.get? a = none)) : Sat cx ρ μ P' s' := by
  obtain ⟨m, hm, hv⟩ := S.ns
  refine ⟨S.same.trans hs, ⟨m, hm.keeps hk, fun x d hx => ?_⟩, fun a o h => ?_, fun e he => ?_, S.nd, fun e he o hP' => ?_, fun b o e => hk b o (S.stays b o e), S.mb, ?_, fun b o hb => ?_, fun b hb => ⟨(S.sp b hb).1, fun o hP' => ?_⟩, S.lb, S.lk⟩
  · obtain ⟨v, h1, h2⟩ := hv x d hx; exact ⟨v, h1, h2.mono hP⟩
  · rcases hN a o h with h | h
    · exact hk _ _ (S.fz a o h)
    · exact h.1
  · obtain ⟨o, h1, h2⟩ := S.mu e he; exact ⟨o, hk _ _ h1, h2.mono hP⟩
  · rcases hN _ _ hP' with h | h
    · exact S.dj e he o h
    · obtain ⟨o', h1, _⟩ := S.mu e he; rw [h.2] at h1; cases h1
  · exact S.fr.of_keeps fun b o e _ => ⟨o, hk b o e, rfl⟩
  · obtain ⟨h1, sl, h2⟩ := S.kp b o hb; exact ⟨fun h => hk _ _ (h1 h), sl, hk _ _ h2⟩
  · rcases hN _ _ hP' with h | h
    · exact (S.sp b hb).2 o h
    · have : ∃ o', s.heap.get? b = some o' := by
        rcases hb with rfl | hb | ⟨o', hb⟩
        · obtain ⟨o', _, _, h1, _⟩ := hm; exact ⟨o', h1⟩
        · obtain ⟨_, o', h1, _⟩ := S.fr.mem hb; exact ⟨o', h1⟩
        · obtain ⟨_, sl, h2⟩ := S.kp b o' hb; exact ⟨_, h2⟩
      obtain ⟨o', h1⟩ := this; rw [h.2] at h1; cases h1
theorem Sat.keeps (S : Sat cx ρ μ P s) (hs : Same s s') (hk : ∀ b o, s.heap.get? b = some o → s'.heap.get? b = some o) : Sat cx ρ μ P s' :=
  S.grow hs hk (Le.refl P) fun _ _ h => .inl h
theorem Sat.toks (S : Sat cx ρ μ P s) (tk : Nat) : Sat cx ρ μ P { s with toks := tk } := S.keeps ⟨s.heap, tk, rfl⟩ fun _ _ e => e

/-- P and one more -/
def Know.add (P : Know) (a : Addr) (o : Obj) : Know := fun b x => P b x ∨ (b = a ∧ x = o)
theorem Know.le_add (P : Know) (a : Addr) (o : Obj) : Le P (P.add a o) := fun _ _ h => .inl h
theorem Know.add_self (P : Know) (a : Addr) (o : Obj) : P.add a o a o := .inr ⟨rfl, rfl⟩
theorem Sat.add (S : Sat cx ρ μ P s) {a : Addr} {o : Obj} (hs : Same s s') (hk : ∀ b o, s.heap.get? b = some o → s'.heap.get? b = some o) (hn : s.heap.get? a = none) (ha : s'.heap.get? a = some o) : Sat cx ρ μ (P.add a o) s' :=
  S.grow hs hk (P.le_add a o) fun b x h => h.imp id fun ⟨e1, e2⟩ => by subst e1; subst e2; exact ⟨ha, hn⟩
theorem none_at_size (h : Heap) : h.get? h.objs.size = none := Heap.get?_none_of_le (Nat.le_refl _)
theorem Sat.push (S : Sat cx ρ μ P s) (o : Obj) (hf : o.isFreed = false := by rfl) : Sat cx ρ μ (P.add s.heap.objs.size o) { s with heap := s.heap.push o } :=
  S.add ⟨_, s.toks, rfl⟩ (fun _ _ e => Heap.get?_push_of_some _ e) (none_at_size _) (Heap.get?_push_size _ hf)

/-- a local is stored -/
theorem Sat.setL (S : Sat cx ρ μ P s) {x : Str} {v : Value} {d : D} {h' : Heap} {tk : Nat} (hsb : Heap.SameBut cx.L s.heap h')
    (hn : ∀ m, s.heap.Ns cx.L m → h'.Ns cx.L (fun y => if y = x then some v else m y)) (hv : In P v d) : Sat cx ((x, d) :: ρ) μ P { s with heap := h', toks := tk } := by
  obtain ⟨m, hm, hr⟩ := S.ns
  have sep := S.sp cx.L (.inl rfl)
  refine ⟨S.same.trans ⟨_, _, rfl⟩, ⟨_, hn m hm, fun y d' hy => ?_⟩, fun a o h => ?_, fun e he => ?_, S.nd, S.dj, fun b o e => ?_, S.mb, ?_, fun b o hb => ?_, S.sp, S.lb, S.lk⟩
  · by_cases hyx : y = x
    · subst hyx
      rw [List.lookup_cons, beq_self_eq_true] at hy
      cases hy
      exact ⟨v, if_pos rfl, hv⟩
    · rw [List.lookup_cons, beq_eq_false_iff_ne.mpr hyx] at hy
      obtain ⟨v', h1, h2⟩ := hr y d' hy
      exact ⟨v', (if_neg hyx).trans h1, h2⟩
  · refine (hsb.2 a fun e => ?_).trans (S.fz a o h)
    subst e; exact sep.2 o h
  · obtain ⟨o, h1, h2⟩ := S.mu e he
    refine ⟨o, (hsb.2 e.1 fun q => ?_).trans h1, h2⟩
    exact sep.1 (q ▸ List.mem_map_of_mem he)
  · refine (hsb.2 b fun q => ?_).trans (S.stays b o e)
    subst q; rw [S.lb] at e; cases e
  · refine funFrames_of S.fr fun b o _ ho hd => ?_
    by_cases q : b = cx.L
    · subst q
      obtain ⟨o', _, _, h1, h2, _⟩ := hn m hm
      exact ⟨o', h1, fun vs q => by rw [h2] at q; cases q⟩
    · exact ⟨o, (hsb.2 b q).trans ho, hd⟩
  · have : b ≠ cx.L := fun q => S.lk o (q ▸ hb)
    obtain ⟨h1, sl, h2⟩ := S.kp b o hb
    exact ⟨fun h => (hsb.2 b this).trans (h1 h), sl, (hsb.2 b this).trans h2⟩
theorem Sat.setLs (S : Sat cx ρ μ P s) {x : Str} {v : Value} {d : D} (hv : In P v d) :
    ∃ m, s.heap.Ns cx.L m ∧ ∀ h' tk, h'.Ns cx.L (fun y => if y = x then some v else m y) → Heap.SameBut cx.L s.heap h' → Sat cx ((x, d) :: ρ) μ P { s with heap := h', toks := tk } := by
  obtain ⟨m, hm, hr⟩ := S.ns
  refine ⟨m, hm, fun h' tk hn hsb => S.setL hsb (fun m' hm' => ?_) hv⟩
  have : m' = m := by
    obtain ⟨o, es, ep, h1, h2, _, h3⟩ := hm
    obtain ⟨o', es', ep', h1', h2', _, h3'⟩ := hm'
    rw [h1] at h1'; cases h1'
    rw [h2] at h2'; cases h2'
    exact funext fun y => (h3' y).symm.trans (h3 y)
  exact this ▸ hn

/-- one entry of the mutable part is changed -/
inductive Upd (a : Addr) (o o' : MO) : Mu → Mu → Prop
  | head {μ : Mu} : Upd a o o' ((a, o) :: μ) ((a, o') :: μ)
  | tail {e : Addr × MO} {μ μ' : Mu} : Upd a o o' μ μ' → Upd a o o' (e :: μ) (e :: μ')
theorem Upd.addrs {a : Addr} {o o' : MO} {μ μ' : Mu} (u : Upd a o o' μ μ') : μ'.map Prod.fst = μ.map Prod.fst := by
  induction u with
  | head => rfl
  | tail _ ih => rw [List.map_cons, List.map_cons, ih]
theorem Upd.mem {a : Addr} {o o' : MO} {μ μ' : Mu} (u : Upd a o o' μ μ') : (a, o) ∈ μ := by
  induction u with
  | head => exact .head _
  | tail _ ih => exact .tail _ ih
theorem Upd.split {a : Addr} {o o' : MO} {μ μ' : Mu} (u : Upd a o o' μ μ') (nd : (μ.map Prod.fst).Nodup) : ∀ e ∈ μ', e = (a, o') ∨ (e ∈ μ ∧ e.1 ≠ a) := by
  induction u with
  | head =>
    intro e he
    rcases List.mem_cons.mp he with rfl | he
    · exact .inl rfl
    · refine .inr ⟨.tail _ he, fun q => ?_⟩
      rw [List.map_cons, List.nodup_cons] at nd
      have q2 := List.mem_map_of_mem (f := Prod.fst) he
      rw [q] at q2
      exact nd.1 q2
  | tail u ih =>
    intro e he
    rw [List.map_cons, List.nodup_cons] at nd
    rcases List.mem_cons.mp he with rfl | he
    · refine .inr ⟨.head _, fun q => ?_⟩
      exact nd.1 (by rw [q]; exact List.mem_map_of_mem (f := Prod.fst) u.mem)
    · rcases ih nd.2 e he with h | h
      · exact .inl h
      · exact .inr ⟨.tail _ h.1, h.2⟩
theorem Sat.setM (S : Sat cx ρ μ P s) {μ' : Mu} {a : Addr} {o o' : MO} {h' : Heap} {tk : Nat} {ob : Obj} (u : Upd a o o' μ μ') (hsb : Heap.SameBut a s.heap h')
    (hg : h'.get? a = some ob) (hr : MRep cx.g P o' ob) : Sat cx ρ μ' P { s with heap := h', toks := tk } := by
  have hm := u.mem
  have ha : a ∈ μ.map Prod.fst := List.mem_map_of_mem (f := Prod.fst) hm
  have hL : cx.L ≠ a := fun q => (S.sp cx.L (.inl rfl)).1 (q ▸ ha)
  have hfa : ∀ b ∈ cx.fa, b ≠ a := fun b hb q => (S.sp b (.inr (.inl hb))).1 (q ▸ ha)
  have hK : ∀ b o, cx.Kp b o → b ≠ a := fun b o hb q => (S.sp b (.inr (.inr ⟨o, hb⟩))).1 (q ▸ ha)
  have hP : ∀ b o, P b o → b ≠ a := fun b o hb q => S.dj _ hm o (q ▸ hb)
  obtain ⟨m, hns, hr'⟩ := S.ns
  refine ⟨S.same.trans ⟨_, _, rfl⟩, ⟨m, hns.sameBut hsb hL, hr'⟩, fun b x h => (hsb.2 b (hP b x h)).trans (S.fz b x h), fun e he => ?_, u.addrs ▸ S.nd, fun e he x hx => ?_, fun b x e => ?_, fun e he => ?_, ?_, fun b x hb => ?_, fun b hb => ?_, S.lb, S.lk⟩
  · rcases u.split S.nd e he with rfl | ⟨h1, h2⟩
    · exact ⟨ob, hg, hr⟩
    · obtain ⟨x, h3, h4⟩ := S.mu e h1
      exact ⟨x, (hsb.2 _ h2).trans h3, h4⟩
  · rcases u.split S.nd e he with rfl | ⟨h1, h2⟩
    · exact S.dj (a, o) hm x hx
    · exact S.dj _ h1 x hx
  · refine (hsb.2 b fun q => ?_).trans (S.stays b x e)
    subst q; rw [S.mb _ hm] at e; cases e
  · rcases u.split S.nd e he with rfl | ⟨h1, h2⟩
    · exact S.mb (a, o) hm
    · exact S.mb _ h1
  · exact funFrames_of S.fr fun b x hb ho hd => ⟨x, (hsb.2 b (hfa b hb)).trans ho, hd⟩
  · obtain ⟨h1, sl, h2⟩ := S.kp b x hb
    exact ⟨fun h => (hsb.2 b (hK b x hb)).trans (h1 h), sl, (hsb.2 b (hK b x hb)).trans h2⟩
  · obtain ⟨h1, h2⟩ := S.sp b hb
    exact ⟨by rw [u.addrs]; exact h1, h2⟩
/-- a new object joins the mutable part -/
theorem Sat.addM (S : Sat cx ρ μ P s) {a : Addr} {mo : MO} {ob : Obj} (hs : Same s s') (hk : ∀ b o, s.heap.get? b = some o → s'.heap.get? b = some o) (hn : s.heap.get? a = none) (ha : s'.heap.get? a = some ob)
    (hr : MRep cx.g P mo ob) : Sat cx ρ ((a, mo) :: μ) P s' := by
  have S' := S.keeps hs hk
  refine ⟨S'.same, S'.ns, S'.fz, fun e he => ?_, ?_, fun e he x hx => ?_, S'.stays, fun e he => ?_, S'.fr, S'.kp, fun b hb => ⟨fun q => ?_, (S'.sp b hb).2⟩, S'.lb, S'.lk⟩
  · rcases List.mem_cons.mp he with rfl | he
    · exact ⟨ob, ha, hr⟩
    · exact S'.mu e he
  · rw [List.map_cons, List.nodup_cons]
    refine ⟨fun q => ?_, S.nd⟩
    obtain ⟨e, he, q⟩ := List.mem_map.mp q
    obtain ⟨o, h1, _⟩ := S.mu e he
    have q' : e.1 = a := q
    rw [q', hn] at h1; cases h1
  · rcases List.mem_cons.mp he with rfl | he
    · have := S.fz _ _ hx; rw [hn] at this; cases this
    · exact S.dj e he x hx
  · rcases List.mem_cons.mp he with rfl | he
    · cases q : cx.g.base.get? a with
      | none => rfl
      | some o => have := S.stays _ _ q; rw [hn] at this; cases this
    · exact S.mb e he
  · rw [List.map_cons] at q
    rcases List.mem_cons.mp q with q | q
    · have q : b = a := q
      subst q
      have : ∃ o', s.heap.get? b = some o' := by
        rcases hb with rfl | hb | ⟨o', hb⟩
        · obtain ⟨m, hm, _⟩ := S.ns; obtain ⟨o', _, _, h1, _⟩ := hm; exact ⟨o', h1⟩
        · obtain ⟨_, o', h1, _⟩ := S.fr.mem hb; exact ⟨o', h1⟩
        · obtain ⟨_, sl, h2⟩ := S.kp b o' hb; exact ⟨_, h2⟩
      obtain ⟨o', h1⟩ := this; rw [hn] at h1; cases h1
    · exact (S'.sp b hb).1 q
/-- an entry leaves the mutable part and is known from now on -/
inductive Rem (a : Addr) (o : MO) : Mu → Mu → Prop
  | head {μ : Mu} : Rem a o ((a, o) :: μ) μ
  | tail {e : Addr × MO} {μ μ' : Mu} : Rem a o μ μ' → Rem a o (e :: μ) (e :: μ')
theorem Rem.mem {a : Addr} {o : MO} {μ μ' : Mu} (u : Rem a o μ μ') : (a, o) ∈ μ := by
  induction u with
  | head => exact .head _
  | tail _ ih => exact .tail _ ih
theorem Rem.sub {a : Addr} {o : MO} {μ μ' : Mu} (u : Rem a o μ μ') : ∀ e ∈ μ', e ∈ μ := by
  induction u with
  | head => exact fun e he => .tail _ he
  | tail _ ih =>
    intro e he
    rcases List.mem_cons.mp he with rfl | he
    · exact .head _
    · exact .tail _ (ih e he)
theorem Rem.nd {a : Addr} {o : MO} {μ μ' : Mu} (u : Rem a o μ μ') (h : (μ.map Prod.fst).Nodup) : (μ'.map Prod.fst).Nodup ∧ ∀ e ∈ μ', e.1 ≠ a := by
  induction u with
  | head =>
    rw [List.map_cons, List.nodup_cons] at h
    refine ⟨h.2, fun e he q => ?_⟩
    have q2 := List.mem_map_of_mem (f := Prod.fst) he
    rw [q] at q2
    exact h.1 q2
  | tail u ih =>
    rw [List.map_cons, List.nodup_cons] at h
    obtain ⟨h1, h2⟩ := ih h.2
    refine ⟨?_, fun e he q => ?_⟩
    · rw [List.map_cons, List.nodup_cons]
      refine ⟨fun q => h.1 ?_, h1⟩
      obtain ⟨e, he, q⟩ := List.mem_map.mp q
      exact q ▸ List.mem_map_of_mem (u.sub e he)
    · rcases List.mem_cons.mp he with rfl | he
      · exact h.1 (by rw [q]; exact List.mem_map_of_mem (f := Prod.fst) u.mem)
      · exact h2 e he q
theorem Sat.drop (S : Sat cx ρ μ P s) {μ' : Mu} {a : Addr} {o : MO} (u : Rem a o μ μ') : Sat cx ρ μ' P s :=
  ⟨S.same, S.ns, S.fz, fun e he => S.mu e (u.sub e he), (u.nd S.nd).1, fun e he => S.dj e (u.sub e he), S.stays, fun e he => S.mb e (u.sub e he), S.fr, S.kp,
    fun b hb => ⟨fun q => (S.sp b hb).1 (by obtain ⟨e, he, q⟩ := List.mem_map.mp q; exact q ▸ List.mem_map_of_mem (u.sub e he)), (S.sp b hb).2⟩, S.lb, S.lk⟩
theorem Sat.freeze (S : Sat cx ρ μ P s) {μ' : Mu} {a : Addr} {ds : List D} (u : Rem a (.list ds) μ μ') : ∃ P', Le P P' ∧ Sat cx ρ μ' P' s ∧ In P' (.ref a) (.list ds) ∧ ∀ b o, P' b o → P b o ∨ b = a := by
  have hm := u.mem
  have ha : a ∈ μ.map Prod.fst := List.mem_map_of_mem (f := Prod.fst) hm
  obtain ⟨o, ho, vs, n, hc, hd, hr⟩ := S.mu _ hm
  have S' := S.drop u
  refine ⟨P.add a o, P.le_add _ _, ?_, .list (n := n) (P.add_self a _) hc hd (hr.mono (P.le_add _ _)), fun b x h => h.imp id fun h => h.1⟩
  obtain ⟨m, hns, hv⟩ := S'.ns
  refine ⟨S'.same, ⟨m, hns, fun x d hx => let ⟨v, h1, h2⟩ := hv x d hx; ⟨v, h1, h2.mono (P.le_add _ _)⟩⟩, fun b x h => ?_, fun e he => let ⟨x, h1, h2⟩ := S'.mu e he; ⟨x, h1, h2.mono (P.le_add _ _)⟩, S'.nd, fun e he x hx => ?_, S'.stays, S'.mb, S'.fr, S'.kp, fun b hb => ⟨(S'.sp b hb).1, fun x hx => ?_⟩, S'.lb, S'.lk⟩
  · rcases h with h | ⟨rfl, rfl⟩
    · exact S.fz _ _ h
    · exact ho
  · rcases hx with hx | ⟨q, _⟩
    · exact S'.dj e he x hx
    · exact (u.nd S.nd).2 e he q
  · rcases hx with hx | ⟨q, _⟩
    · exact (S'.sp b hb).2 x hx
    · exact (S.sp b hb).1 (q ▸ ha)
/-- what is known of the locals may be forgotten -/
def Sub (ρ' ρ : Rho) : Prop := ∀ x d, ρ'.lookup x = some d → ρ.lookup x = some d
theorem Sub.nil {ρ : Rho} : Sub [] ρ := fun _ _ h => by cases h
theorem Sub.cons {x : Str} {d : D} {ρ' ρ : Rho} (h : ρ.lookup x = some d) (k : Sub ρ' ρ) : Sub ((x, d) :: ρ') ρ := fun y e hy => by
  rw [List.lookup_cons] at hy
  by_cases q : y = x
  · subst q; rw [beq_self_eq_true] at hy; cases hy; exact h
  · rw [beq_eq_false_iff_ne.mpr q] at hy; exact k y e hy
theorem Sub.refl (ρ : Rho) : Sub ρ ρ := fun _ _ h => h
theorem Sat.sub (S : Sat cx ρ μ P s) {ρ' : Rho} (h : Sub ρ' ρ) : Sat cx ρ' μ P s :=
  let ⟨m, h1, h2⟩ := S.ns
  ⟨S.same, ⟨m, h1, fun x d hx => h2 x d (h x d hx)⟩, S.fz, S.mu, S.nd, S.dj, S.stays, S.mb, S.fr, S.kp, S.sp, S.lb, S.lk⟩
end
end Mine
end

section
open PySem PySem.W PySem.Calls PyProof.Rows
namespace Mine
/-- an exception of the program's own: its class, what it tells -/
structure Ex where
  cls : Addr
  told : D
  fresh : Bool

def Apart (cx : Cx) (μ : Mu) (P : Know) (a : Addr) : Prop :=
  a ∉ μ.map Prod.fst ∧ (∀ o, ¬ P a o) ∧ a ∉ cx.fa ∧ a ≠ cx.L ∧ (∀ o, ¬ cx.Kp a o) ∧ cx.g.base.get? a = none

inductive Tr | raw | out | noted

inductive ExAt (cx : Cx) (μ : Mu) (P : Know) (s : Shared) (v : Value) (x : Ex) (st : Tr) : Prop
  | intro (e dd : Addr) (oe : Obj) (vs : Array Value) (t : Addr) : v = .ref e → s.heap.get? e = some oe → oe.cls = .ref x.cls → oe.dict = some dd → oe.data = .fields vs → (vs[0]? = some (.ref t) ∧ (x.fresh = true → vs[2]? = some .none)) → e ≠ dd →
    (∃ mA, s.heap.Ns1 dd mA ∧ ∃ tv, mA "told" = some tv ∧ In P tv x.told) → Apart cx μ P e → Apart cx μ P dd →
    (match st with
      | .raw => vs[1]? = some .none
      | .out => ∃ T oT ts, vs[1]? = some (.ref T) ∧ T ≠ e ∧ T ≠ dd ∧ Apart cx μ P T ∧ s.heap.get? T = some oT ∧ oT.data = .fields ts ∧ ts[3]? = some .none
      | .noted => ∃ T oT ts Lf, vs[1]? = some (.ref T) ∧ T ≠ e ∧ T ≠ dd ∧ Apart cx μ P T ∧ s.heap.get? T = some oT ∧ oT.data = .fields ts ∧ cx.env.frame = some Lf ∧ ts[3]? = some (rawInt Lf)) → ExAt cx μ P s v x st
/-- the value is that exception, at that station of its way -/
structure ExIn (cx : Cx) (μ : Mu) (P : Know) (s : Shared) (v : Value) (x : Ex) (st : Tr) : Prop where
  ex : ExAt cx μ P s v x st

section
variable {α β γ δ : Type}

inductive VPost (cx : Cx) (P : Know) (rep : Know → α → β → Prop) (Q : β → Rho → Mu → Prop) (a : α) (s' : Shared) : Prop
  | intro (b : β) (ρ' : Rho) (μ' : Mu) (P' : Know) : Le P P' → Sat cx ρ' μ' P' s' → rep P' a b → Q b ρ' μ' → VPost cx P rep Q a s'
inductive EPost (cx : Cx) (P : Know) (X : Ex → Rho → Mu → Prop) (e : Value) (s' : Shared) : Prop
  | intro (x : Ex) (st : Tr) (ρ' : Rho) (μ' : Mu) (P' : Know) : Le P P' → Sat cx ρ' μ' P' s' → ExIn cx μ' P' s' e x st → X x ρ' μ' → EPost cx P X e s'

def Ok (cx : Cx) (rep : Know → α → β → Prop) (t : Sem α) (ρ : Rho) (μ : Mu) (Q : β → Rho → Mu → Prop) (X : Ex → Rho → Mu → Prop) : Prop :=
  ∀ P s, Sat cx ρ μ P s → wpAny cx.M cx.A t (VPost cx P rep Q) (EPost cx P X) s
/-- the same of a tree that waits for a value -/
def Ok1 (cx : Cx) (rin : Know → α → β → Prop) (rep : Know → γ → δ → Prop) (f : α → Sem γ) (b : β) (ρ : Rho) (μ : Mu) (Q : δ → Rho → Mu → Prop) (X : Ex → Rho → Mu → Prop) : Prop :=
  ∀ P s a, Sat cx ρ μ P s → rin P a b → wpAny cx.M cx.A (f a) (VPost cx P rep Q) (EPost cx P X) s
def Ok2 (cx : Cx) (rep : Know → γ → δ → Prop) (f : Value → Value → Sem γ) (a b : D) (ρ : Rho) (μ : Mu) (Q : δ → Rho → Mu → Prop) (X : Ex → Rho → Mu → Prop) : Prop :=
  ∀ P s v u, Sat cx ρ μ P s → In P v a → In P u b → wpAny cx.M cx.A (f v u) (VPost cx P rep Q) (EPost cx P X) s
end

abbrev RB : Know → Bool → Bool → Prop := fun _ a b => a = b
abbrev RU : Know → Unit → Unit → Prop := fun _ _ _ => True

inductive FlowD | next | brk | cont | ret (d : D)
inductive RF (P : Know) : Flow → FlowD → Prop
  | next : RF P .next .next
  | brk : RF P .brk .brk
  | cont : RF P .cont .cont
  | ret {v : Value} {d : D} : In P v d → RF P (.ret v) (.ret d)

section
variable {α β γ δ : Type} {cx : Cx} {ρ : Rho} {μ : Mu} {P P' : Know} {s : Shared} {X : Ex → Rho → Mu → Prop}
  {rep : Know → α → β → Prop} {rep' : Know → γ → δ → Prop} {Q : β → Rho → Mu → Prop} {Q' : δ → Rho → Mu → Prop}

theorem VPost.le (h : Le P P') {a : α} (v : VPost cx P' rep Q a s) : VPost cx P rep Q a s :=
  let ⟨b, ρ', μ', P'', l, r1, r2, r3⟩ := v; ⟨b, ρ', μ', P'', h.trans l, r1, r2, r3⟩
theorem EPost.le (h : Le P P') {a : Value} (v : EPost cx P' X a s) : EPost cx P X a s :=
  let ⟨x, st, ρ', μ', P'', l, r1, r2, r3⟩ := v; ⟨x, st, ρ', μ', P'', h.trans l, r1, r2, r3⟩
theorem wpLe {t : Sem α} (h : Le P P') (w : wpAny cx.M cx.A t (VPost cx P' rep Q) (EPost cx P' X) s) : wpAny cx.M cx.A t (VPost cx P rep Q) (EPost cx P X) s :=
  wpAny_mono w (fun _ _ v => v.le h) fun _ _ v => v.le h
theorem VPost.mk {a : α} {b : β} (S : Sat cx ρ μ P s) (h : rep P a b) (q : Q b ρ μ) : VPost cx P rep Q a s := ⟨b, ρ, μ, P, Le.refl P, S, h, q⟩

theorem Ok.mono {t : Sem α} {Q₂ : β → Rho → Mu → Prop} {X₂ : Ex → Rho → Mu → Prop} (h : Ok cx rep t ρ μ Q X) (hq : ∀ b ρ μ, Q b ρ μ → Q₂ b ρ μ) (hx : ∀ e ρ μ, X e ρ μ → X₂ e ρ μ) : Ok cx rep t ρ μ Q₂ X₂ :=
  fun P s S => wpAny_mono (h P s S) (fun _ _ ⟨b, ρ', μ', P', a1, a2, a3, a4⟩ => ⟨b, ρ', μ', P', a1, a2, a3, hq _ _ _ a4⟩) fun _ _ ⟨b, st, ρ', μ', P', a1, a2, a3, a4⟩ => ⟨b, st, ρ', μ', P', a1, a2, a3, hx _ _ _ a4⟩
theorem Ok.sub {t : Sem α} {ρ' : Rho} (h : Ok cx rep t ρ' μ Q X) (hs : Sub ρ' ρ) : Ok cx rep t ρ μ Q X := fun P s S => h P s (S.sub hs)
/-- behind a tree that ends so, what is wanted of the next -/
theorem Ok.then {t : Sem α} {R : α → Shared → Prop} {E : Value → Shared → Prop} (h : Ok cx rep t ρ μ Q X) (S : Sat cx ρ μ P s)
    (k : ∀ P' a b ρ' μ' s', Le P P' → Sat cx ρ' μ' P' s' → rep P' a b → Q b ρ' μ' → R a s')
    (ke : ∀ P' e x st ρ' μ' s', Le P P' → Sat cx ρ' μ' P' s' → ExIn cx μ' P' s' e x st → X x ρ' μ' → E e s') : wpAny cx.M cx.A t R E s :=
  wpAny_mono (h P s S) (fun a s' ⟨b, ρ', μ', P', a1, a2, a3, a4⟩ => k P' a b ρ' μ' s' a1 a2 a3 a4) fun e s' ⟨x, st, ρ', μ', P', a1, a2, a3, a4⟩ => ke P' e x st ρ' μ' s' a1 a2 a3 a4
theorem Ok.thenX {t : Sem α} {R : α → Shared → Prop} (h : Ok cx rep t ρ μ Q X) (S : Sat cx ρ μ P s)
    (k : ∀ P' a b ρ' μ' s', Le P P' → Sat cx ρ' μ' P' s' → rep P' a b → Q b ρ' μ' → R a s') : wpAny cx.M cx.A t R (EPost cx P X) s :=
  h.then S k fun P' e x st ρ' μ' s' a1 a2 a3 a4 => ⟨x, st, ρ', μ', P', a1, a2, a3, a4⟩
theorem Ok.bind {t : Sem α} {f : α → Sem γ} (h : Ok cx rep t ρ μ (fun b ρ₁ μ₁ => Ok1 cx rep rep' f b ρ₁ μ₁ Q' X) X) : Ok cx rep' (t >>= f) ρ μ Q' X :=
  fun P s S => wpAny_bind (h.thenX S fun P' a b ρ' μ' s' l S' r q => wpLe l (q P' s' a S' r))
theorem Ok.pure {a : α} {b : β} (hr : ∀ P, rep P a b) (h : Q b ρ μ) : Ok cx rep (Pure.pure a) ρ μ Q X := fun P s S => wpAny_pure (.mk S (hr P) h)
end

section
variable {n : Nat} {cx : Cx} {ρ : Rho} {μ : Mu} {X : Ex → Rho → Mu → Prop} {Q : D → Rho → Mu → Prop} {pos : Pos} {k : Nat}

theorem ok_int {i : Int} (h : Q (.int i) ρ μ) : Ok cx In (eval (.Constant (.int i) k pos) cx.env) ρ μ Q X :=
  fun _ _ S => wpAny_Constant_int (.mk (S.toks _) (.int _ _) h)
theorem ok_str {x : Str} (h : Q (.str x) ρ μ) : Ok cx In (eval (.Constant (.str x) k pos) cx.env) ρ μ Q X :=
  fun _ _ S => wpAny_Constant_str (.mk (S.toks _) (.str _ _) h)
theorem ok_none (h : Q .none ρ μ) : Ok cx In (eval (.Constant .none k pos) cx.env) ρ μ Q X :=
  fun _ _ S => wpAny_Constant_none (.mk S .none h)
theorem ok_bool {b : Bool} (h : Q (.bool b) ρ μ) : Ok cx In (eval (.Constant (.bool b) k pos) cx.env) ρ μ Q X :=
  fun _ _ S => wpAny_Constant_bool (.mk S (.bool b) h)
theorem ok_bytes {b : List UInt8} (h : Q (.bytes b.toArray) ρ μ) : Ok cx In (eval (.Constant (.bytes b) k pos) cx.env) ρ μ Q X :=
  fun _ _ S _ _ _ => VPost.mk (S.toks _) (In.bytes _ _) h

theorem ok_local {x : Str} {d : D} (C : CxOk n cx) (hk : cx.env.scope.names.lookup x = some .local) (hx : ρ.lookup x = some d) (h : Q d ρ μ) (hd : (x == ("__debug__" : Str)) = false := by decide) :
    Ok cx In (eval (.Name x pos) cx.env) ρ μ Q X := fun P s S => by
  obtain ⟨m, hm, hv⟩ := S.ns
  obtain ⟨v, h1, h2⟩ := hv x d hx
  exact wpAny_Name (wpAny_loadName_local (env := cx.env) C.kind hk (C.hL ▸ hm) h1 (.mk S h2 h)) hd
theorem ok_cell {x : Str} {d : D} {c : Addr} (C : CxOk n cx) (hk : cx.env.scope.names.lookup x = some .cell) (hc : cx.env.cells.lookup x = some c) (hm : (c, MO.cell (some d)) ∈ μ) (h : Q d ρ μ) (hd : (x == ("__debug__" : Str)) = false := by decide) :
    Ok cx In (eval (.Name x pos) cx.env) ρ μ Q X := fun P s S => by
  obtain ⟨o, ho, v, hdv, hr⟩ := S.mu _ hm
  cases v with
  | none => exact hr.elim
  | some v => exact wpAny_Name (wpAny_loadName_cell (env := cx.env) C.kind hk hc ⟨o, ho, hdv⟩ (.mk S hr h)) hd
theorem ok_free {x : Str} {d : D} {c : Addr} (C : CxOk n cx) (hk : cx.env.scope.names.lookup x = some .free) (hc : cx.env.cells.lookup x = some c) (hm : (c, MO.cell (some d)) ∈ μ) (h : Q d ρ μ) (hd : (x == ("__debug__" : Str)) = false := by decide)
    (hn : (x == ("__classdict__" : Str)) = false := by decide) :
    Ok cx In (eval (.Name x pos) cx.env) ρ μ Q X := fun P s S => by
  obtain ⟨o, ho, v, hdv, hr⟩ := S.mu _ hm
  cases v with
  | none => exact hr.elim
  | some v => exact wpAny_Name (wpAny_loadName_free (env := cx.env) C.kind hk hc ⟨o, ho, hdv⟩ (.mk S hr h) hn) hd
/-- a global name of the text: its value does not hang on what is known -/
theorem ok_global {x : Str} {v : Value} {d : D} (C : CxOk n cx) (hk : cx.env.scope.names.lookup x = some .globalImplicit) (hx : nsIn cx.g.K mainGlobals x = some (some v)) (hv : ∀ P s, Sat cx ρ μ P s → In P v d) (h : Q d ρ μ) (hd : (x == ("__debug__" : Str)) = false := by decide) :
    Ok cx In (eval (.Name x pos) cx.env) ρ μ Q X := fun P s S =>
  Name_function_global C.kind hk (loadGlobal_global (env := cx.env) (C.glob ▸ C.T.g.keeps S.stays) (mg_of C.K C.T.g hx) (.mk S (hv P s S) h)) hd

theorem ok_BinOp {l r : Expr} {op : Operator} (h : Ok cx In (eval l cx.env) ρ μ (fun a ρ₁ μ₁ => Ok cx In (eval r cx.env) ρ₁ μ₁ (fun b ρ₂ μ₂ => Ok2 cx In (binaryOp op) a b ρ₂ μ₂ Q X) X) X) :
    Ok cx In (eval (.BinOp l op r pos) cx.env) ρ μ Q X := fun P s S =>
  wpAny_BinOp (h.thenX S fun P₁ a b ρ₁ μ₁ s₁ l₁ S₁ r₁ q₁ => (Ok.thenX q₁ S₁ fun P₂ a₂ b₂ ρ₂ μ₂ s₂ l₂ S₂ r₂ q₂ => wpLe (l₁.trans l₂) (q₂ P₂ s₂ a a₂ S₂ (r₁.mono l₂) r₂)) |> fun w => wpAny_mono w (fun _ _ x => x) fun _ _ x => x.le l₁)
end
end Mine
end

section
open PySem PySem.W PySem.Calls PyProof.Rows
namespace Mine
section
variable {α β γ δ : Type} {n : Nat} {cx : Cx} {ρ : Rho} {μ : Mu} {P P' P₁ : Know} {s : Shared} {X : Ex → Rho → Mu → Prop}
  {rep : Know → α → β → Prop} {rep' : Know → γ → δ → Prop} {Q : β → Rho → Mu → Prop} {Q' : δ → Rho → Mu → Prop}

theorem Ok.run {t : Sem α} {R : α → Shared → Prop} (h : Ok cx rep t ρ μ Q X) (S : Sat cx ρ μ P₁ s) (l : Le P P₁)
    (k : ∀ P' a b ρ' μ' s', Le P₁ P' → Sat cx ρ' μ' P' s' → rep P' a b → Q b ρ' μ' → R a s') : wpAny cx.M cx.A t R (EPost cx P X) s :=
  h.then S k fun P' e x st ρ' μ' s' a1 a2 a3 a4 => ⟨x, st, ρ', μ', P', l.trans a1, a2, a3, a4⟩
theorem Ok.runE {t : Sem α} (h : Ok cx rep t ρ μ Q X) (S : Sat cx ρ μ P₁ s) (l : Le P P₁) : wpAny cx.M cx.A t (VPost cx P rep Q) (EPost cx P X) s :=
  wpLe l (h P₁ s S)
end

section
variable {n : Nat} {cx : Cx} {ρ : Rho} {μ : Mu} {P : Know} {s : Shared} {X : Ex → Rho → Mu → Prop} {Q : D → Rho → Mu → Prop} {QB : Bool → Rho → Mu → Prop} {QF : FlowD → Rho → Mu → Prop} {QL : List D → Rho → Mu → Prop} {QU : Unit → Rho → Mu → Prop} {pos : Pos} {k : Nat}

abbrev OkE (cx : Cx) (e : Expr) (ρ : Rho) (μ : Mu) (Q : D → Rho → Mu → Prop) (X : Ex → Rho → Mu → Prop) : Prop := Ok cx In (eval e cx.env) ρ μ Q X
abbrev OkT (cx : Cx) (e : Expr) (ρ : Rho) (μ : Mu) (Q : Bool → Rho → Mu → Prop) (X : Ex → Rho → Mu → Prop) : Prop := Ok cx RB (isTrue e cx.env (eval e cx.env)) ρ μ Q X
abbrev OkX (cx : Cx) (ss : List Stmt) (ρ : Rho) (μ : Mu) (Q : FlowD → Rho → Mu → Prop) (X : Ex → Rho → Mu → Prop) : Prop := Ok cx RF (execs ss cx.env) ρ μ Q X
abbrev OkS (cx : Cx) (st : Stmt) (ρ : Rho) (μ : Mu) (Q : FlowD → Rho → Mu → Prop) (X : Ex → Rho → Mu → Prop) : Prop := Ok cx RF (exec st cx.env) ρ μ Q X
abbrev OkA (cx : Cx) (pos : Pos) (es : List Expr) (ρ : Rho) (μ : Mu) (Q : List D → Rho → Mu → Prop) (X : Ex → Rho → Mu → Prop) : Prop := Ok cx All (spliced (backTo pos (starEach es cx.env))) ρ μ Q X

/-- what is wanted behind a part, by name -/
abbrev kE (cx : Cx) (e : Expr) (Q : D → D → Rho → Mu → Prop) (X : Ex → Rho → Mu → Prop) (a : D) (ρ : Rho) (μ : Mu) : Prop := OkE cx e ρ μ (Q a) X
abbrev kB (cx : Cx) (op : Operator) (Q : D → Rho → Mu → Prop) (X : Ex → Rho → Mu → Prop) (a b : D) (ρ : Rho) (μ : Mu) : Prop := Ok2 cx In (binaryOp op) a b ρ μ Q X
abbrev kC (cx : Cx) (op : CmpOp) (Q : D → Rho → Mu → Prop) (X : Ex → Rho → Mu → Prop) (a b : D) (ρ : Rho) (μ : Mu) : Prop := Ok2 cx In (compareOp op) a b ρ μ Q X
abbrev kT (cx : Cx) (QB : Bool → Rho → Mu → Prop) (X : Ex → Rho → Mu → Prop) (a : D) (ρ : Rho) (μ : Mu) : Prop := Ok1 cx In RB truthy a ρ μ QB X
abbrev kNot (QB : Bool → Rho → Mu → Prop) (b : Bool) (ρ : Rho) (μ : Mu) : Prop := QB (!b) ρ μ
abbrev kAnd (cx : Cx) (w : Sem Value) (rest : List Expr) (pos : Pos) (QB : Bool → Rho → Mu → Prop) (X : Ex → Rho → Mu → Prop) (b : Bool) (ρ : Rho) (μ : Mu) : Prop := if b then Ok cx RB (isTrue (.BoolOp .And rest pos) cx.env w) ρ μ QB X else QB false ρ μ
abbrev kOr (cx : Cx) (w : Sem Value) (rest : List Expr) (pos : Pos) (QB : Bool → Rho → Mu → Prop) (X : Ex → Rho → Mu → Prop) (b : Bool) (ρ : Rho) (μ : Mu) : Prop := if b then QB true ρ μ else Ok cx RB (isTrue (.BoolOp .Or rest pos) cx.env w) ρ μ QB X
abbrev kIfE (cx : Cx) (body orelse : Expr) (Q : D → Rho → Mu → Prop) (X : Ex → Rho → Mu → Prop) (b : Bool) (ρ : Rho) (μ : Mu) : Prop := if b then OkE cx body ρ μ Q X else OkE cx orelse ρ μ Q X
abbrev kIfX (cx : Cx) (body orelse : List Stmt) (QF : FlowD → Rho → Mu → Prop) (X : Ex → Rho → Mu → Prop) (b : Bool) (ρ : Rho) (μ : Mu) : Prop := if b then OkX cx body ρ μ QF X else OkX cx orelse ρ μ QF X
abbrev kNeg (cx : Cx) (op : UnaryOp) (Q : D → Rho → Mu → Prop) (X : Ex → Rho → Mu → Prop) (a : D) (ρ : Rho) (μ : Mu) : Prop := Ok1 cx In In (unaryOp op) a ρ μ Q X
abbrev kCons (d : D) (QL : List D → Rho → Mu → Prop) (ds : List D) (ρ : Rho) (μ : Mu) : Prop := QL (d :: ds) ρ μ
abbrev kA (cx : Cx) (pos : Pos) (rest : List Expr) (QL : List D → Rho → Mu → Prop) (X : Ex → Rho → Mu → Prop) (d : D) (ρ : Rho) (μ : Mu) : Prop := OkA cx pos rest ρ μ (kCons d QL) X
abbrev kTup (Q : D → Rho → Mu → Prop) (ds : List D) (ρ : Rho) (μ : Mu) : Prop := ds.length ≤ 1000 ∧ Q (.tuple ds) ρ μ
abbrev kLst (Q : D → Rho → Mu → Prop) (ds : List D) (ρ : Rho) (μ : Mu) : Prop := ds.length ≤ 1000 ∧ Q (.list ds) ρ μ
abbrev kLsM (Q : D → Rho → Mu → Prop) (ds : List D) (ρ : Rho) (μ : Mu) : Prop := ds.length ≤ 1000 ∧ ∀ a, Q (.addr a) ρ ((a, .list ds) :: μ)
abbrev kNext (cx : Cx) (rest : List Stmt) (QF : FlowD → Rho → Mu → Prop) (X : Ex → Rho → Mu → Prop) (f : FlowD) (ρ : Rho) (μ : Mu) : Prop := match f with | .next => OkX cx rest ρ μ QF X | f => QF f ρ μ
abbrev kRet (QF : FlowD → Rho → Mu → Prop) (d : D) (ρ : Rho) (μ : Mu) : Prop := QF (.ret d) ρ μ
abbrev kU (QF : FlowD → Rho → Mu → Prop) (_ : Unit) (ρ : Rho) (μ : Mu) : Prop := QF .next ρ μ
abbrev kSto (cx : Cx) (x : Str) (QF : FlowD → Rho → Mu → Prop) (X : Ex → Rho → Mu → Prop) (d : D) (ρ : Rho) (μ : Mu) : Prop := Ok1 cx In RU (storeName cx.env x) d ρ μ (kU QF) X

theorem e_BinOp {l r : Expr} {op : Operator} (h : OkE cx l ρ μ (kE cx r (kB cx op Q X) X) X) :
    OkE cx (.BinOp l op r pos) ρ μ Q X := fun P s S =>
  wpAny_BinOp (h.run S (Le.refl P) fun P₁ a b ρ₁ μ₁ s₁ l₁ S₁ r₁ q₁ => q₁.run S₁ l₁ fun P₂ a₂ b₂ ρ₂ μ₂ s₂ l₂ S₂ r₂ q₂ => wpLe (l₁.trans l₂) (q₂ P₂ s₂ a a₂ S₂ (r₁.mono l₂) r₂))
theorem e_Compare1 {l r : Expr} {op : CmpOp} (h : OkE cx l ρ μ (kE cx r (kC cx op Q X) X) X) (hm : behindInMarks op r = false := by with_unfolding_all rfl) :
    OkE cx (.Compare l [op] [r] pos) ρ μ Q X := fun P s S =>
  wpAny_Compare1 (h.run S (Le.refl P) fun P₁ a b ρ₁ μ₁ s₁ l₁ S₁ r₁ q₁ => q₁.run S₁ l₁ fun P₂ a₂ b₂ ρ₂ μ₂ s₂ l₂ S₂ r₂ q₂ => wpLe (l₁.trans l₂) (q₂ P₂ s₂ a a₂ S₂ (r₁.mono l₂) r₂)) hm

/-- a value's truth -/
theorem truthy_bool {b : Bool} (h : QB b ρ μ) : Ok1 cx In RB truthy (.bool b) ρ μ QB X := fun P s v S hv => by
  cases hv; exact wpAny_truthy_bool (.mk S rfl h)
theorem truthy_none (h : QB false ρ μ) : Ok1 cx In RB truthy .none ρ μ QB X := fun P s v S hv => by
  cases hv; exact PyProof.Rows.truthy_none (.mk S rfl h)

theorem t_Compare1 {l r : Expr} {op : CmpOp} (h : OkE cx l ρ μ (kE cx r (kC cx op (kT cx QB X) X) X) X) (hm : behindInMarks op r = false := by with_unfolding_all rfl) :
    OkT cx (.Compare l [op] [r] pos) ρ μ QB X := fun P s S =>
  wpAny_isTrue_Compare1 (h.run S (Le.refl P) fun P₁ a b ρ₁ μ₁ s₁ l₁ S₁ r₁ q₁ => q₁.run S₁ l₁ fun P₂ a₂ b₂ ρ₂ μ₂ s₂ l₂ S₂ r₂ q₂ =>
    wpAny_mono (q₂ P₂ s₂ a a₂ S₂ (r₁.mono l₂) r₂) (fun c s₃ ⟨d, ρ₃, μ₃, P₃, l₃, S₃, r₃, q₃⟩ => wpLe (l₁.trans (l₂.trans l₃)) (q₃ P₃ s₃ c S₃ r₃)) fun _ _ x => x.le (l₁.trans l₂)) hm
/-- a chain of two -/
theorem t_Compare2 {l r r' : Expr} {op op' : CmpOp} (h : OkE cx l ρ μ (fun a ρ₁ μ₁ => OkE cx r ρ₁ μ₁ (fun b ρ₂ μ₂ => Ok2 cx In (compareOp op) a b ρ₂ μ₂ (fun c ρ₃ μ₃ => Ok1 cx In RB truthy c ρ₃ μ₃ (fun t ρ₄ μ₄ =>
      if t then OkE cx r' ρ₄ μ₄ (fun b' ρ₅ μ₅ => Ok2 cx In (compareOp op') b b' ρ₅ μ₅ (fun c' ρ₆ μ₆ => Ok1 cx In RB truthy c' ρ₆ μ₆ QB X) X) X else QB false ρ₄ μ₄) X) X) X) X) (hm : lastMarks [op, op'] [r, r'] = false := by with_unfolding_all rfl) :
    OkT cx (.Compare l [op, op'] [r, r'] pos) ρ μ QB X := fun P s S =>
  isTrue_chain (h.run S (Le.refl P) fun P₁ a b ρ₁ μ₁ s₁ l₁ S₁ r₁ q₁ => test_link (q₁.run S₁ l₁ fun P₂ a₂ b₂ ρ₂ μ₂ s₂ l₂ S₂ r₂ q₂ =>
    wpAny_mono (q₂ P₂ s₂ a a₂ S₂ (r₁.mono l₂) r₂) (fun c s₃ ⟨d, ρ₃, μ₃, P₃, l₃, S₃, r₃, q₃⟩ => wpAny_mono (q₃ P₃ s₃ c S₃ r₃) (fun t s₄ ⟨t', ρ₄, μ₄, P₄, l₄, S₄, r₄, q₄⟩ => by
      have r₄ : t = t' := r₄
      subst r₄
      cases t with
      | false => exact ⟨false, ρ₄, μ₄, P₄, l₁.trans (l₂.trans (l₃.trans l₄)), S₄, rfl, q₄⟩
      | true =>
        rw [if_pos rfl] at q₄ ⊢
        refine test_last (q₄.run S₄ (l₁.trans (l₂.trans (l₃.trans l₄))) fun P₅ a₅ b₅ ρ₅ μ₅ s₅ l₅ S₅ r₅ q₅ => ?_)
        exact wpAny_mono (q₅ P₅ s₅ a₂ a₅ S₅ (r₂.mono (l₃.trans (l₄.trans l₅))) r₅) (fun c s₆ ⟨d, ρ₆, μ₆, P₆, l₆, S₆, r₆, q₆⟩ => wpLe (l₁.trans (l₂.trans (l₃.trans (l₄.trans (l₅.trans l₆))))) (q₆ P₆ s₆ c S₆ r₆)) fun _ _ x => x.le (l₁.trans (l₂.trans (l₃.trans (l₄.trans l₅))))) fun _ _ x => x.le (l₁.trans (l₂.trans l₃))) fun _ _ x => x.le (l₁.trans l₂))) hm
theorem t_not {e : Expr} (h : OkT cx e ρ μ (kNot QB) X) : OkT cx (.UnaryOp .Not e pos) ρ μ QB X := fun P s S =>
  isTrue_not (h.run S (Le.refl P) fun P₁ a b ρ₁ μ₁ s₁ l₁ S₁ r₁ q₁ => by cases (r₁ : a = b); exact ⟨_, ρ₁, μ₁, P₁, l₁, S₁, rfl, q₁⟩)
theorem t_and_nil (h : QB true ρ μ) : Ok cx RB (isTrue (.BoolOp .And [] pos) cx.env w) ρ μ QB X := fun P s S => isTrue_and_nil (.mk S rfl h)
theorem t_or_nil (h : QB false ρ μ) : Ok cx RB (isTrue (.BoolOp .Or [] pos) cx.env w) ρ μ QB X := fun P s S => isTrue_or_nil (.mk S rfl h)
theorem t_and {w : Sem Value} {e : Expr} {rest : List Expr} (h : OkT cx e ρ μ (kAnd cx w rest pos QB X) X) : Ok cx RB (isTrue (.BoolOp .And (e :: rest) pos) cx.env w) ρ μ QB X := fun P s S =>
  isTrue_and (h.run S (Le.refl P) fun P₁ a b ρ₁ μ₁ s₁ l₁ S₁ r₁ q₁ => by
    cases (r₁ : a = b)
    cases a with
    | false => exact ⟨false, ρ₁, μ₁, P₁, l₁, S₁, rfl, q₁⟩
    | true => rw [if_pos rfl]; exact q₁.runE S₁ l₁)
theorem t_or {w : Sem Value} {e : Expr} {rest : List Expr} (h : OkT cx e ρ μ (kOr cx w rest pos QB X) X) : Ok cx RB (isTrue (.BoolOp .Or (e :: rest) pos) cx.env w) ρ μ QB X := fun P s S =>
  isTrue_or (h.run S (Le.refl P) fun P₁ a b ρ₁ μ₁ s₁ l₁ S₁ r₁ q₁ => by
    cases (r₁ : a = b)
    cases a with
    | true => exact ⟨true, ρ₁, μ₁, P₁, l₁, S₁, rfl, q₁⟩
    | false => exact q₁.runE S₁ l₁)
/-- a value context: and, or -/
theorem e_bool1 {op : BoolOp} {e : Expr} (h : OkE cx e ρ μ Q X) : OkE cx (.BoolOp op [e] pos) ρ μ Q X := fun P s S => BoolOp_one (h P s S)
theorem e_and {e e' : Expr} {rest : List Expr} (h : OkE cx e ρ μ (fun a ρ₁ μ₁ => Ok1 cx In RB truthy a ρ₁ μ₁ (fun b ρ₂ μ₂ => if b then OkE cx (.BoolOp .And (e' :: rest) pos) ρ₂ μ₂ Q X else Q a ρ₂ μ₂) X) X) : OkE cx (.BoolOp .And (e :: e' :: rest) pos) ρ μ Q X := fun P s S =>
  BoolOp_and (h.run S (Le.refl P) fun P₁ a d ρ₁ μ₁ s₁ l₁ S₁ r₁ q₁ => wpAny_mono (q₁ P₁ s₁ a S₁ r₁) (fun t s₂ ⟨t', ρ₂, μ₂, P₂, l₂, S₂, r₂, q₂⟩ => by
    cases (r₂ : t = t')
    cases t with
    | false => exact ⟨d, ρ₂, μ₂, P₂, l₁.trans l₂, S₂, r₁.mono l₂, q₂⟩
    | true => rw [if_pos rfl] at q₂ ⊢; exact q₂.runE S₂ (l₁.trans l₂)) fun _ _ x => x.le l₁)
theorem e_or {e e' : Expr} {rest : List Expr} (h : OkE cx e ρ μ (fun a ρ₁ μ₁ => Ok1 cx In RB truthy a ρ₁ μ₁ (fun b ρ₂ μ₂ => if b then Q a ρ₂ μ₂ else OkE cx (.BoolOp .Or (e' :: rest) pos) ρ₂ μ₂ Q X) X) X) : OkE cx (.BoolOp .Or (e :: e' :: rest) pos) ρ μ Q X := fun P s S =>
  BoolOp_or (h.run S (Le.refl P) fun P₁ a d ρ₁ μ₁ s₁ l₁ S₁ r₁ q₁ => wpAny_mono (q₁ P₁ s₁ a S₁ r₁) (fun t s₂ ⟨t', ρ₂, μ₂, P₂, l₂, S₂, r₂, q₂⟩ => by
    cases (r₂ : t = t')
    cases t with
    | true => exact ⟨d, ρ₂, μ₂, P₂, l₁.trans l₂, S₂, r₁.mono l₂, q₂⟩
    | false => exact q₂.runE S₂ (l₁.trans l₂)) fun _ _ x => x.le l₁)
theorem e_if {test body orelse : Expr} (h : OkT cx test ρ μ (kIfE cx body orelse Q X) X) : OkE cx (.IfExp test body orelse pos) ρ μ Q X := fun P s S =>
  IfExp_ (h.run S (Le.refl P) fun P₁ a b ρ₁ μ₁ s₁ l₁ S₁ r₁ q₁ => by
    cases (r₁ : a = b)
    cases a <;> exact q₁.runE S₁ l₁)
theorem t_if {w : Sem Value} {test body orelse : Expr} (h : OkT cx test ρ μ (fun b ρ₁ μ₁ => if b then OkT cx body ρ₁ μ₁ QB X else OkT cx orelse ρ₁ μ₁ QB X) X) : Ok cx RB (isTrue (.IfExp test body orelse pos) cx.env w) ρ μ QB X := fun P s S =>
  isTrue_IfExp (h.run S (Le.refl P) fun P₁ a b ρ₁ μ₁ s₁ l₁ S₁ r₁ q₁ => by
    cases (r₁ : a = b)
    cases a <;> exact q₁.runE S₁ l₁)
/-- a test that is a plain value's truth (a name, a call) -/
theorem t_plain {e : Expr} (h : OkE cx e ρ μ (kT cx QB X) X) (he : isTrue e cx.env (eval e cx.env) = (do let v ← eval e cx.env; standAt e.pos; holding [v] (truthy v)) := by rfl) : OkT cx e ρ μ QB X := fun P s S =>
  isTrue_plain (h.run S (Le.refl P) fun P₁ a b ρ₁ μ₁ s₁ l₁ S₁ r₁ q₁ => wpLe l₁ (q₁ P₁ s₁ a S₁ r₁)) he
theorem e_neg {e : Expr} {op : UnaryOp} (h : OkE cx e ρ μ (kNeg cx op Q X) X) : OkE cx (.UnaryOp op e pos) ρ μ Q X := fun P s S =>
  UnaryOp_ (h.run S (Le.refl P) fun P₁ a b ρ₁ μ₁ s₁ l₁ S₁ r₁ q₁ => wpLe l₁ (q₁ P₁ s₁ a S₁ r₁))

/-- arguments, displays -/
theorem a_nil (h : QL [] ρ μ) : OkA cx pos [] ρ μ QL X := fun P s S => args_nil (.mk S .nil h)
theorem a_cons {e : Expr} {rest : List Expr} (h : OkE cx e ρ μ (kA cx pos rest QL X) X) (he : starEach (e :: rest) cx.env = (false, eval e cx.env) :: starEach rest cx.env := by rfl) : OkA cx pos (e :: rest) ρ μ QL X := fun P s S =>
  args_cons (h.run S (Le.refl P) fun P₁ a d ρ₁ μ₁ s₁ l₁ S₁ r₁ q₁ => q₁.run S₁ l₁ fun P₂ as ds ρ₂ μ₂ s₂ l₂ S₂ r₂ q₂ => ⟨d :: ds, ρ₂, μ₂, P₂, l₁.trans l₂, S₂, .cons (r₁.mono l₂) r₂, q₂⟩) he
theorem e_tuple {es : List Expr} (h : OkA cx pos es ρ μ (kTup Q) X) : OkE cx (.Tuple es k pos) ρ μ Q X := fun P s S =>
  wpAny_Tuple (h.run S (Le.refl P) fun P₁ as ds ρ₁ μ₁ s₁ l₁ S₁ r₁ q₁ => ⟨by rw [r₁.length, sizeLine_eq]; exact Nat.le_trans q₁.1 (by decide),
    ⟨_, ρ₁, μ₁, _, l₁.trans (P₁.le_add _ _), S₁.push _, .tuple (n := 0) (P₁.add_self _ _) ⟨rfl, rfl, rfl⟩ rfl (r₁.mono (P₁.le_add _ _)), q₁.2⟩⟩)
theorem e_list {es : List Expr} (h : OkA cx pos es ρ μ (kLst Q) X) : OkE cx (.List es pos) ρ μ Q X := fun P s S =>
  wpAny_List (h.run S (Le.refl P) fun P₁ as ds ρ₁ μ₁ s₁ l₁ S₁ r₁ q₁ => ⟨by rw [r₁.length, sizeLine_eq]; exact Nat.le_trans q₁.1 (by decide),
    ⟨_, ρ₁, μ₁, _, l₁.trans (P₁.le_add _ _), S₁.push _, .list (n := 0) (P₁.add_self _ _) ⟨rfl, rfl, rfl⟩ rfl (r₁.mono (P₁.le_add _ _)), q₁.2⟩⟩)
/-- a list display that is to be written to -/
theorem e_listM {es : List Expr} (h : OkA cx pos es ρ μ (kLsM Q) X) : OkE cx (.List es pos) ρ μ Q X := fun P s S =>
  wpAny_List (h.run S (Le.refl P) fun P₁ as ds ρ₁ μ₁ s₁ l₁ S₁ r₁ q₁ => ⟨by rw [r₁.length, sizeLine_eq]; exact Nat.le_trans q₁.1 (by decide),
    ⟨_, ρ₁, _, P₁, l₁, S₁.addM ⟨_, s₁.toks, rfl⟩ (fun _ _ e => Heap.get?_push_of_some _ e) (none_at_size _) (Heap.get?_push_size _ rfl) (mo := .list ds) ⟨as, 0, ⟨rfl, rfl, rfl⟩, rfl, r₁⟩, .addr _, q₁.2 _⟩⟩)

/-- statements -/
theorem x_nil (h : QF .next ρ μ) : OkX cx [] ρ μ QF X := fun P s S => wpAny_execs_nil (.mk S .next h)
theorem x_cons {st : Stmt} {rest : List Stmt} (h : OkS cx st ρ μ (kNext cx rest QF X) X) : OkX cx (st :: rest) ρ μ QF X := fun P s S =>
  wpAny_execs_cons (h.run S (Le.refl P) fun P₁ a d ρ₁ μ₁ s₁ l₁ S₁ r₁ q₁ => by
    cases r₁ with
    | next => exact q₁.runE S₁ l₁
    | brk => exact ⟨_, ρ₁, μ₁, P₁, l₁, S₁, .brk, q₁⟩
    | cont => exact ⟨_, ρ₁, μ₁, P₁, l₁, S₁, .cont, q₁⟩
    | ret h => exact ⟨_, ρ₁, μ₁, P₁, l₁, S₁, .ret h, q₁⟩)
theorem s_if {test : Expr} {body orelse : List Stmt} (h : OkT cx test ρ μ (kIfX cx body orelse QF X) X) : OkS cx (.If test body orelse pos) ρ μ QF X := fun P s S =>
  wpAny_If (h.run S (Le.refl P) fun P₁ a b ρ₁ μ₁ s₁ l₁ S₁ r₁ q₁ => by
    cases (r₁ : a = b)
    cases a <;> exact q₁.runE S₁ l₁)
theorem s_return {e : Expr} (h : OkE cx e ρ μ (kRet QF) X) : OkS cx (.Return (some e) pos) ρ μ QF X := fun P s S =>
  wpAny_Return_some (h.run S (Le.refl P) fun P₁ a b ρ₁ μ₁ s₁ l₁ S₁ r₁ q₁ => ⟨_, ρ₁, μ₁, P₁, l₁, S₁, .ret r₁, q₁⟩)
/-- a local name is bound -/
theorem store_local {x : Str} {d : D} (C : CxOk n cx) (hk : cx.env.scope.names.lookup x = some .local) (h : QU () ((x, d) :: ρ) μ) : Ok1 cx In RU (storeName cx.env x) d ρ μ QU X := fun P s v S hv => by
  obtain ⟨m, hm, hS⟩ := S.setLs (x := x) hv
  exact wpAny_storeName_local (env := cx.env) hk (C.hL ▸ hm) (fun h' hn hs => .mk (hS h' _ (C.hL ▸ hn) (C.hL ▸ hs)) trivial h)
    (by rw [C.kind]; rfl)
theorem store_cell {x : Str} {d : D} {o : Option D} {c : Addr} {μ' : Mu} (C : CxOk n cx) (hk : cx.env.scope.names.lookup x = some .cell) (hc : cx.env.cells.lookup x = some c) (u : Upd c (.cell o) (.cell (some d)) μ μ') (h : QU () ρ μ') :
    Ok1 cx In RU (storeName cx.env x) d ρ μ QU X := fun P s v S hv => by
  obtain ⟨ob, ho, v₀, hd, hr⟩ := S.mu _ u.mem
  refine wpAny_storeName_cell (env := cx.env) C.kind hk hc ⟨ob, ho, hd⟩ fun h' hv' hs => ?_
  obtain ⟨o', ho', hd'⟩ := hv'
  exact .mk (S.setM (tk := s.toks) u hs ho' ⟨_, hd', hv⟩) trivial h
theorem s_assign {x : Str} {px : Pos} {value : Expr} (h : OkE cx value ρ μ (kSto cx x QF X) X)
    (hs : swapsWith value (some (.Name x px)) pos.line cx.env = pure false := by rfl) : OkS cx (.Assign [.Name x px] value pos) ρ μ QF X := fun P s S =>
  wpAny_Assign_Name (h.run S (Le.refl P) fun P₁ a b ρ₁ μ₁ s₁ l₁ S₁ r₁ q₁ => wpAny_mono (q₁ P₁ s₁ a S₁ r₁) (fun _ s₂ ⟨_, ρ₂, μ₂, P₂, l₂, S₂, _, q₂⟩ => ⟨_, ρ₂, μ₂, P₂, l₁.trans l₂, S₂, .next, q₂⟩) fun _ _ x => x.le l₁) hs
/-- targets in a row -/
abbrev OkI (cx : Cx) (ts : List Expr) (ds : List D) (ρ : Rho) (μ : Mu) (Q : Unit → Rho → Mu → Prop) (X : Ex → Rho → Mu → Prop) : Prop :=
  Ok1 cx All RU (assignInOrder ((assignEach ts cx.env).map (·.2))) ds ρ μ Q X
end
end Mine
end

section
open PySem PySem.W PySem.Calls PyProof.Rows
namespace Mine
abbrev Led := List (Addr × Obj)

section
variable {n : Nat} {cx : Cx} {ρ : Rho} {μ : Mu} {P P' : Know} {s s' : Shared}

theorem Sat.there (S : Sat cx ρ μ P s) {b : Addr} (hb : b = cx.L ∨ b ∈ cx.fa ∨ ∃ o, cx.Kp b o) : ∃ o, s.heap.get? b = some o := by
  rcases hb with rfl | hb | ⟨o', hb⟩
  · obtain ⟨m, hm, _⟩ := S.ns; obtain ⟨o', _, _, h1, _⟩ := hm; exact ⟨o', h1⟩
  · obtain ⟨_, o', h1, _⟩ := S.fr.mem hb; exact ⟨o', h1⟩
  · obtain ⟨_, sl, h2⟩ := S.kp b o' hb; exact ⟨_, h2⟩
/-- what is not on the heap yet is apart -/
theorem Sat.apart_new (S : Sat cx ρ μ P s) {a : Addr} (hn : s.heap.get? a = none) : Apart cx μ P a := by
  have no : ∀ o, s.heap.get? a = some o → False := fun o h => by rw [hn] at h; cases h
  refine ⟨fun q => ?_, fun o h => no o (S.fz a o h), fun q => ?_, fun q => ?_, fun o q => ?_, ?_⟩
  · obtain ⟨e, he, q⟩ := List.mem_map.mp q
    obtain ⟨o, h1, _⟩ := S.mu e he
    have q' : e.1 = a := q
    exact no o (q' ▸ h1)
  · obtain ⟨o, h⟩ := S.there (.inr (.inl q)); exact no o h
  · obtain ⟨o, h⟩ := S.there (b := a) (.inl q); exact no o h
  · obtain ⟨o, h⟩ := S.there (.inr (.inr ⟨o, q⟩)); exact no o h
  · cases q : cx.g.base.get? a with
    | none => rfl
    | some o => exact (no o (S.stays a o q)).elim

/-- objects that nothing speaks of may change; new ones may be known -/
theorem Sat.move (S : Sat cx ρ μ P s) (hs : Same s s') (W : List Addr) (hW : ∀ a ∈ W, Apart cx μ P a) (hk : ∀ b o, b ∉ W → s.heap.get? b = some o → s'.heap.get? b = some o) (hP : Le P P')
    (hN : ∀ a o, P' a o → P a o ∨ (s'.heap.get? a = some o ∧ s.heap.get? a = none)) : Sat cx ρ μ P' s' := by
  obtain ⟨m, hm, hv⟩ := S.ns
  have hWL : cx.L ∉ W := fun h => (hW _ h).2.2.2.1 rfl
  have hWP : ∀ a o, P a o → a ∉ W := fun a o h q => (hW _ q).2.1 o h
  have hWm : ∀ e ∈ μ, e.1 ∉ W := fun e he q => (hW _ q).1 (List.mem_map_of_mem he)
  have hWf : ∀ b ∈ cx.fa, b ∉ W := fun b hb q => (hW _ q).2.2.1 hb
  have hWk : ∀ b o, cx.Kp b o → b ∉ W := fun b o hb q => (hW _ q).2.2.2.2.1 o hb
  have hWb : ∀ b o, cx.g.base.get? b = some o → b ∉ W := fun b o hb q => by rw [(hW _ q).2.2.2.2.2] at hb; cases hb
  refine ⟨S.same.trans hs, ⟨m, hm.at' fun o e => hk _ o hWL e, fun x d hx => ?_⟩, fun a o h => ?_, fun e he => ?_, S.nd, fun e he o hP' => ?_, fun b o e => hk b o (hWb b o e) (S.stays b o e), S.mb, ?_, fun b o hb => ?_, fun b hb => ⟨(S.sp b hb).1, fun o hP' => ?_⟩, S.lb, S.lk⟩
  · obtain ⟨v, h1, h2⟩ := hv x d hx; exact ⟨v, h1, h2.mono hP⟩
  · rcases hN a o h with h | h
    · exact hk _ _ (hWP a o h) (S.fz a o h)
    · exact h.1
  · obtain ⟨o, h1, h2⟩ := S.mu e he; exact ⟨o, hk _ _ (hWm e he) h1, h2.mono hP⟩
  · rcases hN _ _ hP' with h | h
    · exact S.dj e he o h
    · obtain ⟨o', h1, _⟩ := S.mu e he; rw [h.2] at h1; cases h1
  · exact funFrames_of S.fr fun b o hb e hd => ⟨o, hk b o (hWf b hb) e, hd⟩
  · obtain ⟨h1, sl, h2⟩ := S.kp b o hb; exact ⟨fun h => hk _ _ (hWk b o hb) (h1 h), sl, hk _ _ (hWk b o hb) h2⟩
  · rcases hN _ _ hP' with h | h
    · exact (S.sp b hb).2 o h
    · obtain ⟨o', h1⟩ := S.there hb; rw [h.2] at h1; cases h1
theorem Sat.away (S : Sat cx ρ μ P s) (hs : Same s s') (W : List Addr) (hW : ∀ a ∈ W, Apart cx μ P a) (hk : ∀ b o, b ∉ W → s.heap.get? b = some o → s'.heap.get? b = some o) : Sat cx ρ μ P s' :=
  S.move hs W hW hk (Le.refl P) fun _ _ h => .inl h

/-- objects of an iterator's own: they stand so, and nothing else speaks of them -/
def Held (cx : Cx) (μ : Mu) (P : Know) (own : Led) (s : Shared) : Prop := ∀ e ∈ own, s.heap.get? e.1 = some e.2 ∧ Apart cx μ P e.1
def Cx.hold (cx : Cx) (own : Led) : Cx := { cx with Kp := fun b o => cx.Kp b o ∨ (b, o) ∈ own }
theorem CxOk.hold (C : CxOk n cx) (own : Led) : CxOk n (cx.hold own) := ⟨C.K, C.T, C.hA, C.hL, C.kind, C.glob, C.bi, C.hf, C.hh, C.depth, C.units⟩
theorem Sat.hold (S : Sat cx ρ μ P s) {own : Led} (H : Held cx μ P own s) : Sat (cx.hold own) ρ μ P s := by
  refine ⟨S.same, S.ns, S.fz, S.mu, S.nd, S.dj, S.stays, S.mb, S.fr, fun b o hb => ?_, fun b hb => ?_, S.lb, fun o hb => ?_⟩
  · rcases hb with hb | hb
    · exact S.kp b o hb
    · exact ⟨fun _ => (H _ hb).1, o.slots, (H _ hb).1⟩
  · rcases hb with hb | hb | ⟨o, hb | hb⟩
    · exact S.sp b (.inl hb)
    · exact S.sp b (.inr (.inl hb))
    · exact S.sp b (.inr (.inr ⟨o, hb⟩))
    · exact ⟨(H _ hb).2.1, (H _ hb).2.2.1⟩
  · rcases hb with hb | hb
    · exact S.lk o hb
    · exact (H _ hb).2.2.2.2.1 rfl
theorem Sat.unhold {own : Led} (S : Sat (cx.hold own) ρ μ P s) : Sat cx ρ μ P s :=
  ⟨S.same, S.ns, S.fz, S.mu, S.nd, S.dj, S.stays, S.mb, S.fr, fun b o hb => S.kp b o (.inl hb), fun b hb => S.sp b (hb.imp id fun h => h.imp id fun ⟨o, h⟩ => ⟨o, .inl h⟩), S.lb, fun o hb => S.lk o (.inl hb)⟩
theorem Sat.held {own : Led} {μ₀ : Mu} {P₀ : Know} {s₀ : Shared} (S : Sat (cx.hold own) ρ μ P s) (H : Held cx μ₀ P₀ own s₀) : Held cx μ P own s := fun e he => by
  obtain ⟨_, _, _, h3, h4, h5, h6⟩ := H e he
  have sep := S.sp e.1 (.inr (.inr ⟨e.2, .inr he⟩))
  exact ⟨(S.kp e.1 e.2 (.inr he)).1 h3, sep.1, sep.2, h3, h4, h5, h6⟩
theorem Apart.unhold {own : Led} {a : Addr} (h : Apart (cx.hold own) μ P a) : Apart cx μ P a := ⟨h.1, h.2.1, h.2.2.1, h.2.2.2.1, fun o q => h.2.2.2.2.1 o (.inl q), h.2.2.2.2.2⟩
theorem ExIn.unhold {own : Led} {e : Value} {x : Ex} {st : Tr} (h : ExIn (cx.hold own) μ P s e x st) : ExIn cx μ P s e x st := by
  obtain ⟨e', dd, oe, vs, t, h1, h2, h3, h4, h5, h6, h7, h8, h9, h10, h11⟩ := h.ex
  refine ⟨e', dd, oe, vs, t, h1, h2, h3, h4, h5, h6, h7, h8, h9.unhold, h10.unhold, ?_⟩
  cases st with
  | raw => exact h11
  | out => obtain ⟨T, oT, ts, a1, a2, a3, a4, r⟩ := h11; exact ⟨T, oT, ts, a1, a2, a3, a4.unhold, r⟩
  | noted => obtain ⟨T, oT, ts, Lf, a1, a2, a3, a4, r⟩ := h11; exact ⟨T, oT, ts, Lf, a1, a2, a3, a4.unhold, r⟩
end

section
variable {n : Nat} {cx : Cx} {ρ : Rho} {μ : Mu} {P P' : Know} {s s' : Shared}

theorem hideAll_keeps_of {h h' : Heap} {l : List Addr} {b : Addr} {o : Obj} (hb : b ∉ l) (e : h.get? b = some o) (k : (hideAll h l).StaysIn h') : h'.get? b = some o := k b o (hideAll_get l e hb)

/-- the state behind a change of frames' slots and of objects apart -/
theorem Sat.noted (S : Sat cx ρ μ P s) (hs : Same s s') (W : List Addr) (hW : ∀ a ∈ W, Apart cx μ P a) (hk : (hideAll s.heap (cx.fa ++ W)).StaysIn s'.heap) (hsl : s.heap.UpToSlots s'.heap) : Sat cx ρ μ P s' := by
  obtain ⟨m, hm, hv⟩ := S.ns
  have keep : ∀ b o, b ∉ cx.fa → b ∉ W → s.heap.get? b = some o → s'.heap.get? b = some o := fun b o h1 h2 e => hideAll_keeps_of (fun q => (List.mem_append.mp q).elim h1 h2) e hk
  have hWL : cx.L ∉ W := fun h => (hW _ h).2.2.2.1 rfl
  have hWP : ∀ a o, P a o → a ∉ W := fun a o h q => (hW _ q).2.1 o h
  have hWm : ∀ e ∈ μ, e.1 ∉ W := fun e he q => (hW _ q).1 (List.mem_map_of_mem he)
  have hWf : ∀ b ∈ cx.fa, b ∉ W := fun b hb q => (hW _ q).2.2.1 hb
  have hWk : ∀ b o, cx.Kp b o → b ∉ W := fun b o hb q => (hW _ q).2.2.2.2.1 o hb
  have hWb : ∀ b o, cx.g.base.get? b = some o → b ∉ W := fun b o hb q => by rw [(hW _ q).2.2.2.2.2] at hb; cases hb
  have hfb : ∀ b o, cx.g.base.get? b = some o → b ∉ cx.fa := fun b o hb q => by rw [(S.fr.mem q).1] at hb; cases hb
  have fslot : ∀ b ∈ cx.fa, ∀ o, s.heap.get? b = some o → ∃ sl, s'.heap.get? b = some { o with slots := sl } := fun b hb o e => by
    obtain ⟨_, o', h1, h2⟩ := S.fr.mem hb
    rw [e] at h1; cases h1
    exact hsl b o e h2
  refine ⟨S.same.trans hs, ⟨m, ?_, hv⟩, fun a o h => keep _ _ (fun q => (S.sp a (.inr (.inl q))).2 o h) (hWP a o h) (S.fz a o h), fun e he => ?_, S.nd, S.dj, fun b o e => keep b o (hfb b o e) (hWb b o e) (S.stays b o e), S.mb, ?_, fun b o hb => ?_, S.sp, S.lb, S.lk⟩
  · exact hsl.ns hm
  · obtain ⟨o, h1, h2⟩ := S.mu e he
    exact ⟨o, keep _ _ (fun q => (S.sp e.1 (.inr (.inl q))).1 (List.mem_map_of_mem he)) (hWm e he) h1, h2⟩
  · exact funFrames_of S.fr fun b o hb e hd => by
      obtain ⟨sl, h⟩ := fslot b hb o e
      exact ⟨_, h, hd⟩
  · obtain ⟨h1, sl, h2⟩ := S.kp b o hb
    refine ⟨fun h => keep _ _ h (hWk b o hb) (h1 h), ?_⟩
    by_cases hf : b ∈ cx.fa
    · obtain ⟨sl', h3⟩ := fslot b hf _ h2
      exact ⟨sl', h3⟩
    · exact ⟨o.slots, keep _ _ hf (hWk b o hb) (h1 hf)⟩
end
end Mine
end

section
open PySem PySem.W PySem.Calls PyProof.Rows
namespace Mine
section
variable {M : Model} {A : Around} {E : Value → Shared → Prop} {s : Shared}

/-- a new entry of a traceback: what it leaves as it was -/
theorem entry_new {base : Heap} {env : Env} {outer : List Env} {L e : Addr} {oe : Obj} {vs : Array Value} {head : Value} {hadNext : Bool} {Q : Unit → Shared → Prop}
    (hfr : A.frames = some (env :: outer)) (hl : s.heap.FunFrames base (env :: outer)) (hf : env.frame = some L)
    (he : s.heap.get? e = some oe) (hd : oe.data = .fields vs) (hsz : 1 < vs.size)
    (h : ∀ h' T oT ts, (∀ b o, b ∉ (env :: outer).filterMap (·.frame) → b ≠ e → s.heap.get? b = some o → h'.get? b = some o) → s.heap.UpToSlots h' → s.heap.get? T = none →
      h'.get? e = some { oe with data := .fields (vs.setIfInBounds 1 (.ref T)) } → h'.get? T = some oT → oT.data = .fields ts → ts[3]? = some (rawInt L) → T ≠ e → Q () { s with heap := h' }) :
    wpAny M A (do let a ← frameOf env; let pl ← entryPlaceOf L hadNext; let b ← EntryCells.newEntry head a .none (rawInt L) .none pl; setField (.ref e) 1 b) Q E s := by
  have hene : e ∉ (env :: outer).filterMap (·.frame) := fun hm => by
    obtain ⟨_, o, ho, hnf⟩ := hl.mem hm
    rw [he] at ho; cases ho; exact hnf vs hd
  refine wpAny_bind (wpAny_frameOf_fun hfr hl hf fun h₁ hs₁ => ?_)
  refine wpAny_bind (wpAny_entryPlaceOf fun pl hpl => ?_)
  unfold EntryCells.newEntry newFields
  refine wpAny_bind (wpAny_newObj_type ?_ (hpl.sizeOk5 _ _ _ _ _))
  have he₁ : h₁.get? e = some oe := (hs₁.2.1 e hene).trans he
  generalize hT : ({ cls := .type "traceback", dict := none, data := .fields ([head, .ref L, .none, rawInt L, .none] ++ (if pl.isEmpty then List.replicate 6 Value.none else pl)).toArray } : Obj) = oT
  have hTd : oT.data = .fields ([head, .ref L, .none, rawInt L, .none] ++ (if pl.isEmpty then List.replicate 6 Value.none else pl)).toArray := by rw [← hT]
  have hTf : oT.isFreed = false := by rw [← hT]; rfl
  have he₂ := Heap.get?_push_of_some oT he₁
  refine wpAny_setField he₂ hd hsz ?_
  have hTe : h₁.objs.size ≠ e := Nat.ne_of_gt (Heap.lt_size he₁)
  have hd₃ := Obj.data_mapFields hd (·.setIfInBounds 1 (Value.ref h₁.objs.size))
  have he₃ := Heap.get?_update_self (Obj.mapFields (·.setIfInBounds 1 (Value.ref h₁.objs.size))) he₂ (Obj.isFreed_of_fields hd₃)
  have hT₃ := (Heap.get?_update_other (h₁.push oT) (Obj.mapFields (·.setIfInBounds 1 (Value.ref h₁.objs.size))) (Ne.symm hTe)).trans (Heap.get?_push_size h₁ hTf)
  have keep : ∀ b o, b ≠ e → h₁.get? b = some o → ((h₁.push oT).update e (Obj.mapFields (·.setIfInBounds 1 (Value.ref h₁.objs.size)))).get? b = some o := fun b o hbe hb => by
    rw [Heap.get?_update_other _ _ (Ne.symm hbe)]
    exact Heap.get?_push_of_some _ hb
  refine h _ h₁.objs.size oT _ (fun b o hb hbe e => keep b o hbe ((hs₁.2.1 b hb).trans e)) (fun b o hb hnf => ?_) ?_ ?_ hT₃ hTd rfl hTe
  · obtain ⟨sl, hs⟩ := hs₁.2.2 b o hb
    refine ⟨sl, keep b _ (fun q => ?_) hs⟩
    subst q; rw [he] at hb; cases hb; exact hnf vs hd
  · rw [hs₁.1]; exact none_at_size s.heap
  · obtain ⟨c, dc, dt, sl⟩ := oe
    dsimp only at hd; subst hd
    exact he₃
end

section
variable {n : Nat} {cx : Cx} {ρ : Rho} {μ : Mu} {P P' : Know} {s s' : Shared}

theorem ExIn.ref {e : Value} {x : Ex} {st : Tr} (X : ExIn cx μ P s e x st) : ∃ a, e = .ref a := by
  obtain ⟨e', _, _, _, _, h, _⟩ := X.ex; exact ⟨e', h⟩

/-- the frame's note upon an exception that flies through it -/
theorem note_frame {outer : List Env} {Lf : Addr} {e : Value} {x : Ex} {st : Tr} {Q : Unit → Shared → Prop} {E : Value → Shared → Prop} (hA : cx.A.frames = some cx.fs) (hfs : cx.fs = cx.env :: outer) (hf : cx.env.frame = some Lf) (S : Sat cx ρ μ P s) (X : ExIn cx μ P s e x st)
    (h : ∀ s', Sat cx ρ μ P s' → ExIn cx μ P s' e x .noted → Q () s') : wpAny cx.M cx.A (noteFrame e cx.env) Q E s := by
  obtain ⟨e', dd, oe, vs, t, rfl, he, hcls, hdict, hd, h0, hedd, ⟨mA, hns, tv, htold, hin⟩, hae, hadd, hst⟩ := X.ex
  have hffa : ∀ b, b ∈ cx.fa → b ∈ (cx.env :: outer).filterMap (·.frame) := fun b hb => by rw [← hfs]; exact hb
  have hffb : ∀ b, b ∈ (cx.env :: outer).filterMap (·.frame) → b ∈ cx.fa := fun b hb => by show b ∈ cx.fs.filterMap (·.frame); rw [hfs]; exact hb
  have fin : ∀ (h₀ : Heap) (head : Value) (hn : Bool) (Wx : List Addr), (∀ a ∈ Wx, Apart cx μ P a) → e' ∉ Wx → dd ∉ Wx → (∀ b o, b ∉ Wx → s.heap.get? b = some o → h₀.get? b = some o) → (∀ b, s.heap.get? b = none → h₀.get? b = none) → s.heap.UpToSlots h₀ → s.heap.objs.size = h₀.objs.size → (∀ b, h₀.get? b = none → s.heap.get? b = none) →
      wpAny cx.M cx.A (do let a ← frameOf cx.env; let pl ← entryPlaceOf Lf hn; let b ← EntryCells.newEntry head a .none (rawInt Lf) .none pl; setField (.ref e') 1 b) Q E { s with heap := h₀ } := by
    intro h₀ head hn Wx hWx heW hddW hk hn0 hsl hsz hn1
    have he₀ := hk e' oe heW he
    have S₀ : Sat cx ρ μ P { s with heap := h₀ } := S.away ⟨_, s.toks, rfl⟩ Wx hWx hk
    refine entry_new (hA.trans (congrArg some hfs)) (hfs ▸ S₀.fr) hf he₀ hd ?_ fun h' T oT ts k1 k2 k3 k4 k5 k6 k7 k8 => ?_
    · have := (Array.getElem?_eq_some_iff.mp h0.1).1
      cases st with
      | raw => exact (Array.getElem?_eq_some_iff.mp hst).1
      | out => obtain ⟨_, _, _, a1, _⟩ := hst; exact (Array.getElem?_eq_some_iff.mp a1).1
      | noted => obtain ⟨_, _, _, _, a1, _⟩ := hst; exact (Array.getElem?_eq_some_iff.mp a1).1
    · have hvs : 1 < vs.size := by
        cases st with
        | raw => exact (Array.getElem?_eq_some_iff.mp hst).1
        | out => obtain ⟨_, _, _, a1, _⟩ := hst; exact (Array.getElem?_eq_some_iff.mp a1).1
        | noted => obtain ⟨_, _, _, _, a1, _⟩ := hst; exact (Array.getElem?_eq_some_iff.mp a1).1
      have hT : Apart cx μ P T := S₀.apart_new k3
      have ddf : dd ∉ cx.fa := hadd.2.2.1
      have hdd' : h'.Ns1 dd mA := by
        obtain ⟨o, es, ep, q1, q2⟩ := hns
        exact ⟨o, es, ep, k1 dd o (fun q => ddf (hffb _ q)) (Ne.symm hedd) (hk dd o hddW q1), q2⟩
      have hTdd : T ≠ dd := fun q => by
        obtain ⟨o, es, ep, q1, q2⟩ := hns
        subst q
        have := hk _ o hddW q1
        rw [show h₀.get? T = none from k3] at this
        cases this
      refine h { s with heap := h' } ?_ ⟨e', dd, _, _, t, rfl, k4, hcls, hdict, rfl, by rw [Array.getElem?_setIfInBounds_ne (by decide), Array.getElem?_setIfInBounds_ne (by decide)]; exact h0, hedd, ⟨mA, hdd', tv, htold, hin⟩, hae, hadd, T, oT, ts, Lf, by simp [hvs], k8, hTdd, hT, k5, k6, hf, k7⟩
      refine Sat.noted S₀ ⟨_, s.toks, rfl⟩ [e'] (fun a ha => by rw [List.mem_singleton.mp ha]; exact hae) (fun b o hb => ?_) k2
      have hb' := of_hideAll _ hb
      have hnb : b ∉ cx.fa ++ [e'] := fun q => by rw [hideAll_none _ q] at hb; cases hb
      exact k1 b o (fun q => hnb (List.mem_append_left _ (hffb b q))) (fun q => hnb (List.mem_append_right _ (List.mem_singleton.mpr q))) hb'
  unfold noteFrame
  simp only [hf]
  cases st with
  | raw =>
    refine wpAny_bind (wpAny_field he hd hst ?_)
    rw [if_neg (by decide)]
    exact fin s.heap .none _ [] (fun _ h => by cases h) (fun h => by cases h) (fun h => by cases h) (fun _ _ _ e => e) (fun _ e => e) (Heap.UpToSlots.refl _) rfl fun _ e => e
  | out =>
    obtain ⟨T, oT, ts, a1, a2, a3, a4, a5, a6, a7⟩ := hst
    refine wpAny_bind (wpAny_field he hd a1 ?_)
    rw [if_pos (show (Value.ref T != Value.none) = true from by simp)]
    refine wpAny_bind (wpAny_field a5 a6 a7 ?_)
    rw [if_neg (show ¬ ((Value.none == rawInt Lf) = true) from by simp [rawInt])]
    refine wpAny_bind (wpAny_setField a5 a6 (Array.getElem?_eq_some_iff.mp a7).1 ?_)
    have other : ∀ b, b ≠ T → (s.heap.update T (Obj.mapFields (·.setIfInBounds 3 Value.none))).get? b = s.heap.get? b := fun b hb => Heap.get?_update_other _ _ (Ne.symm hb)
    refine fin _ _ _ [T] (fun a ha => by rw [List.mem_singleton.mp ha]; exact a4) (fun q => a2 (List.mem_singleton.mp q).symm) (fun q => a3 (List.mem_singleton.mp q).symm) (fun b o hb e => (other b fun q => hb (List.mem_singleton.mpr q)).trans e) (fun b e => ?_) (fun b o hb hnf => ?_) (by simp) fun b e => ?_
    · by_cases q : b = T
      · subst q; rw [a5] at e; cases e
      · exact (other b q).trans e
    · refine ⟨o.slots, (other b fun q => ?_).trans hb⟩
      subst q; rw [a5] at hb; cases hb; exact hnf _ a6
    · by_cases q : b = T
      · subst q; rw [Heap.get?_update_self _ a5 (Obj.isFreed_of_fields (Obj.data_mapFields a6 _))] at e; cases e
      · exact (other b q).symm.trans e
  | noted =>
    obtain ⟨T, oT, ts, Lf', a1, a2, a3, a4, a5, a6, a7, a8⟩ := hst
    rw [hf] at a7; cases a7
    refine wpAny_bind (wpAny_field he hd a1 ?_)
    rw [if_pos (show (Value.ref T != Value.none) = true from by simp)]
    refine wpAny_bind (wpAny_field a5 a6 a8 ?_)
    rw [if_pos (show (rawInt Lf == rawInt Lf) = true from by simp)]
    exact wpAny_pure (h s S X)

/-- the flight's mark: this frame, or none -/
theorem set_flight {Lf : Addr} {e : Value} {x : Ex} {st : Tr} {Q : Unit → Shared → Prop} {E : Value → Shared → Prop} (fr : Option Addr) (hfr : fr = some Lf ∨ fr = none) (hf : cx.env.frame = some Lf) (hnr : st ≠ .raw) (S : Sat cx ρ μ P s) (X : ExIn cx μ P s e x st)
    (h : ∀ s', Sat cx ρ μ P s' → ExIn cx μ P s' e x (if fr = none then .out else .noted) → Q () s') : wpAny cx.M cx.A (setFlight e fr) Q E s := by
  obtain ⟨e', dd, oe, vs, t, rfl, he, hcls, hdict, hd, h0, hedd, ⟨mA, hns, tv, htold, hin⟩, hae, hadd, hst⟩ := X.ex
  have : ∃ T oT ts, vs[1]? = some (.ref T) ∧ T ≠ e' ∧ T ≠ dd ∧ Apart cx μ P T ∧ s.heap.get? T = some oT ∧ oT.data = .fields ts ∧ 3 < ts.size := by
    cases st with
    | raw => exact (hnr rfl).elim
    | out => obtain ⟨T, oT, ts, a1, a2, a3, a4, a5, a6, a7⟩ := hst; exact ⟨T, oT, ts, a1, a2, a3, a4, a5, a6, (Array.getElem?_eq_some_iff.mp a7).1⟩
    | noted => obtain ⟨T, oT, ts, _, a1, a2, a3, a4, a5, a6, _, a7⟩ := hst; exact ⟨T, oT, ts, a1, a2, a3, a4, a5, a6, (Array.getElem?_eq_some_iff.mp a7).1⟩
  obtain ⟨T, oT, ts, a1, a2, a3, a4, a5, a6, a7⟩ := this
  unfold setFlight
  refine wpAny_bind (wpAny_field he hd a1 ?_)
  rw [if_pos (show (Value.ref T != Value.none) = true from by simp)]
  refine wpAny_setField a5 a6 a7 ?_
  have other : ∀ b, b ≠ T → (s.heap.update T (Obj.mapFields (·.setIfInBounds 3 (fr.elim Value.none fun f => rawInt f)))).get? b = s.heap.get? b := fun b hb => Heap.get?_update_other _ _ (Ne.symm hb)
  have hT := Heap.get?_update_self (Obj.mapFields (·.setIfInBounds 3 (fr.elim Value.none fun f => rawInt f))) a5 (Obj.isFreed_of_fields (Obj.data_mapFields a6 _))
  refine h _ (S.away ⟨_, s.toks, rfl⟩ [T] (fun a ha => by rw [List.mem_singleton.mp ha]; exact a4) fun b o hb e => (other b fun q => hb (List.mem_singleton.mpr q)).trans e)
    ⟨e', dd, oe, vs, t, rfl, (other e' (Ne.symm a2)).trans he, hcls, hdict, hd, h0, hedd, ⟨mA, ?_, tv, htold, hin⟩, hae, hadd, ?_⟩
  · obtain ⟨o, es, ep, q1, q2⟩ := hns
    exact ⟨o, es, ep, (other dd (Ne.symm a3)).trans q1, q2⟩
  · rcases hfr with rfl | rfl
    · exact ⟨T, _, _, Lf, a1, a2, a3, a4, hT, Obj.data_mapFields a6 _, hf, by simp [a7]⟩
    · exact ⟨T, _, _, a1, a2, a3, a4, hT, Obj.data_mapFields a6 _, by simp [a7]⟩

theorem came_back {Lf : Addr} {e : Value} {x : Ex} {E : Value → Shared → Prop} (hf : cx.env.frame = some Lf) (S : Sat cx ρ μ P s) (X : ExIn cx μ P s e x .noted)
    (h : ∀ s', Sat cx ρ μ P s' → ExIn cx μ P s' e x .noted → E e s') : cameBackBy cx.M cx.A cx.env E e s := by
  unfold cameBackBy
  obtain ⟨e', dd, oe, vs, t, rfl, he, hcls, hdict, hd, h0, hedd, hr, hae, hadd, T, oT, ts, Lf', a1, a2, a3, a4, a5, a6, a7, a8⟩ := id X.ex
  refine wpAny_bind (wpAny_field he hd a1 ?_)
  rw [if_neg (show ¬ ((Value.ref T == Value.none) = true) from Bool.false_ne_true)]
  exact set_flight cx.env.frame (.inl hf) hf (by intro q; cases q) S X fun s' S' X' => h s' S' (by rw [hf] at X'; exact X')
end
end Mine
end

section
open PySem PySem.W PySem.Calls PyProof.Rows
namespace Mine
/-- an iterator: what it will yet hand out hangs on objects of its own and on what is known -/
structure Iter (T : Expr → Prop) (it : Addr) (J : List D → Led → Know → Prop) : Prop where
  mono : ∀ {ds : List D} {own : Led} {P P' : Know}, Le P P' → J ds own P → J ds own P'
  self : ∀ {cx : Cx} {ρ : Rho} {μ : Mu} {P : Know} {s : Shared} {ds : List D} {own : Led} {Q : Value → Shared → Prop} {E : Value → Shared → Prop}, cx.A.handled = none → Sat cx ρ μ P s → Held cx μ P own s → J ds own P → Q (.ref it) s → wpAny cx.M cx.A (pyIter (.ref it)) Q E s
  next : ∀ {cx : Cx} {ρ : Rho} {μ : Mu} {P : Know} {s : Shared} {ds : List D} {own : Led} (target : Expr) {R : Option Value → Shared → Prop} {E : Value → Shared → Prop}, T target → cx.A.handled = none → Sat cx ρ μ P s → Held cx μ P own s → J ds own P →
    (ds = [] → ∀ s', Sat cx ρ μ P s' → R none s') →
    (∀ d ds', ds = d :: ds' → ∀ v P' s', Le P P' → Sat cx ρ μ P' s' → In P' v d →
      (∀ {K : Unit → Shared → Prop} {E' : Value → Shared → Prop}, (∀ own' s'', Sat cx ρ μ P' s'' → Held cx μ P' own' s'' → J ds' own' P' → K () s'') → wpAny cx.M cx.A (letOwnedTupleGo target (.ref it) v) K E' s') → R (some v) s') →
    wpAny cx.M cx.A (pyNext (.ref it)) R E s

def goTypes : List String := ["enumerate", "zip", "dict_itemiterator", "dict_reverseitemiterator", "odict_iterator", "itertools.zip_longest", "itertools.pairwise"]
theorem go_plain {M : Model} {A : Around} {s : Shared} {target : Expr} {it : Addr} {v : Value} {ob : Obj} {T : String} {K : Unit → Shared → Prop} {E : Value → Shared → Prop} (ho : s.heap.get? it = some ob) (hc : ob.cls = .type T) (hT : goTypes.contains T = false) (h : K () s) :
    wpAny M A (letOwnedTupleGo target (.ref it) v) K E s := by
  have key : ∀ a, wpAny M A (do
      let o ← load it
      match o.cls, o.data with
      | .type n, .fields vs =>
        if goTypes.contains n && vs[0]? == some (rawInt a) then
          rule "for.unpacks-the-owned-tuple"
          updateField it 0 .none
      | _, _ => pure ()) K E s := fun a => by
    refine wpAny_bind (wpAny_load ho ?_)
    rw [hc]
    cases ob.data <;> first | exact wpAny_pure h | (dsimp only; rw [hT]; exact wpAny_pure h)
  cases target <;> first | exact wpAny_pure h | (cases v <;> first | exact wpAny_pure h | exact key _)

section
variable {n : Nat} {cx : Cx} {ρ : Rho} {μ : Mu} {P P' : Know} {s s' : Shared}

theorem Sat.known_list (S : Sat cx ρ μ P s) {l : Addr} {o : Obj} {items : Array Value} {k : Nat} (hp : P l o) (hc : o.cls = .type "list") (hd : o.data = .seq items k) : s.heap.IsList l items := ⟨o, S.fz _ _ hp, hc, k, hd⟩
theorem Held.one {it : Addr} {ob : Obj} (h : s.heap.get? it = some ob) (ha : Apart cx μ P it) : Held cx μ P [(it, ob)] s := fun e he => by
  rw [List.mem_singleton.mp he]; exact ⟨h, ha⟩

inductive JList (it : Addr) (ds : List D) (own : Led) (P : Know) : Prop
  | intro (l : Addr) (o : Obj) (vs : List Value) (k i : Nat) (ob : Obj) : P l o → o.cls = .type "list" → o.data = .seq (List.toArray vs) k → All P (vs.drop i) ds → own = [(it, ob)] → ob.cls = .type "list_iterator" → ob.data = .fields #[.ref l, .int (i : Int) 0] → JList it ds own P
theorem iter_list (it : Addr) : Iter (fun _ => True) it (JList it) where
  mono := fun hs ⟨l, o, vs, k, i, ob, h1, h2, h3, h4, r1, r2, r3⟩ => ⟨l, o, vs, k, i, ob, hs _ _ h1, h2, h3, h4.mono hs, r1, r2, r3⟩
  self := by
    rintro cx ρ μ P s ds own Q E hh S H ⟨l, o, vs, k, i, ob, h1, h2, h3, h4, rfl, h6, h7⟩ hq
    exact wpAny_pyIter_listiter (l := l) (i := i) ⟨ob, (H _ (.head _)).1, h6, h7⟩ hq
  next := by
    rintro cx ρ μ P s ds own target R E - hh S H ⟨l, o, vs, k, i, ob, h1, h2, h3, h4, rfl, h6, h7⟩ hz hn
    have hit : s.heap.IsListIter it l i := ⟨ob, (H _ (.head _)).1, h6, h7⟩
    have hl : s.heap.IsList l vs.toArray := ⟨o, S.fz _ _ h1, h2, k, h3⟩
    have hap := (H _ (.head _)).2
    cases hv : vs[i]? with
    | none =>
      have e : vs.drop i = [] := List.drop_eq_nil_of_le (List.getElem?_eq_none_iff.mp hv)
      rw [e] at h4
      cases h4
      refine wpAny_pyNext_list_end hh hit hl (by simpa using hv) fun h' hk => hz rfl _ ?_
      exact S.away ⟨_, s.toks, rfl⟩ [it] (fun a ha => by rw [List.mem_singleton.mp ha]; exact hap) fun b o hb e => hk b o (fun q => hb (List.mem_singleton.mpr q)) e
    | some v =>
      have e : vs.drop i = v :: vs.drop (i + 1) := by
        obtain ⟨hlt, q⟩ := List.getElem?_eq_some_iff.mp hv
        rw [← q]; exact List.drop_eq_getElem_cons hlt
      rw [e] at h4
      cases h4 with
      | cons hd hr =>
        refine wpAny_pyNext_list_item hit hl (x := v) (by simpa using hv) fun h' hit' hk => ?_
        have S' : Sat cx ρ μ P { s with heap := h' } := S.away ⟨_, s.toks, rfl⟩ [it] (fun a ha => by rw [List.mem_singleton.mp ha]; exact hap) fun b o hb e => (hk.2 b fun q => hb (List.mem_singleton.mpr q)).trans e
        obtain ⟨ob', g1, g2, g3⟩ := hit'
        refine hn _ _ rfl v P _ (Le.refl P) S' hd fun {K E'} hK => go_plain (s := { s with heap := h' }) g1 g2 (by decide +kernel) (hK _ _ S' (Held.one (ob := ob') g1 hap) ⟨l, o, vs, k, i + 1, ob', h1, h2, h3, hr, rfl, g2, by rw [g3]⟩)

def bInts (b : Array UInt8) : List D := b.toList.map fun c => D.int (c.toNat : Int)
def JBytes (it : Addr) (ds : List D) (own : Led) (P : Know) : Prop :=
  ∃ b t i ob, ds = (bInts b).drop i ∧ own = [(it, ob)] ∧ ob.cls = .type "bytes_iterator" ∧ ob.data = .fields #[.bytes b t, .int (i : Int) 0]
theorem iter_bytes (it : Addr) : Iter (fun _ => True) it (JBytes it) where
  mono := fun hs h => h
  self := by
    rintro cx ρ μ P s ds own Q E hh S H ⟨b, t, i, ob, rfl, rfl, h6, h7⟩ hq
    exact KBw.pyIter_self (b := b) (t := t) (i := i) ⟨ob, (H _ (.head _)).1, h6, h7⟩ hq
  next := by
    rintro cx ρ μ P s ds own target R E - hh S H ⟨b, t, i, ob, rfl, rfl, h6, h7⟩ hz hn
    have hit : KBw.IsBytesIter s.heap it b t i := ⟨ob, (H _ (.head _)).1, h6, h7⟩
    have hap := (H _ (.head _)).2
    cases hv : b[i]? with
    | none =>
      have hsz : b.size ≤ i := by simpa using hv
      have e : (bInts b).drop i = [] := List.drop_eq_nil_of_le (by simpa [bInts] using hsz)
      refine KBw.next_end hh hit hv fun h' hk => hz e _ ?_
      exact S.away ⟨_, s.toks, rfl⟩ [it] (fun a ha => by rw [List.mem_singleton.mp ha]; exact hap) fun b o hb e => hk b o (fun q => hb (List.mem_singleton.mpr q)) e
    | some v =>
      have hv' : (bInts b)[i]? = some (D.int (v.toNat : Int)) := by simp [bInts, hv]
      have e : (bInts b).drop i = D.int (v.toNat : Int) :: (bInts b).drop (i + 1) := by
        obtain ⟨hlt, q⟩ := List.getElem?_eq_some_iff.mp hv'
        rw [← q]; exact List.drop_eq_getElem_cons hlt
      refine KBw.next_item hit hv fun h' hit' hk => ?_
      have S' : Sat cx ρ μ P { s with heap := h', toks := s.toks + 1 } := S.away ⟨_, s.toks + 1, rfl⟩ [it] (fun a ha => by rw [List.mem_singleton.mp ha]; exact hap) fun b o hb e => (hk.2 b fun q => hb (List.mem_singleton.mpr q)).trans e
      obtain ⟨ob', g1, g2, g3⟩ := hit'
      refine hn _ _ e _ P _ (Le.refl P) S' (.int _ _) fun {K E'} hK => go_plain (s := { s with heap := h', toks := s.toks + 1 }) g1 g2 (by decide +kernel) (hK _ _ S' (Held.one (ob := ob') g1 hap) ⟨b, t, i + 1, ob', rfl, rfl, g2, by rw [g3]⟩)

def rInts (a : Int) (k : Nat) : List D := (List.range k).map fun (i : Nat) => D.int (a + (i : Int))
def JRange (it : Addr) (ds : List D) (own : Led) (P : Know) : Prop :=
  ∃ (a : Int) (k : Nat), ds = rInts a k ∧ own = [(it, { cls := .type "range_iterator", dict := none, data := .fields #[rawInt a, rawInt (k : Int), rawInt 1], slots := #[] })]
theorem rInts_succ (a : Int) (k : Nat) : rInts a (k + 1) = D.int a :: rInts (a + 1) k := by
  unfold rInts
  rw [List.range_succ_eq_map, List.map_cons, List.map_map]
  have h0 : D.int (a + ((0 : Nat) : Int)) = D.int a := by simp
  rw [h0]
  congr 1
  refine List.map_congr_left fun i _ => ?_
  show D.int (a + ((i + 1 : Nat) : Int)) = D.int (a + 1 + (i : Int))
  congr 1
  push_cast; omega
theorem iter_range (it : Addr) : Iter (fun _ => True) it (JRange it) where
  mono := fun hs h => h
  self := by
    rintro cx ρ μ P s ds own Q E hh S H ⟨a, k, rfl, rfl⟩ hq
    exact (Walks.range (prog := cx.g.prog) (w := cx.g.w) hh it a 1 k).self 0 s Q E (by simpa using (H _ (.head _)).1) hq
  next := by
    rintro cx ρ μ P s ds own target R E - hh S H ⟨a, k, rfl, rfl⟩ hz hn
    have hit : IsRangeIter s.heap it a (k : Int) 1 := (H _ (.head _)).1
    have hap := (H _ (.head _)).2
    cases k with
    | zero =>
      refine wpAny_pyNext_range_end hh hit (by simp) fun h' hk => hz rfl _ ?_
      exact S.away ⟨_, s.toks, rfl⟩ [it] (fun a ha => by rw [List.mem_singleton.mp ha]; exact hap) fun b o hb e => hk b o (fun q => hb (List.mem_singleton.mpr q)) e
    | succ k =>
      refine wpAny_pyNext_range_item hit (by omega) fun h' hit' hk => ?_
      have S' : Sat cx ρ μ P { s with heap := h', toks := s.toks + 1 } := S.away ⟨_, s.toks + 1, rfl⟩ [it] (fun a ha => by rw [List.mem_singleton.mp ha]; exact hap) fun b o hb e => (hk.2 b fun q => hb (List.mem_singleton.mpr q)).trans e
      have g1 : IsRangeIter h' it (a + 1) (k : Int) 1 := by
        have : ((k + 1 : Nat) : Int) - 1 = (k : Int) := by push_cast; omega
        rw [this] at hit'; exact hit'
      refine hn _ _ (rInts_succ a k) _ P _ (Le.refl P) S' (.int _ _) fun {K E'} hK => go_plain (s := { s with heap := h', toks := s.toks + 1 }) (T := "range_iterator") g1 rfl (by decide +kernel) (hK _ _ S' (Held.one g1 hap) ⟨a + 1, k, rfl, rfl⟩)

theorem Apart.add {cx : Cx} {μ : Mu} {P : Know} {a b : Addr} {o : Obj} (h : Apart cx μ P b) (hn : b ≠ a) : Apart cx μ (P.add a o) b :=
  ⟨h.1, fun x q => by
    rcases q with q | ⟨q, _⟩
    · exact h.2.1 x q
    · exact hn q, h.2.2⟩
abbrev IsTupleT (t : Expr) : Prop := ∃ es k p, t = .Tuple es k p
def enumD : Nat → List D → List D
  | _, [] => []
  | i, d :: ds => .tuple [.int (i : Int), d] :: enumD (i + 1) ds
abbrev enumObj (it : Addr) (i : Int) (old : Value) : Obj := { cls := .type "enumerate", dict := none, data := .fields #[.none, .bool false, .ref it, rawInt i, .none, old], slots := #[] }
inductive JEnum (e : Addr) (ds : List D) (own : Led) (P : Know) : Prop
  | intro (it l : Addr) (o : Obj) (vs : List Value) (k i : Nat) (ob : Obj) (old : Value) (es : List D) : P l o → o.cls = .type "list" → o.data = .seq (List.toArray vs) k → All P (vs.drop i) es → ds = enumD i es → own = [(e, enumObj it (i : Int) old), (it, ob)] → e ≠ it → ob.cls = .type "list_iterator" → ob.data = .fields #[.ref l, .int (i : Int) 0] → JEnum e ds own P
theorem iter_enum (e : Addr) : Iter IsTupleT e (JEnum e) where
  mono := fun hs ⟨it, l, o, vs, k, i, ob, old, es, h1, h2, h3, h4, r1, r2, r3, r4, r5⟩ => ⟨it, l, o, vs, k, i, ob, old, es, hs _ _ h1, h2, h3, h4.mono hs, r1, r2, r3, r4, r5⟩
  self := by
    rintro cx ρ μ P s ds own Q E hh S H ⟨it, l, o, vs, k, i, ob, old, es, h1, h2, h3, h4, rfl, rfl, h5, h6, h7⟩ hq
    exact wpAny_pyIter_enum (H _ (.head _)).1 hq
  next := by
    rintro cx ρ μ P s ds own target R E ⟨elts, x1, tp, rfl⟩ hh S H ⟨it, l, o, vs, k, i, ob, old, es, h1, h2, h3, h4, rfl, rfl, h5, h6, h7⟩ hz hn
    have he : IsEnum s.heap e it i old := (H _ (.head _)).1
    have hit : s.heap.IsListIter it l i := ⟨ob, (H _ (.tail _ (.head _))).1, h6, h7⟩
    have hl : s.heap.IsList l vs.toArray := ⟨o, S.fz _ _ h1, h2, k, h3⟩
    have hap1 := (H _ (.head _)).2
    have hap2 := (H _ (.tail _ (.head _))).2
    have hW : ∀ a ∈ [e, it], Apart cx μ P a := fun a ha => by
      rcases List.mem_cons.mp ha with rfl | ha
      · exact hap1
      · rw [List.mem_singleton.mp ha]; exact hap2
    cases hv : vs[i]? with
    | none =>
      have q : vs.drop i = [] := List.drop_eq_nil_of_le (List.getElem?_eq_none_iff.mp hv)
      rw [q] at h4
      cases h4
      refine wpAny_pyNext_enum_end hh he hit hl (by simpa using hv) fun h' hk => hz rfl _ ?_
      exact S.away ⟨_, s.toks, rfl⟩ [e, it] hW fun b o hb q => hk b o (fun q => hb (by rw [q]; exact .tail _ (.head _))) q
    | some v =>
      have q : vs.drop i = v :: vs.drop (i + 1) := by
        obtain ⟨hlt, q⟩ := List.getElem?_eq_some_iff.mp hv
        rw [← q]; exact List.drop_eq_getElem_cons hlt
      rw [q] at h4
      cases h4 with
      | cons hd hr =>
        refine wpAny_pyNext_enum_item he hit hl (x := v) (by simpa using hv) h5 fun h' g1 g2 g3 g4 g5 => ?_
        have hk : ∀ b o, b ∉ [e, it] → s.heap.get? b = some o → h'.get? b = some o := fun b o hb q => g5 b o (fun q => hb (by rw [q]; exact .head _)) (fun q => hb (by rw [q]; exact .tail _ (.head _))) q
        have S' : Sat cx ρ μ (P.add s.heap.objs.size { cls := .type "tuple", data := .seq #[.int i s.toks, v] }) { s with heap := h', toks := s.toks + 1 } :=
          S.move ⟨_, _, rfl⟩ [e, it] hW hk (P.le_add _ _) fun b x h => h.imp id fun ⟨e1, e2⟩ => by subst e1; subst e2; exact ⟨g3, none_at_size _⟩
        refine hn _ _ rfl _ _ _ (P.le_add _ _) S' (.tuple (vs := [.int i s.toks, v]) (n := 0) (P.add_self _ _) ⟨rfl, rfl, rfl⟩ rfl (.cons (.int _ _) (.cons (hd.mono (P.le_add _ _)) .nil))) fun {K E'} hK => ?_
        have apE : Apart cx μ (P.add s.heap.objs.size { cls := .type "tuple", data := .seq #[.int i s.toks, v] }) e := hap1.add (Nat.ne_of_lt (Heap.lt_size he))
        have apI : Apart cx μ (P.add s.heap.objs.size { cls := .type "tuple", data := .seq #[.int i s.toks, v] }) it := hap2.add (by obtain ⟨_, q, _⟩ := hit; exact Nat.ne_of_lt (Heap.lt_size q))
        refine wpAny_letOwnedTupleGo_enum (s := { s with heap := h', toks := s.toks + 1 }) g1 fun h'' k1 k2 => ?_
        have S'' : Sat cx ρ μ (P.add s.heap.objs.size { cls := .type "tuple", data := .seq #[.int i s.toks, v] }) { s with heap := h'', toks := s.toks + 1 } :=
          S'.away ⟨_, s.toks + 1, rfl⟩ [e] (fun a ha => by rw [List.mem_singleton.mp ha]; exact apE) fun b o hb q => (k2.2 b fun q => hb (List.mem_singleton.mpr q)).trans q
        obtain ⟨ob', q1, q2, q3⟩ := g2
        refine hK _ _ S'' (fun x hx => ?_) ⟨it, l, o, vs, k, i + 1, ob', v, _, .inl h1, h2, h3, hr.mono (P.le_add _ _), rfl, rfl, h5, q2, by rw [q3]⟩
        rcases List.mem_cons.mp hx with rfl | hx
        · have q4 : ((i + 1 : Nat) : Int) = (i : Int) + 1 := by push_cast; rfl
          exact ⟨by rw [q4]; exact k1, apE⟩
        · rw [List.mem_singleton.mp hx]
          exact ⟨(k2.2 it (Ne.symm h5)).trans q1, apI⟩

def zipD (as bs : List D) : List D := List.zipWith (fun a b => D.tuple [a, b]) as bs
abbrev zipObj (TI TO : Addr) : Obj := { cls := .type "zip", dict := none, data := .fields #[.none, .bool false, .bool false, .ref TI, .ref TO], slots := #[] }
abbrev pairObj (a b : Value) : Obj := { cls := .type "tuple", data := .seq #[a, b] }
inductive JZip (z : Addr) (ds : List D) (own : Led) (P : Know) : Prop
  | intro (TI TO i1 i2 l1 l2 : Addr) (o1 o2 : Obj) (vs ws : List Value) (k1 k2 i : Nat) (a b : Value) (ob1 ob2 : Obj) (es fs : List D) : P l1 o1 → o1.cls = .type "list" → o1.data = .seq (List.toArray vs) k1 → P l2 o2 → o2.cls = .type "list" → o2.data = .seq (List.toArray ws) k2 →
    All P (vs.drop i) es → All P (ws.drop i) fs → ds = zipD es fs → own = [(z, zipObj TI TO), (TO, pairObj a b), (i1, ob1), (i2, ob2), (TI, pairObj (.ref i1) (.ref i2))] → ZipApart z TI TO i1 i2 l1 l2 →
    (ob1.cls = .type "list_iterator" ∧ ob1.data = .fields #[.ref l1, .int (i : Int) 0]) → (ob2.cls = .type "list_iterator" ∧ ob2.data = .fields #[.ref l2, .int (i : Int) 0]) → JZip z ds own P
theorem five {α : Type} {A B C D E : α} {p : α → Prop} (H : ∀ e ∈ [A, B, C, D, E], p e) : p A ∧ p B ∧ p C ∧ p D ∧ p E := ⟨H _ (by simp), H _ (by simp), H _ (by simp), H _ (by simp), H _ (by simp)⟩
theorem five_of {α : Type} {A B C D E : α} {p : α → Prop} (a : p A) (b : p B) (c : p C) (d : p D) (e : p E) : ∀ x ∈ [A, B, C, D, E], p x := fun x hx => by
  simp only [List.mem_cons, List.not_mem_nil, or_false] at hx
  rcases hx with rfl | rfl | rfl | rfl | rfl <;> assumption
theorem four_of {α : Type} {A B C D : α} {p : α → Prop} (a : p A) (b : p B) (c : p C) (d : p D) : ∀ x ∈ [A, B, C, D], p x := fun x hx => by
  simp only [List.mem_cons, List.not_mem_nil, or_false] at hx
  rcases hx with rfl | rfl | rfl | rfl <;> assumption
theorem four_out {α : Type} {A B C D x : α} (hx : x ∉ [A, B, C, D]) : x ≠ A ∧ x ≠ B ∧ x ≠ C ∧ x ≠ D := by
  simp only [List.mem_cons, List.not_mem_nil, or_false, not_or] at hx
  exact hx
theorem iter_zip (z : Addr) : Iter IsTupleT z (JZip z) where
  mono := fun hs ⟨TI, TO, i1, i2, l1, l2, o1, o2, vs, ws, k1, k2, i, a, b, ob1, ob2, es, fs, h1, h2, h3, h4, h5, h6, h7, h8, r1, r2, r3, r4, r5⟩ => ⟨TI, TO, i1, i2, l1, l2, o1, o2, vs, ws, k1, k2, i, a, b, ob1, ob2, es, fs, hs _ _ h1, h2, h3, hs _ _ h4, h5, h6, h7.mono hs, h8.mono hs, r1, r2, r3, r4, r5⟩
  self := by
    rintro cx ρ μ P s ds own Q E hh S H ⟨TI, TO, i1, i2, l1, l2, o1, o2, vs, ws, k1, k2, i, a, b, ob1, ob2, es, fs, h1, h2, h3, h4, h5, h6, h7, h8, rfl, rfl, r1, r2, r3⟩ hq
    exact wpAny_pyIter_zip (H _ (.head _)).1 hq
  next := by
    rintro cx ρ μ P s ds own target R E ⟨elts, x1, tp, rfl⟩ hh S H ⟨TI, TO, i1, i2, l1, l2, o1, o2, vs, ws, k1, k2, i, a, b, ob1, ob2, es, fs, h1, h2, h3, h4, h5, h6, h7, h8, rfl, rfl, D, ⟨q1, q2⟩, q3, q4⟩ hz hn
    obtain ⟨⟨hZ, apz⟩, ⟨hTO, apTO⟩, ⟨go1, api1⟩, ⟨go2, api2⟩, ⟨hTI, apTI⟩⟩ := five H
    have hi1 : s.heap.IsListIter i1 l1 i := ⟨ob1, go1, q1, q2⟩
    have hi2 : s.heap.IsListIter i2 l2 i := ⟨ob2, go2, q3, q4⟩
    have hl1 : s.heap.IsList l1 vs.toArray := ⟨o1, S.fz _ _ h1, h2, k1, h3⟩
    have hl2 : s.heap.IsList l2 ws.toArray := ⟨o2, S.fz _ _ h4, h5, k2, h6⟩
    have hW : ∀ x ∈ [z, TO, i1, i2], Apart cx μ P x := four_of apz apTO api1 api2
    have fin : (vs[i]? = none ∨ ws[i]? = none) → zipD es fs = [] → wpAny cx.M cx.A (pyNext (.ref z)) R E s := fun hv hd => by
      refine wpAny_pyNext_zip_end hh D hZ hTI hTO hi1 hi2 hl1 hl2 (by simpa using hv) fun h' hk => hz hd _ ?_
      exact S.away ⟨_, s.toks, rfl⟩ _ hW fun x o hx q => let ⟨a1, a2, a3, a4⟩ := four_out hx; hk x o a1 a2 a3 a4 q
    cases hv : vs[i]? with
    | none =>
      have q : vs.drop i = [] := List.drop_eq_nil_of_le (List.getElem?_eq_none_iff.mp hv)
      rw [q] at h7
      cases h7
      exact fin (.inl hv) rfl
    | some v =>
      cases hw : ws[i]? with
      | none =>
        have q : ws.drop i = [] := List.drop_eq_nil_of_le (List.getElem?_eq_none_iff.mp hw)
        rw [q] at h8
        cases h8
        exact fin (.inr hw) (by cases es <;> rfl)
      | some w =>
        have q : vs.drop i = v :: vs.drop (i + 1) := by
          obtain ⟨hlt, q⟩ := List.getElem?_eq_some_iff.mp hv
          rw [← q]; exact List.drop_eq_getElem_cons hlt
        have q' : ws.drop i = w :: ws.drop (i + 1) := by
          obtain ⟨hlt, q⟩ := List.getElem?_eq_some_iff.mp hw
          rw [← q]; exact List.drop_eq_getElem_cons hlt
        rw [q] at h7
        rw [q'] at h8
        cases h7 with
        | cons hd hr =>
          cases h8 with
          | cons hd' hr' =>
            refine wpAny_pyNext_zip_item D hZ hTI hTO hi1 hi2 hl1 hl2 (x := v) (y := w) (by simpa using hv) (by simpa using hw) fun h' g1 g2 g3 g4 g5 g6 g7 => ?_
            have hk : ∀ x o, x ∉ [z, TO, i1, i2] → s.heap.get? x = some o → h'.get? x = some o := fun x o hx q => let ⟨a1, a2, a3, a4⟩ := four_out hx; g7 x o a1 a2 a3 a4 q
            have lt : ∀ {x : Addr} {o : Obj}, s.heap.get? x = some o → x ≠ s.heap.objs.size := fun q => Nat.ne_of_lt (Heap.lt_size q)
            have S' : Sat cx ρ μ (P.add s.heap.objs.size (pairObj v w)) { s with heap := h' } :=
              S.move ⟨_, _, rfl⟩ _ hW hk (P.le_add _ _) fun b x h => h.imp id fun ⟨e1, e2⟩ => by subst e1; subst e2; exact ⟨g5, none_at_size _⟩
            refine hn _ _ rfl _ _ _ (P.le_add _ _) S' (.tuple (vs := [v, w]) (n := 0) (P.add_self _ _) ⟨rfl, rfl, rfl⟩ rfl (.cons (hd.mono (P.le_add _ _)) (.cons (hd'.mono (P.le_add _ _)) .nil))) fun {K E'} hK => ?_
            have apz' := apz.add (o := pairObj v w) (lt hZ)
            have apTO' := apTO.add (o := pairObj v w) (lt hTO)
            have apTI' := apTI.add (o := pairObj v w) (lt hTI)
            have api1' := api1.add (o := pairObj v w) (lt go1)
            have api2' := api2.add (o := pairObj v w) (lt go2)
            refine wpAny_letOwnedTupleGo_zip (s := { s with heap := h' }) g1 fun h'' k1' k2' => ?_
            have S'' : Sat cx ρ μ (P.add s.heap.objs.size (pairObj v w)) { s with heap := h'' } :=
              S'.away ⟨_, s.toks, rfl⟩ [z] (fun a ha => by rw [List.mem_singleton.mp ha]; exact apz') fun b o hb q => (k2'.2 b fun q => hb (List.mem_singleton.mpr q)).trans q
            obtain ⟨ob1', a1, a2, a3⟩ := g3
            obtain ⟨ob2', b1, b2, b3⟩ := g4
            have gTI : h'.get? TI = some (pairObj (.ref i1) (.ref i2)) := g7 TI _ D.TIz D.TITO D.TIi1 D.TIi2 hTI
            exact hK [(z, zipObj TI TO), (TO, pairObj v w), (i1, ob1'), (i2, ob2'), (TI, pairObj (.ref i1) (.ref i2))] _ S'' (five_of ⟨k1', apz'⟩ ⟨(k2'.2 TO D.TOz).trans g2, apTO'⟩ ⟨(k2'.2 i1 D.i1z).trans a1, api1'⟩ ⟨(k2'.2 i2 D.i2z).trans b1, api2'⟩ ⟨(k2'.2 TI D.TIz).trans gTI, apTI'⟩) ⟨TI, TO, i1, i2, l1, l2, o1, o2, vs, ws, k1, k2, i + 1, v, w, ob1', ob2', _, _, .inl h1, h2, h3, .inl h4, h5, h6, hr.mono (P.le_add _ _), hr'.mono (P.le_add _ _), rfl, rfl, D, ⟨a2, by rw [a3]⟩, ⟨b2, by rw [b3]⟩⟩
end
end Mine
end

section
open PySem PySem.W PySem.Calls PyProof.Rows
namespace Mine
section
variable {n : Nat} {cx : Cx} {ρ : Rho} {μ : Mu} {P P' : Know} {s s' : Shared} {X : Ex → Rho → Mu → Prop} {Q : D → Rho → Mu → Prop} {QF : FlowD → Rho → Mu → Prop} {QL : List D → Rho → Mu → Prop} {QU : Unit → Rho → Mu → Prop} {pos : Pos}

theorem Sat.K (S : Sat cx ρ μ P s) (C : CxOk n cx) : cx.g.K.In s.heap := fun a o h => S.stays a o (C.K a o h)

/-- a tree that waits for arguments -/
abbrev OkC (cx : Cx) (f : Value) (ds : List D) (ρ : Rho) (μ : Mu) (Q : D → Rho → Mu → Prop) (X : Ex → Rho → Mu → Prop) : Prop := Ok1 cx All In (fun vs => call f vs) ds ρ μ Q X
abbrev kCall (cx : Cx) (f : Value) (Q : D → Rho → Mu → Prop) (X : Ex → Rho → Mu → Prop) (ds : List D) (ρ : Rho) (μ : Mu) : Prop := OkC cx f ds ρ μ Q X

/-- a built-in's name -/
theorem e_nameB {x : Str} {f : Value} {R : Value → Shared → Prop} {E : Value → Shared → Prop} {p : Pos} (C : CxOk n cx) (S : Sat cx ρ μ P s) (hk : cx.env.scope.names.lookup x = some .globalImplicit) (hx : nsIn cx.g.K mainGlobals x = some Option.none) (hv : bootBuiltins x = some f) (hn : x ≠ "__name__") (hd : (x == ("__debug__" : Str)) = false)
    (h : R f s) : wpAny cx.M cx.A (eval (.Name x p) cx.env) R E s :=
  Name_function_global C.kind hk (loadGlobal_builtin (env := cx.env) (C.glob ▸ C.T.g.keeps S.stays) (mg_none_of C.K C.T.g hx) (C.bi ▸ C.T.b.keeps S.stays) ((C.T.builtins x hn).trans hv) h) hd
theorem e_nameK {x : Str} {f : Value} {R : Value → Shared → Prop} {E : Value → Shared → Prop} {p : Pos} (C : CxOk n cx) (S : Sat cx ρ μ P s) (hk : cx.env.scope.names.lookup x = some .globalImplicit) (hx : nsIn cx.g.K mainGlobals x = some (some f)) (hd : (x == ("__debug__" : Str)) = false)
    (h : R f s) : wpAny cx.M cx.A (eval (.Name x p) cx.env) R E s :=
  Name_function_global C.kind hk (loadGlobal_global (env := cx.env) (C.glob ▸ C.T.g.keeps S.stays) (mg_of C.K C.T.g hx) h) hd

/-- a call of a built-in function by its name -/
theorem e_callB {x : Str} {id : String} {p : Pos} {e : Expr} {rest : List Expr} (C : CxOk n cx) (hk : cx.env.scope.names.lookup x = some .globalImplicit) (hx : nsIn cx.g.K mainGlobals x = some Option.none) (hv : bootBuiltins x = some (.builtin id))
    (h : OkA cx pos (e :: rest) ρ μ (kCall cx (.builtin id) Q X) X) (hn : x ≠ "__name__" := by decide) (hd : (x == ("__debug__" : Str)) = false := by decide)
    (he : starEach (e :: rest) cx.env = (false, eval e cx.env) :: starEach rest cx.env := by rfl) (hplain : (backTo pos (starEach rest cx.env)).any (·.1) = false := by rfl) : OkE cx (.Call (.Name x p) (e :: rest) [] pos) ρ μ Q X := fun P s S =>
  Call_ (e_nameB C S hk hx hv hn hd (PyProof.Rows.callWith_builtin1 (h.run S (Le.refl P) fun P₁ vs ds ρ₁ μ₁ s₁ l₁ S₁ r₁ q₁ => wpLe l₁ (q₁ P₁ s₁ vs S₁ r₁)) he hplain))
theorem e_callT {x : Str} {T : String} {p : Pos} {e : Expr} {rest : List Expr} (C : CxOk n cx) (hk : cx.env.scope.names.lookup x = some .globalImplicit) (hx : nsIn cx.g.K mainGlobals x = some Option.none) (hv : bootBuiltins x = some (.type T))
    (h : OkA cx pos (e :: rest) ρ μ (kCall cx (.type T) Q X) X) (hn : x ≠ "__name__" := by decide) (hd : (x == ("__debug__" : Str)) = false := by decide)
    (he : starEach (e :: rest) cx.env = (false, eval e cx.env) :: starEach rest cx.env := by rfl) (hplain : (backTo pos (starEach rest cx.env)).any (·.1) = false := by rfl) : OkE cx (.Call (.Name x p) (e :: rest) [] pos) ρ μ Q X := fun P s S =>
  Call_ (e_nameB C S hk hx hv hn hd (PyProof.Rows.callWith_type1 (h.run S (Le.refl P) fun P₁ vs ds ρ₁ μ₁ s₁ l₁ S₁ r₁ q₁ => wpLe l₁ (q₁ P₁ s₁ vs S₁ r₁)) he hplain))
/-- a call of a def of the text by its name -/
theorem e_call {x : Str} {f : Addr} {p : Pos} {e : Expr} {rest : List Expr} (C : CxOk n cx) (hk : cx.env.scope.names.lookup x = some .globalImplicit) (hx : nsIn cx.g.K mainGlobals x = some (some (.ref f))) (hf : keepIn cx.g.K (.ref f) = true)
    (h : OkA cx pos (e :: rest) ρ μ (kCall cx (.ref f) Q X) X) (hd : (x == ("__debug__" : Str)) = false := by decide)
    (he : starEach (e :: rest) cx.env = (false, eval e cx.env) :: starEach rest cx.env := by rfl) (hplain : (backTo pos (starEach rest cx.env)).any (·.1) = false := by rfl) : OkE cx (.Call (.Name x p) (e :: rest) [] pos) ρ μ Q X := fun P s S =>
  Call_ (e_nameK C S hk hx hd (callWith_K (h₀ := cx.g.base) C.K hf (h.run S (Le.refl P) fun P₁ vs ds ρ₁ μ₁ s₁ l₁ S₁ r₁ q₁ => ⟨S₁.K C, by rw [List.nil_append]; exact wpLe l₁ (q₁ P₁ s₁ vs S₁ r₁)⟩) he hplain))
theorem e_call0 {x : Str} {f : Addr} {p : Pos} (C : CxOk n cx) (hk : cx.env.scope.names.lookup x = some .globalImplicit) (hx : nsIn cx.g.K mainGlobals x = some (some (.ref f))) (hf : keepIn cx.g.K (.ref f) = true)
    (h : OkC cx (.ref f) [] ρ μ Q X) (hd : (x == ("__debug__" : Str)) = false := by decide) : OkE cx (.Call (.Name x p) [] [] pos) ρ μ Q X := fun P s S =>
  Call_ (e_nameK C S hk hx hd (callWith_K0 (S.K C) hf (h P s [] S .nil)))

inductive ItPost (cx : Cx) (T : Expr → Prop) (P : Know) (Q : List D → Rho → Mu → Prop) (it : Value) (s' : Shared) : Prop
  | intro (I : Addr) (J : List D → Led → Know → Prop) (ds : List D) (own : Led) (ρ' : Rho) (μ' : Mu) (P' : Know) : it = .ref I → Iter T I J → Le P P' → Sat cx ρ' μ' P' s' → Held cx μ' P' own s' → J ds own P' → Q ds ρ' μ' → ItPost cx T P Q it s'
inductive LoopI (cx : Cx) (J : List D → Led → Know → Prop) (P : Know) (R : List D → Rho → Mu → Prop) (k : Nat) (s' : Shared) : Prop
  | intro (ds : List D) (own : Led) (ρ' : Rho) (μ' : Mu) (P' : Know) : Le P P' → Sat cx ρ' μ' P' s' → Held cx μ' P' own s' → J ds own P' → R ds ρ' μ' → k = ds.length → LoopI cx J P R k s'
inductive CompI (cx : Cx) (A : Addr) (J : List D → Led → Know → Prop) (P : Know) (R : List D → List D → Mu → Prop) (k : Nat) (s' : Shared) : Prop
  | intro (ds : List D) (own : Led) (acc : List D) (ρ' : Rho) (μ' : Mu) (P' : Know) : Le P P' → Sat cx ρ' ((A, .list acc) :: μ') P' s' → Held cx ((A, .list acc) :: μ') P' own s' → J ds own P' → R ds acc μ' → k = ds.length → CompI cx A J P R k s'
/-- an iterable's expression, run to its iterator -/
def OkIt (cx : Cx) (T : Expr → Prop) (e : Expr) (ρ : Rho) (μ : Mu) (Q : List D → Rho → Mu → Prop) (X : Ex → Rho → Mu → Prop) : Prop :=
  ∀ P s, Sat cx ρ μ P s → wpAny cx.M cx.A (eval e cx.env) (fun x s₁ => wpAny cx.M cx.A (pyIter x) (ItPost cx T P Q) (EPost cx P X) s₁) (EPost cx P X) s

theorem Iter.any {T : Expr → Prop} {it : Addr} {J : List D → Led → Know → Prop} (I : Iter (fun _ => True) it J) : Iter T it J :=
  ⟨I.mono, I.self, fun target _ _ _ => I.next target trivial⟩

theorem it_list {T : Expr → Prop} {e : Expr} (h : OkE cx e ρ μ (fun d ρ₁ μ₁ => ∃ ds, d = .list ds ∧ QL ds ρ₁ μ₁) X) : OkIt cx T e ρ μ QL X := fun P s S =>
  h.run S (Le.refl P) fun P₁ v d ρ₁ μ₁ s₁ l₁ S₁ r₁ q₁ => by
    obtain ⟨ds, rfl, q⟩ := q₁
    cases r₁ with
    | list hp hc hd hr =>
      rename_i l vs k o
      refine wpAny_pyIter_list (S₁.known_list hp hc.1 hd) ?_
      have S₂ := S₁.keeps (s' := { s₁ with heap := s₁.heap.push { cls := .type "list_iterator", data := .fields #[.ref l, .int 0 0] } }) ⟨_, s₁.toks, rfl⟩ (fun _ _ e => Heap.get?_push_of_some _ e)
      exact ⟨_, JList _, ds, [(s₁.heap.objs.size, _)], ρ₁, μ₁, P₁, rfl, (iter_list _).any, l₁, S₂, Held.one (Heap.get?_push_size _ rfl) (S₁.apart_new (none_at_size _)), ⟨_, _, _, _, 0, _, hp, hc.1, hd, hr, rfl, rfl, rfl⟩, q⟩
theorem it_bytes {T : Expr → Prop} {e : Expr} (h : OkE cx e ρ μ (fun d ρ₁ μ₁ => ∃ b, d = .bytes b ∧ QL (bInts b) ρ₁ μ₁) X) : OkIt cx T e ρ μ QL X := fun P s S =>
  h.run S (Le.refl P) fun P₁ v d ρ₁ μ₁ s₁ l₁ S₁ r₁ q₁ => by
    obtain ⟨b, rfl, q⟩ := q₁
    cases r₁ with
    | bytes b t =>
      refine KBw.pyIter_bytes ?_
      have S₂ := S₁.keeps (s' := { s₁ with heap := s₁.heap.push { cls := .type "bytes_iterator", data := .fields #[.bytes b t, .int 0 0] } }) ⟨_, s₁.toks, rfl⟩ (fun _ _ e => Heap.get?_push_of_some _ e)
      exact ⟨_, JBytes _, _, [(s₁.heap.objs.size, _)], ρ₁, μ₁, P₁, rfl, (iter_bytes _).any, l₁, S₂, Held.one (Heap.get?_push_size _ rfl) (S₁.apart_new (none_at_size _)), ⟨b, t, 0, _, rfl, rfl, rfl, rfl⟩, q⟩
theorem it_enum {x : Str} {p : Pos} {e : Expr} (C : CxOk n cx) (hx' : x = "enumerate") (hk : cx.env.scope.names.lookup x = some .globalImplicit) (hx : nsIn cx.g.K mainGlobals x = some Option.none)
    (h : OkE cx e ρ μ (fun d ρ₁ μ₁ => ∃ ds, d = .list ds ∧ QL (enumD 0 ds) ρ₁ μ₁) X)
    (he : starEach [e] cx.env = [(false, eval e cx.env)] := by rfl) : OkIt cx IsTupleT (.Call (.Name x p) [e] [] pos) ρ μ QL X := fun P s S => by
  subst hx'
  refine Call_ (e_nameB C S hk hx boot_enumerate (by decide) (by decide) (PyProof.Rows.callWith_type1 (args_cons (h.run S (Le.refl P) fun P₁ v d ρ₁ μ₁ s₁ l₁ S₁ r₁ q₁ => args_nil ?_) he) he rfl))
  obtain ⟨ds, rfl, q⟩ := q₁
  cases r₁ with
  | list hp hc hd hr =>
    refine call_enumerate_list (S₁.known_list hp hc.1 hd) fun h' g1 g2 g3 g4 => ?_
    have S₂ : Sat cx ρ₁ μ₁ P₁ { s₁ with heap := h' } := S₁.keeps ⟨_, s₁.toks, rfl⟩ g4
    refine wpAny_pyIter_enum (s := { s₁ with heap := h' }) g1 ?_
    obtain ⟨ob, k1, k2, k3⟩ := g2
    have n1 : s₁.heap.get? s₁.heap.objs.size = Option.none := none_at_size _
    have n2 : s₁.heap.get? (s₁.heap.objs.size + 1) = Option.none := Heap.get?_none_of_le (Nat.le_succ _)
    refine ⟨_, JEnum _, _, [(s₁.heap.objs.size + 1, enumObj s₁.heap.objs.size ((0 : Nat) : Int) .none), (s₁.heap.objs.size, ob)], ρ₁, μ₁, P₁, rfl, iter_enum _, l₁, S₂, fun e he => ?_, ⟨_, _, _, _, _, 0, ob, .none, ds, hp, hc.1, hd, hr, rfl, rfl, Nat.succ_ne_self _, k2, k3⟩, q⟩
    rcases List.mem_cons.mp he with rfl | he
    · exact ⟨g1, S₁.apart_new n2⟩
    · rw [List.mem_singleton.mp he]; exact ⟨k1, S₁.apart_new n1⟩
theorem zipApart_new (N l1 l2 : Nat) (h1 : l1 < N) (h2 : l2 < N) : ZipApart (N + 4) (N + 2) (N + 3) N (N + 1) l1 l2 :=
  ⟨neN (by omega), neN (by omega), neN (by omega), neN (by omega), neN (by omega), neN (by omega), neN (by omega), neN (by omega), neN (by omega), neN (by omega), neN (by omega), neN (by omega), neN (by omega), neN (by omega), neN (by omega), neN (by omega), neN (by omega), neN (by omega)⟩
theorem it_zip {x : Str} {p : Pos} {e e' : Expr} (C : CxOk n cx) (hx' : x = "zip") (hk : cx.env.scope.names.lookup x = some .globalImplicit) (hx : nsIn cx.g.K mainGlobals x = some Option.none)
    (h : OkE cx e ρ μ (fun d ρ₁ μ₁ => ∃ ds, d = .list ds ∧ OkE cx e' ρ₁ μ₁ (fun d' ρ₂ μ₂ => ∃ ds', d' = .list ds' ∧ QL (zipD ds ds') ρ₂ μ₂) X) X)
    (he : starEach [e, e'] cx.env = [(false, eval e cx.env), (false, eval e' cx.env)] := by rfl) (he' : starEach [e'] cx.env = [(false, eval e' cx.env)] := by rfl) : OkIt cx IsTupleT (.Call (.Name x p) [e, e'] [] pos) ρ μ QL X := fun P s S => by
  subst hx'
  refine Call_ (e_nameB (f := .type "zip") C S hk hx (by decide +kernel) (by decide) (by decide) (PyProof.Rows.callWith_type1 (args_cons (h.run S (Le.refl P) fun P₁ v d ρ₁ μ₁ s₁ l₁ S₁ r₁ q₁ => ?_) (by rw [he, he'])) (by rw [he, he']) (by rw [he']; rfl)))
  obtain ⟨ds, rfl, q⟩ := q₁
  refine args_cons (q.run S₁ l₁ fun P₂ v' d' ρ₂ μ₂ s₂ l₂ S₂ r₂ q₂ => args_nil ?_) he'
  obtain ⟨ds', rfl, q'⟩ := q₂
  cases r₁.mono l₂ with
  | list hp hc hd hr =>
    cases r₂ with
    | list hp' hc' hd' hr' =>
      rename_i l1 vs k o l2 vs' k' o'
      have hl1 := S₂.known_list hp hc.1 hd
      have hl2 := S₂.known_list hp' hc'.1 hd'
      have lt1 : l1 < s₂.heap.objs.size := by obtain ⟨_, q, _⟩ := hl1; exact Heap.lt_size q
      have lt2 : l2 < s₂.heap.objs.size := by obtain ⟨_, q, _⟩ := hl2; exact Heap.lt_size q
      refine call_zip_2 hl1 hl2 fun h' g1 g2 g3 g4 g5 g6 g7 => ?_
      have S₃ : Sat cx ρ₂ μ₂ P₂ { s₂ with heap := h' } := S₂.keeps ⟨_, s₂.toks, rfl⟩ g7
      refine wpAny_pyIter_zip (s := { s₂ with heap := h' }) g1 ?_
      obtain ⟨ob1, a1, a2, a3⟩ := g4
      obtain ⟨ob2, b1, b2, b3⟩ := g5
      have ap : ∀ i, Apart cx μ₂ P₂ (s₂.heap.objs.size + i) := fun i => S₂.apart_new (Heap.get?_none_of_le (Nat.le_add_right _ _))
      refine ⟨_, JZip _, _, [(s₂.heap.objs.size + 4, zipObj (s₂.heap.objs.size + 2) (s₂.heap.objs.size + 3)), (s₂.heap.objs.size + 3, pairObj .none .none), (s₂.heap.objs.size, ob1), (s₂.heap.objs.size + 1, ob2), (s₂.heap.objs.size + 2, pairObj (.ref s₂.heap.objs.size) (.ref (s₂.heap.objs.size + 1)))], ρ₂, μ₂, P₂, rfl, iter_zip _, l₁.trans l₂, S₃, fun e he => ?_,
        ⟨_, _, _, _, _, _, _, _, _, _, _, _, 0, _, _, ob1, ob2, ds, ds', hp, hc.1, hd, hp', hc'.1, hd', hr, hr', rfl, rfl, zipApart_new _ _ _ lt1 lt2, ⟨a2, a3⟩, b2, b3⟩, q'⟩
      simp only [List.mem_cons, List.not_mem_nil, or_false] at he
      rcases he with rfl | rfl | rfl | rfl | rfl
      · exact ⟨g1, ap 4⟩
      · exact ⟨g3, ap 3⟩
      · exact ⟨a1, ap 0⟩
      · exact ⟨b1, ap 1⟩
      · exact ⟨g2, ap 2⟩
end
end Mine
end

section
open PySem PySem.W PySem.Calls PyProof.Rows
namespace Mine
section
variable {n : Nat} {cx : Cx} {ρ : Rho} {μ : Mu} {P P' : Know} {s s' : Shared} {X : Ex → Rho → Mu → Prop} {Q : D → Rho → Mu → Prop} {QF : FlowD → Rho → Mu → Prop} {QL : List D → Rho → Mu → Prop} {QU : Unit → Rho → Mu → Prop} {pos : Pos}

theorem it_range {T : Expr → Prop} {x : Str} {p : Pos} {e : Expr} (C : CxOk n cx) (hx' : x = "range") (hk : cx.env.scope.names.lookup x = some .globalImplicit) (hx : nsIn cx.g.K mainGlobals x = some Option.none)
    (h : OkE cx e ρ μ (fun d ρ₁ μ₁ => ∃ k : Int, d = .int k ∧ -(2 ^ 62) ≤ k ∧ k < 2 ^ 62 ∧ QL (rInts 0 k.toNat) ρ₁ μ₁) X)
    (he : starEach [e] cx.env = [(false, eval e cx.env)] := by rfl) : OkIt cx T (.Call (.Name x p) [e] [] pos) ρ μ QL X := fun P s S => by
  subst hx'
  refine Call_ (e_nameB (f := .type "range") C S hk hx (by decide +kernel) (by decide) (by decide) (PyProof.Rows.callWith_type1 (args_cons (h.run S (Le.refl P) fun P₁ v d ρ₁ μ₁ s₁ l₁ S₁ r₁ q₁ => args_nil ?_) he) he rfl))
  obtain ⟨k, rfl, h1, h2, q⟩ := q₁
  cases r₁ with
  | int i t =>
    refine call_range_1 ?_
    have hr : IsRange (s₁.heap.push { cls := .type "range", data := .fields #[.int 0 s₁.toks, .int k t, .int 1 (s₁.toks + 1)] }) s₁.heap.objs.size 0 k 1 s₁.toks t (s₁.toks + 1) := Heap.get?_push_size _ rfl
    have S₂ := (S₁.keeps (s' := { s₁ with heap := s₁.heap.push { cls := .type "range", data := .fields #[.int 0 s₁.toks, .int k t, .int 1 (s₁.toks + 1)] }, toks := s₁.toks + 1 + 1 }) ⟨_, _, rfl⟩ (fun _ _ e => Heap.get?_push_of_some _ e))
    refine wpAny_pyIter_range hr (small_one (by omega) (by omega) (by omega) (by omega)) ?_
    have e : Builtin.Range.rangeSize 0 k 1 = (k.toNat : Int) := by rw [rangeSize_nat]; simp
    rw [e]
    exact ⟨_, JRange _, _, [(_, _)], ρ₁, μ₁, P₁, rfl, (iter_range _).any, l₁, S₂.keeps ⟨_, _, rfl⟩ (fun _ _ e => Heap.get?_push_of_some _ e), Held.one (Heap.get?_push_size _ rfl) (S₂.apart_new (none_at_size _)), ⟨0, k.toNat, rfl, rfl⟩, q⟩

/-- targets -/
abbrev OkG (cx : Cx) (t : Expr) (d : D) (ρ : Rho) (μ : Mu) (Q : Unit → Rho → Mu → Prop) (X : Ex → Rho → Mu → Prop) : Prop := Ok1 cx In RU (fun v => assign t cx.env v) d ρ μ Q X
theorem g_name {x : Str} {p : Pos} {d : D} (C : CxOk n cx) (hk : cx.env.scope.names.lookup x = some .local) (h : QU () ((x, d) :: ρ) μ) : OkG cx (.Name x p) d ρ μ QU X := fun P s v S hv =>
  wpAny_assign_Name (store_local C hk h P s v S hv)
theorem i_nil (h : QU () ρ μ) : OkI cx [] [] ρ μ QU X := fun P s v S hv => by
  cases hv; exact wpAny_pure (.mk S trivial h)
abbrev kI (cx : Cx) (ts : List Expr) (ds : List D) (QU : Unit → Rho → Mu → Prop) (X : Ex → Rho → Mu → Prop) (_ : Unit) (ρ : Rho) (μ : Mu) : Prop := OkI cx ts ds ρ μ QU X
abbrev kG (cx : Cx) (t : Expr) (QF : FlowD → Rho → Mu → Prop) (X : Ex → Rho → Mu → Prop) (d : D) (ρ : Rho) (μ : Mu) : Prop := OkG cx t d ρ μ (kU QF) X
abbrev kX (cx : Cx) (body : List Stmt) (QF : FlowD → Rho → Mu → Prop) (X : Ex → Rho → Mu → Prop) (_ : Unit) (ρ : Rho) (μ : Mu) : Prop := OkX cx body ρ μ QF X
abbrev kFor (Inv : List D → Rho → Mu → Prop) (ds : List D) (QF : FlowD → Rho → Mu → Prop) (f : FlowD) (ρ : Rho) (μ : Mu) : Prop := match f with
  | .next | .cont => Inv ds ρ μ
  | .brk => QF .next ρ μ
  | .ret r => QF (.ret r) ρ μ
theorem i_cons {t : Expr} {ts : List Expr} {d : D} {ds : List D} (h : OkG cx t d ρ μ (kI cx ts ds QU X) X) (he : assignEach (t :: ts) cx.env = (false, assign t cx.env) :: assignEach ts cx.env := by rfl) : OkI cx (t :: ts) (d :: ds) ρ μ QU X := fun P s v S hv => by
  cases hv with
  | cons h1 h2 =>
    rename_i v vs
    show wpAny cx.M cx.A (assignInOrder ((assignEach (t :: ts) cx.env).map (·.2)) (v :: vs)) _ _ s
    rw [he]
    show wpAny cx.M cx.A (do holding vs (assign t cx.env v); assignInOrder ((assignEach ts cx.env).map (·.2)) vs) _ _ s
    exact wpAny_bind (wpAny_holding (wpAny_mono (h P s v S h1) (fun _ s₁ ⟨_, ρ₁, μ₁, P₁, l₁, S₁, _, q₁⟩ => wpLe l₁ (q₁ P₁ s₁ vs S₁ (h2.mono l₁))) fun _ _ x => x))
theorem g_tuple {ts : List Expr} {k : Nat} {p : Pos} {ds : List D} (C : CxOk n cx) (hn : (assignEach ts cx.env).length = ds.length) (hstar : (assignEach ts cx.env).findIdx? (·.1) = Option.none) (h : OkI cx ts ds ρ μ QU X) : OkG cx (.Tuple ts k p) (.tuple ds) ρ μ QU X := fun P s v S hv => by
  cases hv with
  | tuple hp hc hd hr =>
    rename_i a vs m o
    refine wpAny_assign_Tuple (items := vs.toArray) C.hh ⟨o, S.fz _ _ hp, hc.1, m, hd⟩ (by rw [hn, List.size_toArray, hr.length]) hstar fun h' hk => ?_
    exact h P _ vs (S.keeps ⟨_, s.toks, rfl⟩ fun b o e => hk b o (Nat.ne_of_lt (Heap.lt_size e)) e) hr
theorem s_assignT {ts : List Expr} {k : Nat} {tp : Pos} {value : Expr} (h : OkE cx value ρ μ (kG cx (.Tuple ts k tp) QF X) X)
    (hs : swapsWithSole [.Tuple ts k tp] value pos.line cx.env = pure false := by rfl) (hw : swappedStores [.Tuple ts k tp] value cx.env = pure Option.none := by rfl) : OkS cx (.Assign [.Tuple ts k tp] value pos) ρ μ QF X := fun P s S =>
  Assign_Tuple (h.run S (Le.refl P) fun P₁ a b ρ₁ μ₁ s₁ l₁ S₁ r₁ q₁ => wpAny_mono (q₁ P₁ s₁ a S₁ r₁) (fun _ s₂ ⟨_, ρ₂, μ₂, P₂, l₂, S₂, _, q₂⟩ => ⟨_, ρ₂, μ₂, P₂, l₁.trans l₂, S₂, .next, q₂⟩) fun _ _ x => x.le l₁) hs hw
/-- names bound from behind -/
def OkN (cx : Cx) : List Str → List D → Rho → Mu → (Unit → Rho → Mu → Prop) → (Ex → Rho → Mu → Prop) → Prop
  | [], [], ρ, μ, Q, X => Q () ρ μ
  | x :: xs, d :: ds, ρ, μ, Q, X => Ok1 cx In RU (storeName cx.env x) d ρ μ (fun _ ρ₁ μ₁ => OkN cx xs ds ρ₁ μ₁ Q X) X
  | _, _, _, _, _, _ => False
theorem OkN.go : ∀ {xs : List Str} {ds : List D} {ρ : Rho} {μ : Mu}, OkN cx xs ds ρ μ QU X → ∀ P s vs, Sat cx ρ μ P s → All P vs ds → wpAny cx.M cx.A (assignInOrder (xs.map fun x => bindName cx.env x) vs) (VPost cx P RU QU) (EPost cx P X) s
  | [], [], ρ, μ, h, P, s, vs, S, hv => by cases hv; exact wpAny_pure (.mk S trivial h)
  | x :: xs, d :: ds, ρ, μ, h, P, s, vs, S, hv => by
    cases hv with
    | cons h1 h2 =>
      rename_i v vs
      show wpAny cx.M cx.A (do holding vs (bindName cx.env x v); assignInOrder (xs.map fun x => bindName cx.env x) vs) _ _ s
      exact wpAny_bind (wpAny_holding (bindName_ (wpAny_mono (h P s v S h1) (fun _ s₁ ⟨_, ρ₁, μ₁, P₁, l₁, S₁, _, q₁⟩ => wpLe l₁ (q₁.go P₁ s₁ vs S₁ (h2.mono l₁))) fun _ _ x => x)))
  | [], _ :: _, _, _, h, _, _, _, _, _ => h.elim
  | _ :: _, [], _, _, h, _, _, _, _, _ => h.elim
theorem s_assignW {ts : List Expr} {k : Nat} {tp : Pos} {value : Expr} {names : List Str} (C : CxOk n cx) (h : OkE cx value ρ μ (fun d ρ₁ μ₁ => ∃ ds, d = .tuple ds ∧ ds.length = names.length ∧ OkN cx names.reverse ds.reverse ρ₁ μ₁ (fun _ ρ₂ μ₂ => QF .next ρ₂ μ₂) X) X)
    (hw : swappedStores [.Tuple ts k tp] value cx.env = pure (some names)) (hs : swapsWithSole [.Tuple ts k tp] value pos.line cx.env = pure false := by rfl) : OkS cx (.Assign [.Tuple ts k tp] value pos) ρ μ QF X := fun P s S =>
  Assign_Tuple_swapped (h.run S (Le.refl P) fun P₁ a b ρ₁ μ₁ s₁ l₁ S₁ r₁ q₁ => by
    obtain ⟨ds, rfl, hlen, q⟩ := q₁
    cases r₁ with
    | tuple hp hc hd hr =>
      rename_i a vs m o
      have e : names.length = vs.toArray.size := by rw [List.size_toArray, hr.length, hlen]
      rw [e]
      refine unpackItems_tuple C.hh ⟨o, S₁.fz _ _ hp, hc.1, m, hd⟩ fun h' hk => ?_
      have S₂ : Sat cx ρ₁ μ₁ P₁ { s₁ with heap := h' } := S₁.keeps ⟨_, s₁.toks, rfl⟩ fun b o e => hk b o (Nat.ne_of_lt (Heap.lt_size e)) e
      exact wpAny_mono (q.go P₁ _ vs.reverse S₂ hr.reverse) (fun _ s₂ ⟨_, ρ₂, μ₂, P₂, l₂, S₂, _, q₂⟩ => ⟨_, ρ₂, μ₂, P₂, l₁.trans l₂, S₂, .next, q₂⟩) fun _ _ x => x.le l₁) hs hw

/-- the for: a word over what is yet to come -/
theorem s_for {T : Expr → Prop} {target iter : Expr} {body : List Stmt} {outer : List Env} {Lf : Addr} (C : CxOk n cx) (hfs : cx.fs = cx.env :: outer) (hf : cx.env.frame = some Lf) (Inv : List D → Rho → Mu → Prop) (hT : T target)
    (h : OkIt cx T iter ρ μ Inv X)
    (turn : ∀ own d ds ρ μ, Inv (d :: ds) ρ μ → OkG (cx.hold own) target d ρ μ (kX (cx.hold own) body (kFor Inv ds QF) X) X)
    (done : ∀ ρ μ, Inv [] ρ μ → QF .next ρ μ) (hs : ∀ x, foldedSetIterable iter cx.env x = pure x := by intro _; rfl) : OkS cx (.For target iter body [] pos) ρ μ QF X := fun P s S => by
  refine wpAny_For (wpAny_mono (h P s S) (fun x s₁ h₁ => wpAny_mono h₁ (fun it s₂ h₂ => ?_) fun _ _ x => x) fun _ _ x => x) hs
  obtain ⟨I, J, ds, own, ρ₁, μ₁, P₁, rfl, hI, l₁, S₁, H₁, j₁, q₁⟩ := h₂
  have flies : ∀ {P' ρ' μ' s' e x st}, Le P P' → Sat cx ρ' μ' P' s' → ExIn cx μ' P' s' e x st → X x ρ' μ' → notedBy cx.M cx.A cx.env (fun e s' => cameBackBy cx.M cx.A cx.env (EPost cx P X) e s') e s' := fun l S' X' hx =>
    note_frame C.hA hfs hf S' X' fun s'' S'' X'' => came_back hf S'' X'' fun s₃ S₃ X₃ => ⟨_, .noted, _, _, _, l, S₃, X₃, hx⟩
  refine codeAny_forLoop_any (LoopI cx J P Inv) ?_ ds.length ⟨ds, own, ρ₁, μ₁, P₁, l₁, S₁, H₁, j₁, q₁, rfl⟩
  rintro k s' ⟨ds, own, ρ', μ', P', l, S', H', j', q', rfl⟩
  refine hI.next target hT C.hh S' H' j' (fun e s'' S'' => ?_) fun d ds' e v P'' s'' l' S'' hv go => ?_
  · subst e
    exact wpAny_execs_nil ⟨_, ρ', μ', P', l, S'', .next, done _ _ q'⟩
  · subst e
    refine go fun own' s₃ S₃ H₃ j₃ => ?_
    have hC := S₃.hold H₃
    refine wpAny_mono (turn own' d ds' ρ' μ' q' P'' s₃ v hC hv) (fun _ s₄ ⟨_, ρ₄, μ₄, P₄, l₄, S₄, _, q₄⟩ => ?_) fun e s₄ ⟨x, st, ρ₄, μ₄, P₄, l₄, S₄, X₄, q₄⟩ => flies (l.trans (l'.trans l₄)) S₄.unhold X₄.unhold q₄
    refine wpAny_mono (q₄ P₄ s₄ S₄) (fun f s₅ ⟨b, ρ₅, μ₅, P₅, l₅, S₅, r₅, q₅⟩ => ?_) fun e s₅ ⟨x, st, ρ₅, μ₅, P₅, l₅, S₅, X₅, q₅⟩ => flies (l.trans (l'.trans (l₄.trans l₅))) S₅.unhold X₅.unhold q₅
    have le := l.trans (l'.trans (l₄.trans l₅))
    have nxt : Inv ds' ρ₅ μ₅ → ∃ m, m < (d :: ds').length ∧ LoopI cx J P Inv m s₅ := fun q =>
      ⟨ds'.length, Nat.lt_succ_self _, ds', own', ρ₅, μ₅, P₅, le, S₅.unhold, S₅.held H₃, hI.mono (l₄.trans l₅) j₃, q, rfl⟩
    cases r₅ with
    | next => exact nxt q₅
    | cont => exact nxt q₅
    | brk => exact ⟨_, ρ₅, μ₅, P₅, le, S₅.unhold, .next, q₅⟩
    | ret hv => exact ⟨_, ρ₅, μ₅, P₅, le, S₅.unhold, .ret hv, q₅⟩
end
end Mine
end

section
open PySem PySem.W PySem.Calls PyProof.Rows
namespace Mine
section
variable {n : Nat} {cx : Cx} {ρ : Rho} {μ : Mu} {P P' : Know} {s s' : Shared} {X : Ex → Rho → Mu → Prop} {Q : D → Rho → Mu → Prop} {QF : FlowD → Rho → Mu → Prop} {QL : List D → Rho → Mu → Prop} {QU : Unit → Rho → Mu → Prop} {pos : Pos}

/-- back from an inner block (a def's frame, a comprehension): what the outer one held still stands -/
theorem Sat.back {cx' : Cx} {ρ' : Rho} {μ' : Mu} {s₁ : Shared} (W : List Addr) (S : Sat cx ρ μ P s) (S' : Sat cx' ρ' μ' P' s') (hP : Le P P') (hg : cx'.g = cx.g) (hs₀ : Same cx.s₀ s') (hfs : cx'.fs = cx.fs ∨ ∃ e, cx'.fs = e :: cx.fs ∧ e.frame = some cx'.L)
    (hW : ∀ a ∈ W, Apart cx μ P a) (hk : ∀ b o, s.heap.get? b = some o → b ∉ μ.map Prod.fst → (∀ o', ¬ P b o') → b ∉ W → cx'.Kp b o) : Sat cx ρ μ' P' s' := by
  obtain ⟨m, hm, hv⟩ := S.ns
  have fasub : ∀ b ∈ cx.fa, b ∈ cx'.fa := fun b hb => by
    show b ∈ cx'.fs.filterMap (·.frame)
    rcases hfs with q | ⟨e, q, q'⟩ <;> rw [q]
    · exact hb
    · rw [List.filterMap_cons, q']; exact .tail _ hb
  have fanew : ∀ b, b ∈ cx'.fa → b ∈ cx.fa ∨ b = cx'.L := fun b hb => by
    have hb : b ∈ cx'.fs.filterMap (·.frame) := hb
    rcases hfs with q | ⟨e, q, q'⟩ <;> rw [q] at hb
    · exact .inl hb
    · rw [List.filterMap_cons, q'] at hb
      rcases List.mem_cons.mp hb with rfl | hb
      · exact .inr rfl
      · exact .inl hb
  -- what the outer one speaks of, kept
  have kept : ∀ b o, (b = cx.L ∨ b ∈ cx.fa ∨ ∃ o, cx.Kp b o) → s.heap.get? b = some o → cx'.Kp b o := fun b o hb e =>
    hk b o e (S.sp b hb).1 (S.sp b hb).2 fun q => by
      have := hW b q
      rcases hb with rfl | hb | ⟨o', hb⟩
      · exact this.2.2.2.1 rfl
      · exact this.2.2.1 hb
      · exact this.2.2.2.2.1 o' hb
  have stands : ∀ b, (b = cx.L ∨ b ∈ cx.fa ∨ ∃ o, cx.Kp b o) → ∃ o, cx'.Kp b o := fun b hb => let ⟨o, e⟩ := S.there hb; ⟨o, kept b o hb e⟩
  refine ⟨hs₀, ⟨m, ?_, fun x d hx => let ⟨v, h1, h2⟩ := hv x d hx; ⟨v, h1, h2.mono hP⟩⟩, S'.fz, hg ▸ S'.mu, S'.nd, S'.dj, hg ▸ S'.stays, hg ▸ S'.mb, ?_, fun b o hb => ?_, fun b hb => ?_, S.lb, S.lk⟩
  · obtain ⟨o, es, ep, h1, h2, h3⟩ := hm
    obtain ⟨_, sl, h4⟩ := S'.kp _ _ (kept cx.L o (.inl rfl) h1)
    exact ⟨_, es, ep, h4, h2, h3⟩
  · have := S'.fr
    rw [hg] at this
    rcases hfs with q | ⟨e, q, _⟩ <;> rw [q] at this
    · exact this
    · exact this.2.2
  · obtain ⟨h1, sl, h2⟩ := S.kp b o hb
    have k2 := S'.kp _ _ (kept b _ (.inr (.inr ⟨o, hb⟩)) h2)
    refine ⟨fun h => ?_, ?_⟩
    · have e := h1 h
      have k1 := S'.kp _ _ (kept b _ (.inr (.inr ⟨o, hb⟩)) e)
      refine k1.1 fun q => ?_
      rcases fanew b q with q | q
      · exact h q
      · exact S'.lk _ (q ▸ kept b _ (.inr (.inr ⟨o, hb⟩)) e)
    · obtain ⟨_, sl', h3⟩ := k2; exact ⟨sl', h3⟩
  · obtain ⟨o, h⟩ := stands b hb
    exact S'.sp b (.inr (.inr ⟨o, h⟩))
theorem Apart.back {cx' : Cx} {μ' : Mu} {a : Addr} (W : List Addr) (S : Sat cx ρ μ P s) (A : Apart cx' μ' P' a) (hg : cx'.g = cx.g) (hfs : cx'.fs = cx.fs ∨ ∃ e, cx'.fs = e :: cx.fs ∧ e.frame = some cx'.L)
    (hW : ∀ a ∈ W, Apart cx μ P a) (hk : ∀ b o, s.heap.get? b = some o → b ∉ μ.map Prod.fst → (∀ o', ¬ P b o') → b ∉ W → cx'.Kp b o) : Apart cx μ' P' a := by
  have no : ∀ b, (b = cx.L ∨ b ∈ cx.fa ∨ ∃ o, cx.Kp b o) → a ≠ b := fun b hb q => by
    subst q
    obtain ⟨o, e⟩ := S.there hb
    refine A.2.2.2.2.1 o (hk _ o e (S.sp _ hb).1 (S.sp _ hb).2 fun q => ?_)
    have := hW _ q
    rcases hb with rfl | hb | ⟨o', hb⟩
    · exact this.2.2.2.1 rfl
    · exact this.2.2.1 hb
    · exact this.2.2.2.2.1 o' hb
  exact ⟨A.1, A.2.1, fun q => no a (.inr (.inl q)) rfl, fun q => no a (.inl q) rfl, fun o q => no a (.inr (.inr ⟨o, q⟩)) rfl, hg ▸ A.2.2.2.2.2⟩

/-- a comprehension's tests: none, or one -/
def OkTs (cx : Cx) : List Expr → Rho → Mu → (Bool → Rho → Mu → Prop) → (Ex → Rho → Mu → Prop) → Prop
  | [], ρ, μ, Q, _ => Q true ρ μ
  | [c], ρ, μ, Q, X => OkT cx c ρ μ Q X
  | _, _, _, _, _ => False
theorem Pl.eq {o : Obj} {T : String} {d : Data} (h : Pl o T) (hd : o.data = d) : o = { cls := .type T, dict := Option.none, data := d, slots := #[] } := by
  obtain ⟨c, dd, dt, sl⟩ := o
  obtain ⟨h1, h2, h3⟩ := h
  dsimp only at h1 h2 h3 hd
  subst h1 h2 h3 hd; rfl
theorem append_exact {prog : Program} {w : World} {A : Around} {E : Value → Shared → Prop} {s : Shared} {l : Addr} {items : Array Value} {m : Nat} {o : Obj} {x : Value} {Q : Value → Shared → Prop} (ho : s.heap.get? l = some o) (hc : Pl o "list") (hd : o.data = .seq items m)
    (hQ : ∀ h' o' m', h'.get? l = some o' → Pl o' "list" → o'.data = .seq (items.push x) m' → Heap.SameBut l s.heap h' → Q .none { s with heap := h' }) (hsz : items.size ≤ sizeLine) :
    wpAny (model prog w) A (call (.builtin "list.append") [.ref l, x]) Q E s := by
  obtain ⟨n', hd'⟩ := Obj.data_mapSeq hd (·.push x)
  refine wpAny_call_entry slot_list_append (Heap.IsList.typeIs ⟨o, ho, hc.1, m, hd⟩) entry_list_append ?_ (args_list_append _ _)
  show wpAny _ _ (updateSeq l (·.push x) >>= fun _ => ret .none) _ _ s
  refine wpAny_bind (wpAny_updateSeq ho hd (wpAny_pure ⟨.none, rfl, hQ _ _ n' (Heap.get?_update_self _ ho (Obj.isFreed_of_seq hd')) ?_ hd' (Heap.SameBut.update ..)⟩))
  have e := hc.eq hd
  subst e
  exact ⟨rfl, rfl, rfl⟩
abbrev XF : Ex → Rho → Mu → Prop := fun _ _ _ => False

theorem compLoop_any {prog : Program} {w : World} {A : Around} {R : Result → Shared → Prop} {elt target iter : Expr} {ifs : List Expr} {scope : Scope} {pos : Pos} {it acc : Value} {env : Env} (I : Nat → Shared → Prop)
    (turn : ∀ n s, I n s → wpAny (model prog w) A (pyNext it) (fun r s₁ => match r with
      | none => R (.ok .next) s₁
      | some v => wpAny (model prog w) A (letOwnedTupleGo target it v) (fun _ s₁' => wpAny (model prog w) A (assign target env v) (fun _ s₂ =>
          wpAny (model prog w) A (forIn ifs true fun c r => if r = true then do let ok ← isTrue c env (eval c env); pure (ForInStep.yield ok) else pure (ForInStep.yield r)) (fun ok s₃ =>
            if ok = true then wpAny (model prog w) A (eval elt env) (fun x s₄ =>
              wpAny (model prog w) A (call (.builtin "list.append") [acc, x]) (fun _ s₅ => ∃ m, m < n ∧ I m s₅) (fun _ _ => False) s₄) (fun _ _ => False) s₃
            else ∃ m, m < n ∧ I m s₃) (fun _ _ => False) s₂) (fun _ _ => False) s₁') (fun _ _ => False) s₁) (fun _ _ => False) s)
    (n : Nat) {s : Shared} (h : I n s) : codeAny (model prog w) A (.compLoop (.ListComp elt [⟨target, iter, ifs, 0⟩] scope pos) 0 it acc env) R s := by
  refine codeAny_loop rfl I (fun n s hI => ?_) n h
  show wpAny _ A ((compTurn (.ListComp elt [⟨target, iter, ifs, 0⟩] scope pos) 0 it acc env).onRaise (fun x => do noteFrame x env; theTreesLotGoes x)) _ _ s
  refine wpAny_noted ?_
  rw [compTurn_list]
  refine wpAny_bind (wpAny_standAt (wpAny_bind (wpAny_mono (turn n s hI) (fun r s₁ h₁ => ?_) fun _ _ h' => h'.elim)))
  cases r with
  | none => exact wpAny_pure h₁
  | some v =>
    refine wpAny_bind (wpAny_mono h₁ (fun _ s₁' h₁' => ?_) fun _ _ h' => h'.elim)
    refine wpAny_bind (wpAny_mono h₁' (fun _ s₂ h₂ => wpAny_bind (wpAny_mono h₂ (fun ok s₃ h₃ => ?_) fun _ _ h' => h'.elim)) fun _ _ h' => h'.elim)
    cases ok with
    | false => exact wpAny_pure ⟨rfl, h₃⟩
    | true =>
      exact wpAny_bind (wpAny_bind (wpAny_mono h₃ (fun x s₄ h₄ => wpAny_bind (wpAny_mono h₄ (fun _ s₅ h₅ => wpAny_pure (wpAny_pure ⟨rfl, h₅⟩)) fun _ _ h' => h'.elim)) fun _ _ h' => h'.elim))

def Cx.comp (cx : Cx) (scope : Scope) (cl : List (Str × Addr)) (C : Addr) (Kp : Know) : Cx := { cx with env := compEnvC scope cl C cx.env, L := C, Kp := Kp }
theorem CxOk.comp (H : CxOk n cx) {scope : Scope} {cl : List (Str × Addr)} {C : Addr} {Kp : Know} (hk : scope.kind = .function) : CxOk n (cx.comp scope cl C Kp) :=
  ⟨H.K, H.T, H.hA, rfl, hk, H.glob, H.bi, H.hf, H.hh, H.depth, H.units⟩
theorem noErr {x : Ex → Rho → Mu → Prop} {e : Value} (h : EPost cx P XF e s) : False := let ⟨_, _, _, _, _, _, _, _, q⟩ := h; q

inductive TestI (cx : Cx) (elt : Expr) (A : Addr) (P : Know) (acc : List D) (R : List D → Mu → Prop) (ok : Bool) (s' : Shared) : Prop
  | intro (ρ' : Rho) (μ' : Mu) (P' : Know) : Le P P' → Sat cx ρ' μ' P' s' → (if ok then OkE cx elt ρ' μ' (fun y _ μ₃ => ∃ μ', μ₃ = (A, .list acc) :: μ' ∧ R (acc ++ [y]) μ') XF else ∃ μ₀, μ' = (A, .list acc) :: μ₀ ∧ R acc μ₀) → TestI cx elt A P acc R ok s'
theorem comp_core {T : Expr → Prop} {elt target iter : Expr} {ifs : List Expr} {scope : Scope} {cl : List (Str × Addr)} {I : Addr} {J : List D → Led → Know → Prop} {ds : List D} {own : Led} {names : List (Str × NameKind)} (CO : CxOk n cx) (S : Sat cx ρ μ P s) (H : Held cx μ P own s) (hI : Iter T I J) (j : J ds own P) (hT : T target)
    (hcell : ∀ x ∈ scope.names, x.2 ≠ .cell) (hkind : scope.kind = .function) (hnm : (relabel scope cx.env).names = names)
    (Inv : List D → List D → Mu → Prop) (start : Inv ds [] μ) (hb : ∀ ds acc μ, Inv ds acc μ → acc.length ≤ 1000000)
    (turn : ∀ cx', cx'.g = cx.g → CxOk n cx' → cx'.env.scope.names = names → cx'.env.cells = cl → ∀ A d ds acc μ, Inv (d :: ds) acc μ → OkG cx' target d [] ((A, .list acc) :: μ) (fun _ ρ₁ μ₁ => OkTs cx' ifs ρ₁ μ₁ (fun b ρ₂ μ₂ =>
      if b then OkE cx' elt ρ₂ μ₂ (fun y _ μ₃ => ∃ μ', μ₃ = (A, .list acc) :: μ' ∧ Inv ds (acc ++ [y]) μ') XF else ∃ μ', μ₂ = (A, .list acc) :: μ' ∧ Inv ds acc μ') XF) XF)
    {RR : Value → Addr → Result → Shared → Prop} {E : Value → Shared → Prop}
    (fin : ∀ A C s' acc μ' P', Le P P' → Sat cx ρ ((A, .list acc) :: μ') P' s' → Apart cx ((A, .list acc) :: μ') P' C → (∃ m, s'.heap.Ns C m) → Inv [] acc μ' → RR (.ref A) C (.ok .next) s') :
    wpAny cx.M cx.A (newList []) (fun acc s₃ => wpAny cx.M cx.A (newFunctionEnv scope cx.env.globals cl [] cx.env.qual Option.none .none (some cx.env)) (fun cenv s₄ =>
      codeAny cx.M cx.A (.compStart (.ListComp elt [⟨target, iter, ifs, 0⟩] scope pos) 0 (.ref I) acc { cenv with scope := relabel scope cx.env }) (RR acc cenv.locals) s₄) E s₃) E s := by
  refine wpAny_newObj_type (wpAny_newFunctionEnv hcell (by intro y hy; simp at hy) (fun h₁ hns₁ hsb₁ => ?_) hkind)
  dsimp only at hns₁ hsb₁ ⊢
  generalize hH2 : s.heap.push { cls := .type "list", dict := Option.none, data := .seq ([] : List Value).toArray } = H2 at hns₁ hsb₁ ⊢
  have hC : H2.objs.size = s.heap.objs.size + 1 := by rw [← hH2, Heap.size_push]
  generalize hA : s.heap.objs.size = A at hC ⊢
  generalize hCC : H2.objs.size = C at hC hns₁ hsb₁ ⊢
  have hAC : A ≠ C := by rw [hC]; exact Nat.ne_of_lt (Nat.lt_succ_self _)
  have ltA : ∀ b o, s.heap.get? b = some o → b ≠ A ∧ b ≠ C := fun b o e => by
    have := Heap.lt_size e
    rw [hA] at this
    exact ⟨Nat.ne_of_lt this, by rw [hC]; exact Nat.ne_of_lt (Nat.lt_succ_of_lt this)⟩
  have old : ∀ b o, s.heap.get? b = some o → h₁.get? b = some o := fun b o e => hsb₁.extBut b o (ltA b o e).2 (Heap.get?_push_of_some _ (hH2 ▸ Heap.get?_push_of_some _ e))
  have hacc : h₁.get? A = some { cls := .type "list", dict := Option.none, data := .seq ([] : List Value).toArray } := by
    refine hsb₁.extBut _ _ hAC (Heap.get?_push_of_some _ ?_)
    rw [← hH2, ← hA]; exact Heap.get?_push_size _ rfl
  have nA : s.heap.get? A = Option.none := by rw [← hA]; exact none_at_size _
  have nC : s.heap.get? C = Option.none := Heap.get?_none_of_le (by rw [hC, hA]; exact Nat.le_succ _)
  have apA := S.apart_new nA
  have apC := S.apart_new nC
  generalize hs₄ : ({ s with heap := h₁, toks := s.toks + ([] : List (Str × Value)).length } : Shared) = s₄
  have es₄ : s₄.heap = h₁ := by rw [← hs₄]
  have same₄ : Same s s₄ := ⟨h₁, _, hs₄.symm⟩
  have S₄ : Sat cx ρ μ P s₄ := S.keeps same₄ (by rw [es₄]; exact old)
  let Kp : Know := fun b o => s₄.heap.get? b = some o ∧ b ∉ μ.map Prod.fst ∧ (∀ o', ¬ P b o') ∧ b ≠ A ∧ b ≠ C ∧ b ∉ own.map Prod.fst
  have apA₄ : Apart cx μ P A := apA
  have S' : Sat (cx.comp scope cl C Kp) [] ((A, .list []) :: μ) P s₄ := by
    have SM : Sat cx ρ ((A, .list []) :: μ) P s₄ := S.addM same₄ (by rw [es₄]; exact old) nA (by rw [es₄]; exact hacc) (mo := .list []) ⟨[], 0, ⟨rfl, rfl, rfl⟩, rfl, .nil⟩
    refine ⟨SM.same, ⟨_, es₄ ▸ hns₁, fun x d h => by cases h⟩, SM.fz, SM.mu, SM.nd, SM.dj, SM.stays, SM.mb, SM.fr, fun b o hb => ⟨fun _ => hb.1, o.slots, hb.1⟩, fun b hb => ?_, apC.2.2.2.2.2, fun o h => h.2.2.2.2.1 rfl⟩
    rcases hb with hb | hb | ⟨o, hb⟩
    · have hb : b = C := hb
      subst hb
      refine ⟨fun q => ?_, apC.2.1⟩
      rw [List.map_cons] at q
      rcases List.mem_cons.mp q with q | q
      · exact hAC q.symm
      · exact apC.1 q
    · exact SM.sp b (.inr (.inl hb))
    · refine ⟨fun q => ?_, hb.2.2.1⟩
      rw [List.map_cons] at q
      rcases List.mem_cons.mp q with q | q
      · exact hb.2.2.2.1 q
      · exact hb.2.1 q
  have H' : Held (cx.comp scope cl C Kp) ((A, .list []) :: μ) P own s₄ := fun e he => by
    obtain ⟨h0, h1, h2, h3, h4, h5, h6⟩ := H e he
    have lt := ltA _ _ h0
    refine ⟨es₄ ▸ old _ _ h0, fun q => ?_, h2, h3, lt.2, fun o q => q.2.2.2.2.2 (List.mem_map_of_mem he), h6⟩
    rw [List.map_cons] at q
    rcases List.mem_cons.mp q with q | q
    · exact lt.1 q
    · exact h1 q
  have apW : ∀ a ∈ A :: C :: own.map Prod.fst, Apart cx μ P a := fun a ha => by
    rcases List.mem_cons.mp ha with rfl | ha
    · exact apA
    · rcases List.mem_cons.mp ha with rfl | ha
      · exact apC
      · obtain ⟨e, he, rfl⟩ := List.mem_map.mp ha; exact (H e he).2
  have hkW : ∀ b o, s₄.heap.get? b = some o → b ∉ μ.map Prod.fst → (∀ o', ¬ P b o') → b ∉ A :: C :: own.map Prod.fst → Kp b o := fun b o e h1 h2 h3 =>
    ⟨e, h1, h2, fun q => h3 (q ▸ .head _), fun q => h3 (q ▸ .tail _ (.head _)), fun q => h3 (.tail _ (.tail _ q))⟩
  have CO' : CxOk n (cx.comp scope cl C Kp) := CO.comp hkind
  have loop : codeAny cx.M cx.A (.compLoop (.ListComp elt [⟨target, iter, ifs, 0⟩] scope pos) 0 (.ref I) (.ref A) (compEnvC scope cl C cx.env)) (RR (.ref A) C) s₄ := by
    refine compLoop_any (CompI (cx.comp scope cl C Kp) A J P Inv) ?_ ds.length ⟨ds, own, [], [], μ, P, Le.refl P, S', H', j, start, rfl⟩
    rintro k s' ⟨ds, own, acc, ρ', μ', P', l, S', H', j', q', rfl⟩
    refine hI.next (cx := cx.comp scope cl C Kp) target hT CO'.hh S' H' j' (fun e s'' S'' => ?_) fun d ds' e v P'' s'' l' S'' hv go => ?_
    · subst e
      have SB : Sat cx ρ ((A, .list acc) :: μ') P' s'' := Sat.back (s₁ := s₄) (A :: C :: _) S₄ S'' l rfl S''.same (.inl rfl) apW hkW
      refine fin A C s'' acc μ' P' l SB ?_ (let ⟨m, hm, _⟩ := S''.ns; ⟨m, hm⟩) q'
      have sp := S''.sp C (.inl rfl)
      refine ⟨sp.1, sp.2, apC.2.2.1, apC.2.2.2.1, apC.2.2.2.2.1, apC.2.2.2.2.2⟩
    · subst e
      refine go fun own' s₃ S₃ H₃ j₃ => ?_
      have hC := S₃.hold H₃
      refine wpAny_mono (turn ((cx.comp scope cl C Kp).hold own') rfl (CO'.hold own') hnm rfl A d ds' acc μ' q' P'' s₃ v (hC.sub Sub.nil) hv) (fun _ s₄ ⟨_, ρ₄, μ₄, P₄, l₄, S₄, _, q₄⟩ => ?_) fun e s₄ he => noErr (x := XF) he
      have tests : wpAny cx.M cx.A (forIn ifs true fun c r => if r = true then do let ok ← isTrue c (compEnvC scope cl C cx.env) (eval c (compEnvC scope cl C cx.env)); pure (ForInStep.yield ok) else pure (ForInStep.yield r))
          (TestI ((cx.comp scope cl C Kp).hold own') elt A P₄ acc (Inv ds')) (fun _ _ => False) s₄ := by
        match ifs, q₄ with
        | [], q₄ => exact wpAny_tests_nil ⟨ρ₄, μ₄, P₄, Le.refl _, S₄, q₄⟩
        | [c], q₄ =>
          refine wpAny_tests_one (wpAny_mono (q₄ P₄ s₄ S₄) (fun b s₅ ⟨b', ρ₅, μ₅, P₅, l₅, S₅, r₅, q₅⟩ => ?_) fun e s₄ he => noErr (x := XF) he)
          cases (r₅ : b = b')
          exact ⟨ρ₅, μ₅, P₅, l₅, S₅, q₅⟩
      refine wpAny_mono tests (fun ok s₅ ⟨ρ₅, μ₅, P₅, l₅, S₅, q₅⟩ => ?_) fun _ _ e => e
      cases ok with
      | false =>
        rw [if_neg Bool.false_ne_true] at q₅ ⊢
        obtain ⟨μ'', rfl, q₅⟩ := q₅
        exact ⟨ds'.length, Nat.lt_succ_self _, ds', own', acc, ρ₅, μ'', P₅, l.trans (l'.trans (l₄.trans l₅)), S₅.unhold, S₅.held H₃, hI.mono (l₄.trans l₅) j₃, q₅, rfl⟩
      | true =>
        rw [if_pos rfl] at q₅ ⊢
        refine wpAny_mono (q₅ P₅ s₅ S₅) (fun x s₆ ⟨y, ρ₆, μ₆, P₆, l₆, S₆, r₆, q₆⟩ => ?_) fun e s₄ he => noErr (x := XF) he
        obtain ⟨μ'', rfl, q₆⟩ := q₆
        obtain ⟨ob, ho, vs, m, hc, hd, hr⟩ := S₆.mu _ (.head _)
        have hlen := hb _ _ _ q₆
        rw [List.length_append, List.length_singleton] at hlen
        refine append_exact ho hc hd (fun h' ob' m' k1 k2 k3 hsb' => ?_) (by rw [List.size_toArray, hr.length, sizeLine_eq]; omega)
        have S₇ : Sat ((cx.comp scope cl C Kp).hold own') ρ₆ ((A, .list (acc ++ [y])) :: μ'') P₆ { s₆ with heap := h' } :=
          S₆.setM (tk := s₆.toks) (o' := .list (acc ++ [y])) .head hsb' k1 ⟨vs ++ [x], m', k2, by rw [k3]; simp, hr.append (.one r₆)⟩
        exact ⟨ds'.length, Nat.lt_succ_self _, ds', own', acc ++ [y], ρ₆, μ'', P₆, l.trans (l'.trans (l₄.trans (l₅.trans l₆))), S₇.unhold, S₇.held H₃, hI.mono (l₄.trans (l₅.trans l₆)) j₃, q₆, rfl⟩
  exact codeAny_compStart_list loop (hI.self (cx := cx.comp scope cl C Kp) CO'.hh S' H' j loop)
end
end Mine
end

section
open PySem PySem.W PySem.Calls PyProof.Rows
namespace Mine
section
variable {n : Nat} {cx : Cx} {ρ : Rho} {μ : Mu} {P P' : Know} {s s' : Shared} {X : Ex → Rho → Mu → Prop} {Q : D → Rho → Mu → Prop} {QF : FlowD → Rho → Mu → Prop} {QL : List D → Rho → Mu → Prop} {QU : Unit → Rho → Mu → Prop} {pos : Pos}

abbrev OkTurn (cx : Cx) (cl : List (Str × Addr)) (names : List (Str × NameKind)) (n : Nat) (target elt : Expr) (ifs : List Expr) (Inv : List D → List D → Mu → Prop) : Prop :=
  ∀ cx', cx'.g = cx.g → CxOk n cx' → cx'.env.scope.names = names → cx'.env.cells = cl → ∀ A d ds acc μ, Inv (d :: ds) acc μ → OkG cx' target d [] ((A, .list acc) :: μ) (fun _ ρ₁ μ₁ => OkTs cx' ifs ρ₁ μ₁ (fun b ρ₂ μ₂ =>
      if b then OkE cx' elt ρ₂ μ₂ (fun y _ μ₃ => ∃ μ', μ₃ = (A, .list acc) :: μ' ∧ Inv ds (acc ++ [y]) μ') XF else ∃ μ', μ₂ = (A, .list acc) :: μ' ∧ Inv ds acc μ') XF) XF

/-- a comprehension, its list known from then on -/
theorem e_comp {T : Expr → Prop} {elt target iter : Expr} {ifs : List Expr} {scope : Scope} {cl : List (Str × Addr)} {names : List (Str × NameKind)} (C : CxOk n cx) (hT : T target) (hclos : closureFor scope cx.env = pure cl)
    (hcell : ∀ x ∈ scope.names, x.2 ≠ .cell) (hkind : scope.kind = .function) (hnames : ∀ x ∈ scope.names, x.2 = .local → scope.names.lookup x.1 = some .local) (hnm : (relabel scope cx.env).names = names)
    (Inv : List D → List D → Mu → Prop) (hb : ∀ ds acc μ, Inv ds acc μ → acc.length ≤ 1000000) (turn : OkTurn cx cl names n target elt ifs Inv)
    (h : OkIt cx T iter ρ μ (fun ds ρ₁ μ₁ => Inv ds [] μ₁ ∧ ∀ acc μ', Inv [] acc μ' → Q (.list acc) ρ₁ μ') X) (hs : ∀ x, foldedSetIterable iter cx.env x = pure x := by intro _; rfl) :
    OkE cx (.ListComp elt [⟨target, iter, ifs, 0⟩] scope pos) ρ μ Q X := fun P s S => by
  show wpAny cx.M cx.A (eval _ cx.env) _ _ s
  rw [eval_ListComp]
  refine wpAny_comprehension_free (use := Option.none) rfl hs hclos hkind hnames (wpAny_mono (h P s S) (fun xv s₁ h₁ => wpAny_mono h₁ (fun it s₂ h₂ => ?_) fun _ _ e => e) fun _ _ e => e)
  obtain ⟨I, J, ds, own, ρ₁, μ₁, P₁, rfl, hI, l₁, S₁, H₁, j₁, q₁, q₂⟩ := h₂
  refine comp_core C S₁ H₁ hI j₁ hT hcell hkind hnm Inv q₁ hb turn (RR := fun acc C => compPost cx.M cx.A (EPost cx P X) Option.none (VPost cx P In Q) acc C) fun A D s' acc μ' P' l S' ap ⟨m, hm⟩ q => ?_
  refine ⟨m, hm, fun h' hsb => ?_⟩
  have S₂ : Sat cx ρ₁ ((A, .list acc) :: μ') P' { s' with heap := h' } := S'.away ⟨_, s'.toks, rfl⟩ [D] (fun a ha => by rw [List.mem_singleton.mp ha]; exact ap) fun b o hb e => (hsb.2 b fun q => hb (List.mem_singleton.mpr q)).trans e
  obtain ⟨P₂, l₂, S₃, hv, -⟩ := S₂.freeze .head
  exact ⟨_, ρ₁, μ', P₂, l₁.trans (l.trans l₂), S₃, hv, q₂ _ _ q⟩
/-- the same, stored to a local name (its two stores exchanged) -/
theorem s_comp {T : Expr → Prop} {x : Str} {px : Pos} {cpos : Pos} {elt target iter : Expr} {ifs : List Expr} {scope : Scope} {cl : List (Str × Addr)} {names : List (Str × NameKind)} (C : CxOk n cx) (hT : T target)
    (hsw : swapsWith (.ListComp elt [⟨target, iter, ifs, 0⟩] scope cpos) (some (.Name x px)) pos.line cx.env = pure true) (hclos : closureFor scope cx.env = pure cl)
    (hcell : ∀ x ∈ scope.names, x.2 ≠ .cell) (hkind : scope.kind = .function) (hnames : ∀ x ∈ scope.names, x.2 = .local → scope.names.lookup x.1 = some .local) (hnm : (relabel scope cx.env).names = names)
    (Inv : List D → List D → Mu → Prop) (hb : ∀ ds acc μ, Inv ds acc μ → acc.length ≤ 1000000) (turn : OkTurn cx cl names n target elt ifs Inv) (hk : cx.env.scope.names.lookup x = some .local)
    (h : OkIt cx T iter ρ μ (fun ds ρ₁ μ₁ => Inv ds [] μ₁ ∧ ∀ acc μ', Inv [] acc μ' → QF .next ((x, .list acc) :: ρ₁) μ') X) (hs : ∀ x, foldedSetIterable iter cx.env x = pure x := by intro _; rfl) :
    OkS cx (.Assign [.Name x px] (.ListComp elt [⟨target, iter, ifs, 0⟩] scope cpos) pos) ρ μ QF X := fun P s S => by
  show wpAny cx.M cx.A (exec _ cx.env) _ _ s
  rw [exec_Assign_Name_used _ _ _ _ hsw]
  refine wpAny_bind (wpAny_standAt (wpAny_bind ?_))
  show wpAny _ cx.A (do let _ ← comprehension (.ListComp elt [⟨target, iter, ifs, 0⟩] scope cpos) scope cx.env _ (newList []) false (eval iter cx.env) (some (assign (.Name x px) cx.env))) _ _ s
  refine wpAny_bind (wpAny_mono (wpAny_comprehension_free (use := some (assign (.Name x px) cx.env)) (Q := fun _ s' => VPost cx P RF QF .next s') rfl hs hclos hkind hnames
    (wpAny_mono (h P s S) (fun xv s₁ h₁ => wpAny_mono h₁ (fun it s₂ h₂ => ?_) fun _ _ e => e) fun _ _ e => e)) (fun _ s' hq => wpAny_pure (wpAny_pure hq)) fun _ _ e => e)
  obtain ⟨I, J, ds, own, ρ₁, μ₁, P₁, rfl, hI, l₁, S₁, H₁, j₁, q₁, q₂⟩ := h₂
  refine comp_core C S₁ H₁ hI j₁ hT hcell hkind hnm Inv q₁ hb turn (RR := fun acc C => compPost cx.M cx.A (EPost cx P X) (some (assign (.Name x px) cx.env)) (fun _ s' => VPost cx P RF QF .next s') acc C) fun A B s' acc μ' P' l S' ap ⟨m, hm⟩ q => ?_
  obtain ⟨P₂, l₂, S₂, hv, hnew⟩ := S'.freeze .head
  obtain ⟨oB, es, ep, hB, hBr⟩ := hm
  have apB : Apart cx μ' P' B := ⟨fun q => ap.1 (.tail _ q), ap.2⟩
  -- the block's own names lie apart from all that is known
  have apB₂ : Apart cx μ' P₂ B := by
    refine ⟨apB.1, fun o h => ?_, apB.2.2⟩
    rcases hnew _ _ h with h | h
    · exact ap.2.1 o h
    · exact ap.1 (by rw [h]; exact .head _)
  have HB : Held cx μ' P₂ [(B, oB)] s' := Held.one hB apB₂
  have S₃ := S₂.hold HB
  show wpAny _ cx.A (assign (.Name x px) cx.env (.ref A)) _ _ _
  refine wpAny_mono (g_name (QU := fun _ ρ₂ μ₂ => ρ₂ = (x, D.list acc) :: ρ₁ ∧ μ₂ = μ') (X := XF) (C.hold [(B, oB)]) hk ⟨rfl, rfl⟩ P₂ s' (.ref A) S₃ hv) (fun _ s₄ ⟨_, ρ₄, μ₄, P₄, l₄, S₄, _, q₄, q₅⟩ => ?_) fun e s₄ he => (noErr (x := XF) he).elim
  rw [q₄, q₅] at S₄
  have H₄ := S₄.held HB
  refine ⟨m, ⟨oB, es, ep, (H₄ _ (.head _)).1, hBr⟩, fun h' hsb => ?_⟩
  have S₅ : Sat cx ((x, D.list acc) :: ρ₁) μ' P₄ { s₄ with heap := h' } := S₄.unhold.away ⟨_, s₄.toks, rfl⟩ [B] (fun a ha => by rw [List.mem_singleton.mp ha]; exact (H₄ _ (.head _)).2) fun b o hb e => (hsb.2 b fun q => hb (List.mem_singleton.mpr q)).trans e
  exact ⟨_, _, μ', P₄, l₁.trans (l.trans (l₂.trans l₄)), S₅, .next, q₂ _ _ q⟩
end
end Mine
end

section
open PySem PySem.W PySem.Calls PyProof.Rows
namespace Mine
section
variable {n : Nat} {cx : Cx} {ρ : Rho} {μ : Mu} {P P' : Know} {s s' : Shared} {X : Ex → Rho → Mu → Prop} {Q : D → Rho → Mu → Prop} {QF : FlowD → Rho → Mu → Prop} {QL : List D → Rho → Mu → Prop} {QU : Unit → Rho → Mu → Prop} {pos : Pos} {k : Nat} {a b : Int} {x y : Str}

abbrev OkO (cx : Cx) (op : Operator) (a b : D) (ρ : Rho) (μ : Mu) (Q : D → Rho → Mu → Prop) (X : Ex → Rho → Mu → Prop) : Prop := Ok2 cx In (binaryOp op) a b ρ μ Q X
abbrev OkQ (cx : Cx) (op : CmpOp) (a b : D) (ρ : Rho) (μ : Mu) (Q : D → Rho → Mu → Prop) (X : Ex → Rho → Mu → Prop) : Prop := Ok2 cx In (compareOp op) a b ρ μ Q X

theorem o_add (h : Q (.int (a + b)) ρ μ) : OkO cx .Add (.int a) (.int b) ρ μ Q X := fun P s v u S hv hu => by
  apply In.eInt v hv; intro _
  apply In.eInt u hu; intro _
  exact PySem.P.add_int (.mk (S.toks _) (.int _ _) h)
theorem o_sub (h : Q (.int (a - b)) ρ μ) : OkO cx .Sub (.int a) (.int b) ρ μ Q X := fun P s v u S hv hu => by
  apply In.eInt v hv; intro _
  apply In.eInt u hu; intro _
  exact PySem.P.sub_int (.mk (S.toks _) (.int _ _) h)
theorem o_mul (hm : IntMulOk a b) (h : Q (.int (a * b)) ρ μ) : OkO cx .Mult (.int a) (.int b) ρ μ Q X := fun P s v u S hv hu => by
  apply In.eInt v hv; intro _
  apply In.eInt u hu; intro _
  exact PySem.P.mul_int (.mk (S.toks _) (.int _ _) h) hm
theorem o_mod (hb : b ≠ 0) (h : Q (.int (a.fmod b)) ρ μ) : OkO cx .Mod (.int a) (.int b) ρ μ Q X := fun P s v u S hv hu => by
  apply In.eInt v hv; intro _
  apply In.eInt u hu; intro _
  exact mod_int' hb (.mk (S.toks _) (.int _ _) h)
theorem o_div (hb : b ≠ 0) (hs : b.natAbs < 1073741824) (h : Q (.int (a.fdiv b)) ρ μ) : OkO cx .FloorDiv (.int a) (.int b) ρ μ Q X := fun P s v u S hv hu => by
  apply In.eInt v hv; intro _
  apply In.eInt u hu; intro _
  exact floordiv_int hb (.mk (S.toks _) (.int _ _) h) (.inl (PyProof.noPylong_small hs))
theorem o_cat (hz : x.length + y.length ≤ 16777216) (h : Q (.str (x ++ y)) ρ μ) : OkO cx .Add (.str x) (.str y) ρ μ Q X := fun P s v u S hv hu => by
  apply In.eStr v hv; intro _
  apply In.eStr u hu; intro _
  exact PyProof.Rows.add_str (fun t' tk => .mk (S.toks _) (.str _ _) h) (by rw [sizeLine_eq]; exact hz)
theorem o_neg (h : Q (.int (-a)) ρ μ) : Ok1 cx In In (unaryOp .USub) (.int a) ρ μ Q X := fun P s v S hv => by
  apply In.eInt v hv; intro _
  exact PySem.P.neg_int (.mk (S.toks _) (.int _ _) h)

theorem c_eq (h : Q (.bool (a == b)) ρ μ) : OkQ cx .Eq (.int a) (.int b) ρ μ Q X := fun P s v u S hv hu => by
  apply In.eInt v hv; intro _
  apply In.eInt u hu; intro _
  exact PySem.P.eq_int (.mk S (.bool _) h)
theorem c_ne (h : Q (.bool (a != b)) ρ μ) : OkQ cx .NotEq (.int a) (.int b) ρ μ Q X := fun P s v u S hv hu => by
  apply In.eInt v hv; intro _
  apply In.eInt u hu; intro _
  exact PySem.P.ne_int (.mk S (.bool _) h)
theorem c_lt (h : Q (.bool (decide (a < b))) ρ μ) : OkQ cx .Lt (.int a) (.int b) ρ μ Q X := fun P s v u S hv hu => by
  apply In.eInt v hv; intro _
  apply In.eInt u hu; intro _
  exact PySem.P.lt_int (.mk S (.bool _) h)
theorem c_le (h : Q (.bool (decide (a ≤ b))) ρ μ) : OkQ cx .LtE (.int a) (.int b) ρ μ Q X := fun P s v u S hv hu => by
  apply In.eInt v hv; intro _
  apply In.eInt u hu; intro _
  exact PySem.P.le_int (.mk S (.bool _) h)
theorem c_gt (h : Q (.bool (decide (b < a))) ρ μ) : OkQ cx .Gt (.int a) (.int b) ρ μ Q X := fun P s v u S hv hu => by
  apply In.eInt v hv; intro _
  apply In.eInt u hu; intro _
  exact PySem.P.gt_int (.mk S (.bool _) h)
theorem c_ge (h : Q (.bool (decide (b ≤ a))) ρ μ) : OkQ cx .GtE (.int a) (.int b) ρ μ Q X := fun P s v u S hv hu => by
  apply In.eInt v hv; intro _
  apply In.eInt u hu; intro _
  exact PySem.P.ge_int (.mk S (.bool _) h)
theorem c_eqS (h : Q (.bool (x == y)) ρ μ) : OkQ cx .Eq (.str x) (.str y) ρ μ Q X := fun P s v u S hv hu => by
  apply In.eStr v hv; intro _
  apply In.eStr u hu; intro _
  exact PyProof.Rows.eq_str (.mk S (.bool _) h)
theorem c_eqB {b c : Array UInt8} (h : Q (.bool (b.toList == c.toList)) ρ μ) : OkQ cx .Eq (.bytes b) (.bytes c) ρ μ Q X := fun P s v u S hv hu => by
  apply In.eBytes v hv; intro _
  apply In.eBytes u hu; intro _
  exact eq_bytes (.mk S (.bool _) h)
theorem c_neB {b c : Array UInt8} (h : Q (.bool (b.toList != c.toList)) ρ μ) : OkQ cx .NotEq (.bytes b) (.bytes c) ρ μ Q X := fun P s v u S hv hu => by
  apply In.eBytes v hv; intro _
  apply In.eBytes u hu; intro _
  exact ne_bytes (.mk S (.bool _) h)
def D.isNone : D → Bool
  | .none => true
  | _ => false
theorem In.isNone {v : Value} {d : D} (h : In P v d) : (v == Value.none) = d.isNone := by
  cases h <;> rfl
theorem c_is {d : D} (h : Q (.bool d.isNone) ρ μ) : OkQ cx .Is d .none ρ μ Q X := fun P s v u S hv hu => by
  cases hu; exact is_none (.mk S (by rw [hv.isNone]; exact .bool _) h)
theorem c_isNot {d : D} (h : Q (.bool (!d.isNone)) ρ μ) : OkQ cx .IsNot d .none ρ μ Q X := fun P s v u S hv hu => by
  cases hu; exact isNot_none (.mk S (by rw [hv.isNone]; exact .bool _) h)

/-- built-ins -/
theorem b_lenB {b : Array UInt8} (hz : b.size ≤ 1000000) (h : Q (.int b.size) ρ μ) : OkC cx (.builtin "len") [.bytes b] ρ μ Q X := fun P s vs S hv => by
  apply All.e1 vs hv; intro v h1
  apply In.eBytes v h1; intro _
  exact len_bytes (Nat.le_trans hz (by decide)) (.mk (S.toks _) (.int _ _) h)
theorem b_lenL {ds : List D} (hz : ds.length ≤ 1000000) (h : Q (.int ds.length) ρ μ) : OkC cx (.builtin "len") [.list ds] ρ μ Q X := fun P s vs S hv => by
  apply All.e1 _ hv; intro _ h1
  apply In.eList _ h1; intro _ _ _ _ hp hc hd hr
  · · have e := hr.length
      exact PyProof.Rows.len_list (S.known_list hp hc.1 hd) (by rw [List.size_toArray, e]; omega) (.mk (S.toks _) (by rw [List.size_toArray, e]; exact .int _ _) h)
theorem b_chr {i : Int} (h0 : 0 ≤ i) (h1 : i ≤ 1114111) (h : Q (.str ⟨#[i.toNat]⟩) ρ μ) : OkC cx (.builtin "chr") [.int i] ρ μ Q X := fun P s vs S hv => by
  apply All.e1 vs hv; intro v h1
  apply In.eInt v h1; intro _
  exact PySem.P.chr_of_int (by simp; omega) (.mk (S.toks _) (.str _ _) h)
theorem b_ord {c : Nat} (h : Q (.int c) ρ μ) : OkC cx (.builtin "ord") [.str ⟨#[c]⟩] ρ μ Q X := fun P s vs S hv => by
  apply All.e1 vs hv; intro v h1
  apply In.eStr v h1; intro _
  exact PySem.P.ord_of_char (.mk (S.toks _) (.int _ _) h)
theorem b_int {i : Int} (h : Q (.int i) ρ μ) : OkC cx (.type "int") [.int i] ρ μ Q X := fun P s vs S hv => by
  apply All.e1 vs hv; intro v h1
  apply In.eInt v h1; intro _
  exact call_int_int (.mk S (.int _ _) h)
theorem b_max (C : CxOk n cx) (h : Q (.int (max a b)) ρ μ) : OkC cx (.builtin "max") [.int a, .int b] ρ μ Q X := fun P s vs S hv => by
  apply All.e2 _ hv; intro _ _ h1 h2
  apply In.eInt _ h1; intro _
  apply In.eInt _ h2; intro _
  · · refine max_two_ints C.hh fun h' tk hk => ?_
      have S' : Sat cx ρ μ P { s with heap := h', toks := tk } := S.keeps ⟨_, _, rfl⟩ hk
      by_cases hc : b > a
      · rw [if_pos hc]; exact .mk S' (.int _ _) (by rw [show max a b = b by omega] at h; exact h)
      · rw [if_neg hc]; exact .mk S' (.int _ _) (by rw [show max a b = a by omega] at h; exact h)
theorem b_listL {ds : List D} (hz : ds.length ≤ 1000000) (h : Q (.list ds) ρ μ) : OkC cx (.type "list") [.list ds] ρ μ Q X := fun P s vs S hv => by
  apply All.e1 _ hv; intro _ h1
  apply In.eList _ h1; intro l ws k o hp hc hd hr
  · · refine call_list_seq l (.inl rfl) (S.fz _ _ hp) hc.1 hd (fun h' c' hk hD => ?_) (by rw [List.size_toArray, hr.length, sizeLine_eq]; omega)
      have S' : Sat cx ρ μ (P.add s.heap.objs.size _) { s with heap := h' } := S.add ⟨_, s.toks, rfl⟩ hk (none_at_size _) hD
      exact ⟨_, ρ, μ, _, P.le_add _ _, S', .list (vs := ws) (n := c') (P.add_self _ _) ⟨rfl, rfl, rfl⟩ rfl (hr.mono (P.le_add _ _)), h⟩
end
end Mine
end

section
open PySem PySem.W PySem.Calls PyProof.Rows
namespace Mine
/-- a def's own context: its frame is the top one -/
structure FnCx (cx : Cx) : Prop where
  hfs : ∃ outer, cx.fs = cx.env :: outer
  hf : cx.env.frame = some cx.L
theorem FnCx.hold {cx : Cx} (h : FnCx cx) (own : Led) : FnCx (cx.hold own) := ⟨h.hfs, h.hf⟩

theorem Prs.append {P : Know} {a a' : List (Str × Value)} {b b' : List (Str × D)} (h : Prs P a b) (k : Prs P a' b') : Prs P (a ++ a') (b ++ b') := by
  induction h with
  | nil => exact k
  | cons h _ ih => exact .cons h ih
theorem Prs.reverse {P : Know} {a : List (Str × Value)} {b : List (Str × D)} (h : Prs P a b) : Prs P a.reverse b.reverse := by
  induction h with
  | nil => exact .nil
  | cons h _ ih => rw [List.reverse_cons, List.reverse_cons]; exact ih.append (.cons h .nil)
theorem Prs.zip {P : Know} : ∀ {xs : List Str} {vs : List Value} {ds : List D}, All P vs ds → Prs P (xs.zip vs) (xs.zip ds)
  | [], _, _, _ => .nil
  | _ :: _, _, _, .nil => .nil
  | _ :: _, _, _, .cons h r => .cons h (Prs.zip r)
theorem Prs.lookup {P : Know} {a : List (Str × Value)} {b : List (Str × D)} (h : Prs P a b) {x : Str} {d : D} (hx : b.lookup x = some d) : ∃ v, a.lookup x = some v ∧ In P v d := by
  induction h with
  | nil => cases hx
  | @cons y v d' a b h _ ih =>
    rw [List.lookup_cons] at hx ⊢
    by_cases q : (x == y) = true
    · rw [q] at hx ⊢; cases hx; exact ⟨v, rfl, h⟩
    · rw [Bool.eq_false_iff.mpr q] at hx ⊢; exact ih hx

section
variable {n : Nat} {cx : Cx} {ρ : Rho} {μ : Mu} {P P' : Know} {s s' : Shared} {X : Ex → Rho → Mu → Prop} {Q : D → Rho → Mu → Prop}

theorem Know.of_all (h : ∀ b o, cx.Kp b o → True) : True := trivial

theorem ExIn.back {cx' : Cx} {μ' : Mu} {e : Value} {x : Ex} (S : Sat cx ρ μ P s) (h : ExIn cx' μ' P' s' e x .out) (hg : cx'.g = cx.g) (hfs : cx'.fs = cx.fs ∨ ∃ e, cx'.fs = e :: cx.fs ∧ e.frame = some cx'.L)
    (hk : ∀ b o, s.heap.get? b = some o → b ∉ μ.map Prod.fst → (∀ o', ¬ P b o') → cx'.Kp b o) : ExIn cx μ' P' s' e x .out := by
  have bk : ∀ a, Apart cx' μ' P' a → Apart cx μ' P' a := fun a ha => ha.back [] S hg hfs (fun _ h => by cases h) fun b o e h1 h2 _ => hk b o e h1 h2
  obtain ⟨e', dd, oe, vs, t, h1, h2, h3, h4, h5, h6, h7, h8, h9, h10, T, oT, ts, a1, a2, a3, a4, r⟩ := h.ex
  exact ⟨e', dd, oe, vs, t, h1, h2, h3, h4, h5, h6, h7, h8, bk _ h9, bk _ h10, T, oT, ts, a1, a2, a3, bk _ a4, r⟩

/-- what is wanted at a call's end -/
abbrev kEnd (Q : D → Rho → Mu → Prop) (ρ : Rho) (fl : FlowD) (_ : Rho) (μ : Mu) : Prop := Q (match fl with | .ret d => d | _ => .none) ρ μ
abbrev kEndX (X : Ex → Rho → Mu → Prop) (ρ : Rho) (x : Ex) (_ : Rho) (μ : Mu) : Prop := X x ρ μ
abbrev kEndE (Q : D → Rho → Mu → Prop) (ρ : Rho) (d : D) (_ : Rho) (μ : Mu) : Prop := Q d ρ μ
/-- a def of the text is entered -/
theorem enter {name qual : Str} {params : Arguments} {body : List Stmt} {scope : Scope} {dV kV doc pm cdv ct oc : Value} {an od : Option Addr} {osl : Array (Option Value)} {f : Addr} {ds : List D} (xs : List Str)
    (C : CxOk (n + 1) cx)
    (ho : cx.g.K.lookup f = some ⟨oc, od, .func (fnOf name qual params body scope dV kV doc pm an cdv ct), osl⟩) (hcd : codeIn cx.g.K cdv qual = true)
    (hbind : ∀ (s : Shared) (vs : List Value), cx.g.K.In s.heap → vs.length = ds.length → BindsTo s (fnOf name qual params body scope dV kV doc pm an cdv ct) ⟨vs, []⟩ (xs.zip vs))
    (hloc : ∀ x ∈ xs, scope.names.lookup x = some .local)
    (hcell : ∀ x ∈ scope.names, x.2 ≠ .cell) (hco : scope.isCoroutine = false) (hgen : scope.isGenerator = false) (hk : scope.kind = .function)
    (h : ∀ cx', cx'.g = cx.g → CxOk n cx' → FnCx cx' → cx'.env.scope = scope → cx'.env.cells = [] →
      OkX cx' body (xs.zip ds).reverse μ (kEnd Q ρ) (kEndX X ρ)) :
    OkC cx (.ref f) ds ρ μ Q X := fun P s vs S hvs => by
  refine wpAny_call ?_
  have hroom : cx.A.depth < recursionLimit := by have := C.depth; show _ < 1000; omega
  refine codeAny_call_def (fd := fnOf name qual params body scope dV kV doc pm an cdv ct) (body := body) (binds := xs.zip vs) hroom (S.K C _ _ ho) rfl (C.T.nolimit.keeps S.stays) (codeRec_of (S.K C) hcd) rfl (hbind s vs (S.K C) hvs.length) hcell
    (fun x hx => hloc _ (List.of_mem_zip hx).1) (fun h₀ hns hk₀ => ?_) hco hgen hk
  generalize hs₁ : ({ s with heap := h₀, toks := s.toks + (xs.zip vs).length } : Shared) = s₁
  have es₁ : s₁.heap = h₀ := by rw [← hs₁]
  have same₁ : Same s s₁ := ⟨_, _, hs₁.symm⟩
  generalize hE : callEnv (fnOf name qual params body scope dV kV doc pm an cdv ct) s.heap.objs.size f = env'
  have eL : env'.locals = s.heap.objs.size := by rw [← hE]; rfl
  have eF : env'.frame = some s.heap.objs.size := by rw [← hE]; rfl
  have eS : env'.scope = scope := by rw [← hE]; rfl
  have eC : env'.cells = [] := by rw [← hE]; rfl
  have eG : env'.globals = mainGlobals := by rw [← hE]; rfl
  have eB : env'.builtins = builtinsNs := by rw [← hE]; rfl
  have S₁ : Sat cx ρ μ P s₁ := S.keeps same₁ (by rw [es₁]; exact hk₀)
  have nL : s.heap.get? s.heap.objs.size = Option.none := none_at_size _
  have apL := S.apart_new nL
  let Kp : Know := fun b o => s.heap.get? b = some o ∧ b ∉ μ.map Prod.fst ∧ (∀ o', ¬ P b o')
  let cx' : Cx := { g := cx.g, A := cx.A.deeper env', fs := env' :: cx.fs, env := env', L := s.heap.objs.size, Kp := Kp, s₀ := s₁ }
  have CO : CxOk n cx' := ⟨C.K, C.T, Around.frames_deeper C.hA, eL, by show env'.scope.kind = _; rw [eS]; exact hk, eG, eB, ⟨env', cx.fs, _, rfl, eF, eF⟩, C.hh, by
    have := C.depth; show cx.A.depth + 1 + _ ≤ _; omega, by have := C.units; show cx.A.units + 3 + _ ≤ _; omega⟩
  have hnsL : s₁.heap.Ns s.heap.objs.size (fun x => (xs.zip vs).reverse.lookup x) := by rw [es₁]; exact hns
  have fan : ∀ b, b ∈ cx'.fa → b = s.heap.objs.size ∨ b ∈ cx.fa := fun b hb => by
    have hb : b ∈ (env' :: cx.fs).filterMap (·.frame) := hb
    rw [List.filterMap_cons, eF] at hb
    rcases List.mem_cons.mp hb with hb | hb
    · exact .inl hb
    · exact .inr hb
  have S' : Sat cx' (xs.zip ds).reverse μ P s₁ := by
    refine ⟨Same.refl _, ⟨_, hnsL, fun x d hx => (Prs.zip hvs).reverse.lookup hx⟩, S₁.fz, S₁.mu, S₁.nd, S₁.dj, S₁.stays, S₁.mb, ?_, fun b o hb => ?_, fun b hb => ?_, apL.2.2.2.2.2, fun o q => ?_⟩
    · exact Heap.FunFrames.cons (by rw [eS, hk]; intro q; cases q) eF hnsL apL.2.2.2.2.2 S₁.fr
    · have e : s₁.heap.get? b = some o := by rw [es₁]; exact hk₀ b o hb.1
      exact ⟨fun _ => e, o.slots, e⟩
    · rcases hb with hb | hb | ⟨o, hb⟩
      · have hb : b = s.heap.objs.size := hb
        subst hb; exact ⟨apL.1, apL.2.1⟩
      · rcases fan b hb with hb | hb
        · subst hb; exact ⟨apL.1, apL.2.1⟩
        · exact S.sp b (.inr (.inl hb))
      · exact ⟨hb.2.1, hb.2.2⟩
    · have := q.1; rw [nL] at this; cases this
  have hfs : cx'.fs = cx.fs ∨ ∃ e, cx'.fs = e :: cx.fs ∧ e.frame = some cx'.L := .inr ⟨env', rfl, eF⟩
  have bk : ∀ {ρ' : Rho} {μ' : Mu} {P' : Know} {s' : Shared}, Sat cx' ρ' μ' P' s' → Le P P' → Sat cx ρ μ' P' s' := fun S'' l =>
    Sat.back (s₁ := s₁) [] S S'' l rfl ((S.same.trans same₁).trans S''.same) hfs (fun _ h => by cases h) fun b o e h1 h2 _ => ⟨e, h1, h2⟩
  refine wpAny_mono (h cx' rfl CO ⟨⟨cx.fs, rfl⟩, eF⟩ eS eC P s₁ S') (fun fl s' ⟨d, ρ', μ', P', l, S'', r, q⟩ => ?_) fun e s' ⟨x, st, ρ', μ', P', l, S'', r, q⟩ => ?_
  · have SB := bk S'' l
    cases r with
    | next => exact ⟨_, ρ, μ', P', l, SB, .none, q⟩
    | brk => exact ⟨_, ρ, μ', P', l, SB, .none, q⟩
    | cont => exact ⟨_, ρ, μ', P', l, SB, .none, q⟩
    | ret h => exact ⟨_, ρ, μ', P', l, SB, h, q⟩
  · unfold leaving
    refine wpAny_bind (note_frame (cx := cx') CO.hA rfl eF S'' r fun s₂ S₂ r₂ => ?_)
    refine set_flight (cx := cx') (Lf := s.heap.objs.size) Option.none (.inr rfl) eF (by intro q; cases q) S₂ r₂ fun s₃ S₃ r₃ => ?_
    refine ⟨x, .out, ρ, μ', P', l, bk S₃ l, ExIn.back S r₃ rfl hfs fun b o e h1 h2 => ⟨e, h1, h2⟩, q⟩
theorem bind1 {p : List Value → Prop} (h : ∀ a, p [a]) : ∀ vs : List Value, vs.length = 1 → p vs
  | [a], _ => h a
theorem bind2 {p : List Value → Prop} (h : ∀ a b, p [a, b]) : ∀ vs : List Value, vs.length = 2 → p vs
  | [a, b], _ => h a b
theorem bind3 {p : List Value → Prop} (h : ∀ a b c, p [a, b, c]) : ∀ vs : List Value, vs.length = 3 → p vs
  | [a, b, c], _ => h a b c
end
end Mine
end

section
open PySem PySem.W PySem.Calls PyProof.Rows Builtin Builtin.ObjectAttr
namespace Mine
abbrev excTail (U : Addr) : List Value := [.ref U, .type "Exception", .type "BaseException", .type "object"]
abbrev excObj (nm : Str) (C N U : Addr) (bs : List Value) (sub : List Value) (k0 k1 k2 k3 k5 : Option Value) : Obj := excClassObj nm nm C N bs (excTail U) true [] sub false none none k0 k1 k2 k3 k5 "Exception.__new__"

/-- an exception class of the text, whose __init__ is the one def fI of its base U -/
structure ExcK (K : Frag) (C U fI : Addr) : Prop where
  obj : ∃ nm N bs sub k0 k1 k2 k3 k5, K.lookup C = some (excObj nm C N U bs sub k0 k1 k2 k3 k5)
  init : findIn K (.ref C) "__init__" = some (some (.ref fI))
  fn : typeIn K (.ref fI) = some (.type "function")
  setattr : findIn K (.ref C) "__setattr__" = some (some (.builtin "object.__setattr__"))
  told : findIn K (.ref C) "told" = some none
  getattribute : findIn K (.ref C) "__getattribute__" = some (some (.builtin "BaseException.__getattribute__"))
  hook : findIn K (.ref C) "__getattr__" = some none
  call : specialIn K (.ref C) "__call__" = some (some (.builtin "type.__call__"))
  typ : instIn K (.ref C) (.type "type") = some true

theorem ebF : ExcBaseFacts "Exception" "Exception.__new__" "Exception.__init__" [.type "Exception", .type "BaseException", .type "object"] := F.excBase_Exception
section
variable {prog : Program} {w : World} {A : Around} {R : Result → Shared → Prop} {E : Value → Shared → Prop} {h : Heap} {g : Array GenState} {d : Drawn} {t : Nat} {os : OsState}
variable {nm : Str} {C N U : Addr} {bs : List Value} {sub : List Value} {k0 k1 k2 k3 k5 : Option Value}

theorem has_tail (C U : Addr) (T : String) : (Value.ref C :: excTail U).contains (.type T) = ([.type "Exception", .type "BaseException", .type "object"] : List Value).contains (.type T) := by
  rw [List.contains_cons, List.contains_cons]; rfl

theorem exc_check_new {M : Model} {rest : List Value} {Q : Unit → Shared → Prop} (hC : h.get? C = some (excObj nm C N U bs sub k0 k1 k2 k3 k5))
    (hq : Q () ⟨h, g, d, t, os⟩) : wpAny M A (checkBuiltinCall "Exception.__new__" ⟨.ref C :: rest, []⟩) Q E ⟨h, g, d, t, os⟩ := by
  have F := ebF
  have hcont : (Value.ref C :: excTail U).contains (.type "Exception") = true := by rw [has_tail]; exact F.hasB
  have hstar := F.noStar
  simp only [checkBuiltinCall, F.newKind, F.newSplit, F.newRow]
  repeat (first | refine wpAny_loadPart_at hC ?_ | (refine wpAny_isSubtype_exc hC ?_; rw [hcont]) | refine wpAny_staticBase_exc hC ?_ | refine wpAny_madeBy_exc hC ?_ | simp only [bne_self_eq_false, Bool.false_eq_true, if_false] | wp_step)
  exact hq

abbrev rawExc (C t : Addr) : Obj := { cls := .ref C, data := .fields #[.ref t, .none, .none, .none, .bool false, .none] }
theorem exc_new {rest : List Value} (hC : h.get? C = some (excObj nm C N U bs sub k0 k1 k2 k3 k5))
    (hq : R (.ok (.ret (.ref (h.objs.size + 1)))) ⟨(h.push { cls := .type "tuple", data := .seq rest.toArray }).push (rawExc C h.objs.size), g, d, t, os⟩) (hrest : rest.length ≤ sizeLine) :
    codeAny (model prog w) A (.builtin "Exception.__new__" ⟨.ref C :: rest, []⟩) R ⟨h, g, d, t, os⟩ := by
  have F := ebF
  have hends := F.ends
  have hcB : (Value.ref C :: excTail U).contains (.type "Exception") = true := by rw [has_tail]; exact F.hasB
  have hcA : (Value.ref C :: excTail U).contains (.type "AttributeError") = false := by rw [has_tail]; exact F.noAttr
  have hcN : (Value.ref C :: excTail U).contains (.type "NameError") = false := by rw [has_tail]; exact F.noName
  refine codeAny_builtinAt F.entry ?_
  unfold Builtin.«BaseException.__new__»
  refine PySem.wpAt_bind ?_
  show PySem.wpAt _ _ _ (stack >>= _) _ _ _
  refine PySem.wpAt_bind (PySem.wpAt_stack fun p below => PySem.wpAt_of_wpAny ?_)
  wp_walk
  refine PySem.wpAt_of_wpAny ?_
  rw [F.owner]
  repeat (first | with_reducible refine wpAny_madeHere_exc F.canon hC ?_ | with_reducible refine wpAny_loadPart_at hC ?_ | (with_reducible refine wpAny_isSubtype_exc hC ?_; first | rw [hcB] | rw [hcA] | rw [hcN]) | wp_step)
  show R _ _
  rw [Heap.size_push]
  exact hq

/-- the class is called: __new__, then its own __init__ -/
theorem exc_make {K : Frag} {fI : Addr} {rest : List Value} (EK : ExcK K C U fI) (X : K.In h) (hrest : rest.length ≤ sizeLine)
    (hq : codeAny (model prog w) (A.under (.builtin "type.__call__" ⟨.ref C :: rest, []⟩)) (.call (.ref fI) ⟨.ref (h.objs.size + 1) :: rest, []⟩) (InitBack (h.objs.size + 1) R)
      ⟨(h.push { cls := .type "tuple", data := .seq rest.toArray }).push (rawExc C h.objs.size), g, d, t, os⟩) :
    codeAny (model prog w) A (.call (.ref C) ⟨rest, []⟩) R ⟨h, g, d, t, os⟩ := by
  obtain ⟨⟨nm, N, bs, sub, k0, k1, k2, k3, k5, hl⟩, hi, hf, _, _, _, _, hcall, htyp⟩ := EK
  have hC := X _ _ hl
  have call := looks_specialIn (M := model prog w) X hcall
  have typ := looks_instIn (M := model prog w) X htyp
  refine codeAny_of_tree ?_
  show wpAny _ _ (callAny (.ref C) _) _ _ _
  refine nd_load hC ?_
  show wpAny _ _ (callAny.viaDunder (.ref C) _) _ _ _
  unfold callAny.viaDunder
  refine wpAny_bind (call.at ?_)
  dsimp only
  rw [tc_bind]
  refine wpAny_bind (wpAny_pure (wpAny_bind (wpAny_pure ?_)))
  refine wpAny_pure (a := Fin.again (.call (.builtin "type.__call__") ⟨.ref C :: rest, []⟩)) (And.intro rfl ?_)
  refine codeAny_call_builtin_at (Code.quiet_builtin _ (by decide +kernel)) entry_typeCall (check_slot tc_kind tc_split typ (tc_args _ _ _) ?_)
  unfold Builtin.«type.__call__»
  repeat (first | with_reducible refine wpAny_loadPart_at hC ?_ | with_reducible refine wpAny_madeBy_exc hC ?_ | wp_step)
  refine codeAny_call_builtin_code (Code.quiet_builtin _ ebF.quiet) (exc_check_new hC ?_)
  refine exc_new hC ?_ hrest
  show wpAny _ _ _ _ _ _
  have k : ∀ b o, h.get? b = some o → ((h.push { cls := .type "tuple", data := .seq rest.toArray }).push (rawExc C h.objs.size)).get? b = some o := fun b o e => Heap.get?_push_of_some _ (Heap.get?_push_of_some _ e)
  have hC₁ := k _ _ hC
  have hx : ((h.push { cls := .type "tuple", data := .seq rest.toArray }).push (rawExc C h.objs.size)).get? (h.objs.size + 1) = some (rawExc C h.objs.size) := by heap_get
  have hcC : (Value.ref C :: excTail U).contains (.ref C) = true := by simp
  have t1 : Looks (model prog w) ((h.push { cls := .type "tuple", data := .seq rest.toArray }).push (rawExc C h.objs.size)) (typeOf (.ref (h.objs.size + 1))) (.ref C) := (Looks.ld hx).andThen .now
  have i1 := (looks_findIn (M := model prog w) X hi).keeps k
  have b1 := (bind_fn (M := model prog w) X (.ref (h.objs.size + 1)) hf).keeps k
  unfold isInstance callSpecial? specialOf
  repeat (first | (with_reducible refine wpAny_isSubtype_exc hC₁ ?_; rw [hcC]) | with_reducible refine wpAny_call ?_ | lk | wp_step)
  refine codeAny_mono hq fun r s' z => ?_
  rcases r with e | (v | _ | _ | _) <;> first | exact z | exact z.elim | skip
  obtain ⟨rfl, z⟩ := z
  exact wpAny_pure (wpAny_pure z)
end
end Mine
end

section
open PySem PySem.W PySem.Calls PyProof.Rows Builtin Builtin.ObjectAttr
namespace Mine
theorem refuse_exc (self : Value) (C U : Addr) : refuseLoop self "__setattr__" (.ref C :: excTail U) = pure () := by
  rw [refuseLoop_ref, refuseLoop_ref]; exact F.store_Exception.passes self
theorem setattr_is : PySem.F.store_Exception.slot = PySem.F.store_Exception.slot := rfl

section
variable {prog : Program} {w : World} {A : Around} {R : Result → Shared → Prop} {E : Value → Shared → Prop} {h : Heap} {g : Array GenState} {d : Drawn} {t : Nat} {os : OsState}
variable {K : Frag} {C U fI e t0 : Addr} {v : Value}

/-- an exception with one attribute of its own -/
structure Told (h : Heap) (C e dd t0 : Addr) (v : Value) : Prop where
  obj : h.get? e = some { rawExc C t0 with dict := some dd }
  ne : e ≠ dd
  ns : h.Ns1 dd (fun y => if y = "told" then some v else Option.none)

theorem exc_mro (EK : ExcK K C U fI) (X : K.In h) {M : Model} : ∃ cd, clsIn K C = some cd ∧ cd.mro = .ref C :: excTail U ∧ cd.hasDict = true ∧ Looks M h (mroOf (.ref C)) (.ref C :: excTail U) := by
  obtain ⟨⟨nm, N, bs, sub, k0, k1, k2, k3, k5, hl⟩, _⟩ := EK
  refine ⟨_, by unfold clsIn; rw [hl], rfl, rfl, ?_⟩
  exact (looks_clsIn X (by unfold clsIn; rw [hl])).andThen .now

theorem exc_store {Q : Unit → Shared → Prop} (EK : ExcK K C U fI) (X : K.In h) (hx : h.get? e = some (rawExc C t0))
    (hq : ∀ h' tk' dd, Told h' C e dd t0 v → (∀ b o, b ≠ e → h.get? b = some o → h'.get? b = some o) → h.get? dd = Option.none → Q () ⟨h', g, d, tk', os⟩) :
    wpAny (model prog w) A (setAttr (.ref e) "told" v) Q E ⟨h, g, d, t, os⟩ := by
  have SF := F.store_Exception
  have hT : Looks (model prog w) h (typeOf (.ref e)) (.ref C) := (Looks.ld hx).andThen .now
  have hS := looks_findIn (M := model prog w) X EK.setattr
  have f3 := SF.slot.bind (.ref e)
  obtain ⟨cd, hcd, hmro, hhd, hm⟩ := exc_mro (M := model prog w) EK X
  have sub : Looks (model prog w) h (isInstance (.ref e) (.type "object")) true := hT.andThen (looks_mroIn X (by unfold mroIn; rw [hcd, Option.bind_some, hmro]; rfl))
  have key : ∀ {A' : Around} {tk : Tok} {t' : Nat} {R' : Result → Shared → Prop}, (∀ h' tk' dd, Told h' C e dd t0 v → (∀ b o, b ≠ e → h.get? b = some o → h'.get? b = some o) → h.get? dd = Option.none → R' (.ok (.ret .none)) ⟨h', g, d, tk', os⟩) →
      codeAny (model prog w) A' (.call (.builtin "object.__setattr__") ⟨[.ref e, .str "told" tk, v], []⟩) R' ⟨h, g, d, t', os⟩ := by
    intro A' tk t' R' hq
    refine (codeAny_call_builtin SF.slot.plain SF.entry (@check_slot (model prog w) _ _ _ "object.__setattr__" "object" "__setattr__" (.ref e) [.str "told" tk, v] [] _ SF.kind SF.split sub (SF.args (.ref e) (.str "told" tk) v) ?_))
    rw [osa_eq, refuse_eq]
    refine wpAny_bind (wpAny_bind (hT.here (wpAny_bind (hm.here ?_))))
    rw [refuse_exc]
    refine wpAny_pure (wpAny_bind (hT.here (wpAny_bind ((looks_findIn X EK.told).here (wpAny_bind (wpAny_pure ?_))))))
    dsimp only
    unfold storeInOwnDict
    have hxs : e ≠ h.objs.size := Nat.ne_of_lt (Heap.lt_size hx)
    have hx₁ : (h.push { cls := .type "dict", data := .dict #[] }).get? e = some (rawExc C t0) := Heap.get?_push_of_some _ hx
    refine wpAny_bind (wpAny_pure (wpAny_bind (wpAny_bind (wpAny_loadPart hx (wpAny_bind ((looks_clsIn X hcd).here ?_))))))
    rw [hhd]
    refine wpAny_bind (wpAny_alloc' (wpAny_bind (wpAny_update' hx₁ (wpAny_pure ?_))))
    have hgd : ((h.push { cls := .type "dict", data := .dict #[] }).update e fun o => { cls := o.cls, dict := some h.objs.size, data := o.data, slots := o.slots }).get? h.objs.size
        = some { cls := .type "dict", data := .dict #[] } :=
      (Heap.get?_update_ne _ _ _ _ hxs.symm).trans (Heap.get?_push_at rfl rfl)
    have hnd : ((h.push { cls := .type "dict", data := .dict #[] }).update e fun o => { cls := o.cls, dict := some h.objs.size, data := o.data, slots := o.slots }).Ns h.objs.size (fun _ => Option.none) :=
      ⟨_, #[], _, hgd, rfl, fun e he => absurd he (by simp), fun _ => rfl⟩
    show wpAny _ _ (storeInDict h.objs.size (.str "told" tk) "told" v) _ _ _
    unfold storeInDict newKeyGuard
    refine wpAny_bind (wpAny_pure (wpAny_bind (wpAny_nsSet1 (Heap.Ns1.of_empty hnd) fun h' hn' hs => ?_)))
    obtain ⟨oD, esD, epD, hoD, hdD, hcD⟩ := hn'.count (Within.cons "told" v Within.nil)
    refine wpAny_bind (wpAny_lookBehind hoD (by rw [hdD]; exact pastItsLine_dict (Nat.le_trans hcD (by rw [List.length_cons, List.length_nil, sizeLine_eq]; omega))) ?_)
    refine wpAny_pure ?_
    refine hq h' _ h.objs.size ⟨?_, hxs, hn'⟩ (fun b ob hbe hb => ?_) (none_at_size _)
    · exact (hs.2 e hxs).trans (Heap.get?_update_self _ hx₁ rfl)
    · exact (hs.2 b (Nat.ne_of_lt (Heap.lt_size hb))).trans ((Heap.get?_update_ne _ _ _ _ hbe).trans (Heap.get?_push_of_some _ hb))
  unfold setAttr callSpecial? specialOf
  have hS' := hS
  repeat (any_goals (first | assumption | with_reducible refine Looks.at hT ?_ | with_reducible refine Looks.at hS ?_ | wp_step))
  refine key fun h' tk' dd T k n => ?_
  repeat (any_goals (first | assumption | wp_step))
  exact hq _ _ _ T k n

theorem lookIn_of {o : Obj} {es : Array DictEntry} {ep : Nat} {name : Str} {v : Value} (hd : o.data = .dict es ep) (hf : nsFind es name = some v) : lookIn name o = some (some v) := by
  unfold lookIn
  rw [hd]
  dsimp only
  unfold nsFind findBy at hf
  rw [← Array.find?_toList] at hf
  obtain ⟨en, h1, h2⟩ := Option.map_eq_some_iff.mp hf
  rw [h1]
  dsimp only
  rw [h2]

theorem exc_read {dd : Addr} {expr : Bool} {Q : Value → Shared → Prop} {o : Obj} {mA : Str → Option Value} (EK : ExcK K C U fI) (X : K.In h) (hx : h.get? e = some o) (hcls : o.cls = .ref C) (hno : notCls o = true) (hdict : o.dict = some dd) (hns : h.Ns1 dd mA) (hm : mA "told" = some v) (hh : handedIn v = true)
    (hq : ∀ t', Q v ⟨h, g, d, t', os⟩) : wpAny (model prog w) A (getAttr (.ref e) "told" expr) Q E ⟨h, g, d, t, os⟩ := by
  have hT : Looks (model prog w) h (typeOf (.ref e)) (.ref C) := hcls ▸ (Looks.ld hx).andThen .now
  have hG := looks_findIn (M := model prog w) X EK.getattribute
  have hH := looks_findIn (M := model prog w) X EK.hook
  have FB := F.attrBase_Exception
  have f3 := FB.ga.bind (.ref e)
  obtain ⟨cd, hcd, hmro, hhd, hmr⟩ := exc_mro (M := model prog w) EK X
  have sub : Looks (model prog w) h (isInstance (.ref e) (.type "BaseException")) true := hT.andThen (looks_mroIn X (by unfold mroIn; rw [hcd, Option.bind_some, hmro]; rfl))
  obtain ⟨od, es, ep, hod, hdat, _, _, hfind⟩ := hns
  have I : InstAt h e o C (some od) := ⟨hx, hcls, hno, by rw [hdict]; exact hod⟩
  have hF : findObj K C (some od) "told" = some (.value v) := by
    unfold findObj
    rw [hcd, EK.told]
    show ((ownOf cd (some od) "told").bind _) = _
    unfold W.ownOf
    rw [hhd, if_pos rfl]
    dsimp only
    rw [lookIn_of hdat ((hfind "told").trans hm)]
    rfl
  have L1 := looks_find (M := model prog w) X I hF
  have key : ∀ {A' : Around} {tk : Tok} {t' : Nat} {R' : Result → Shared → Prop}, R' (.ok (.ret v)) ⟨h, g, d, t', os⟩ →
      codeAny (model prog w) A' (.call (.builtin "BaseException.__getattribute__") ⟨[.ref e, .str "told" tk], []⟩) R' ⟨h, g, d, t', os⟩ := by
    intro A' tk t' R' hq
    have hk : builtinKind "BaseException.__getattribute__" = some .slot := by decide +kernel
    have hsplit : splitId "BaseException.__getattribute__" = some ("BaseException", "__getattribute__") := by decide +kernel
    refine codeAny_call_builtin FB.ga.plain F.entry_bexc_ga (@check_slot (model prog w) _ _ _ "BaseException.__getattribute__" "BaseException" "__getattribute__" (.ref e) [.str "told" tk] [] _ hk hsplit sub (F.args_bexc_ga (.ref e) (.str "told" tk)) ?_)
    unfold Builtin.«object.__getattribute__»
    refine wpAny_bind (wpAny_pure (wpAny_bind (wpAny_pure (wpAny_bind (hT.here (wpAny_bind (L1.here ?_)))))))
    exact wpAny_pure hq
  have hx2 : (Value.builtin "BaseException.__getattribute__" == Value.builtin "object.__getattribute__") = false := by decide +kernel
  have hx1 : (onTheHeap (Value.ref C) && Value.builtin "BaseException.__getattribute__" == Value.builtin "object.__getattribute__") = false := by rw [hx2]; rfl
  have hx0 : (expr && onTheHeap (Value.builtin "BaseException.__getattribute__")) = false := by cases expr <;> rfl
  unfold getAttr
  repeat (any_goals (first | assumption | with_reducible refine Looks.at hT ?_ | with_reducible refine Looks.at hG ?_ | with_reducible refine Looks.at hH ?_ | wp_step))
  refine key ?_
  repeat (any_goals (first | assumption | wp_step))
  show wpAny _ _ (handedOut v) _ _ _
  rw [handedOut_of hh]
  exact wpAny_pure (hq _)
end
end Mine
end

section
open PySem PySem.W PySem.Calls PyProof.Rows Builtin Builtin.ObjectAttr
namespace Mine
/-- the def of the base's __init__ -/
def initBody (p1 p2 p3 p4 p5 : Pos) : List Stmt := [.Assign [.Attribute (.Name "self" p1) "told" p2] (.Name "told" p3) p4]
def initScope : Scope := { kind := .function, names := [("self", .local), ("told", .local)], isGenerator := false, isCoroutine := false }
structure InitK (K : Frag) (fI : Addr) : Prop where
  fn : ∃ oc od osl qual params p1 p2 p3 p4 p5 dV kV doc pm an cdv ct, K.lookup fI = some ⟨oc, od, .func (fnOf "__init__" qual params (initBody p1 p2 p3 p4 p5) initScope dV kV doc pm an cdv ct), osl⟩ ∧
    codeIn K cdv qual = true ∧ ∀ (s : Shared) a b, K.In s.heap → BindsTo s (fnOf "__init__" qual params (initBody p1 p2 p3 p4 p5) initScope dV kV doc pm an cdv ct) ⟨[a, b], []⟩ [((("self" : Str)), a), (("told" : Str), b)]

section
variable {prog : Program} {w : World} {A : Around} {R : Result → Shared → Prop} {E : Value → Shared → Prop} {h : Heap} {g : Array GenState} {d : Drawn} {t : Nat} {os : OsState}
variable {K : Frag} {C U fI e t0 : Addr} {v : Value}

theorem init_run (EK : ExcK K C U fI) (IK : InitK K fI) (X : K.In h) (hlim : h.NoLimit) (hroom : A.depth < recursionLimit) (hx : h.get? e = some (rawExc C t0))
    (hq : ∀ h' tk' dd, Told h' C e dd t0 v → (∀ b o, b ≠ e → h.get? b = some o → h'.get? b = some o) → h.get? dd = Option.none → R (.ok (.ret .none)) ⟨h', g, d, tk', os⟩) :
    codeAny (model prog w) A (.call (.ref fI) ⟨[.ref e, v], []⟩) R ⟨h, g, d, t, os⟩ := by
  obtain ⟨oc, od, osl, qual, params, p1, p2, p3, p4, p5, dV, kV, doc, pm, an, cdv, ct, hl, hcd, hb⟩ := IK.fn
  refine codeAny_call_def (fd := fnOf "__init__" qual params (initBody p1 p2 p3 p4 p5) initScope dV kV doc pm an cdv ct) (body := initBody p1 p2 p3 p4 p5) (binds := [("self", .ref e), ("told", v)]) hroom (X _ _ hl) rfl hlim (codeRec_of X hcd) rfl (hb _ _ _ X) (show ∀ x ∈ initScope.names, x.2 ≠ .cell by decide) (fun x hx => by
    cases hx with
    | head => rfl
    | tail _ hx =>
      cases hx with
      | head => rfl
      | tail _ hx => cases hx) (fun h₀ hns hk₀ => ?_)
  refine wpAny_execs_cons (plainObj_wpAny_Assign_Attribute ?_)
  refine wpAny_Name (wpAny_loadName_local rfl rfl hns rfl ?_) (by decide)
  refine wpAny_Name (wpAny_loadName_local rfl rfl hns rfl ?_) (by decide)
  refine exc_store EK (fun a o q => hk₀ a o (X a o q)) (hk₀ _ _ hx) fun h' tk' dd T k n => ?_
  refine wpAny_execs_nil (hq h' tk' dd T (fun b o hb e => k b o hb (hk₀ b o e)) ?_)
  cases q : h.get? dd with
  | none => rfl
  | some o => rw [hk₀ _ _ q] at n; cases n

theorem make_told {Q : Value → Shared → Prop} (EK : ExcK K C U fI) (IK : InitK K fI) (X : K.In h) (hlim : h.NoLimit) (hroom : (A.under (.builtin "type.__call__" ⟨.ref C :: [v], []⟩)).depth < recursionLimit)
    (hq : ∀ h' tk' e dd t0, Told h' C e dd t0 v → (∀ b o, h.get? b = some o → h'.get? b = some o) → h.get? e = Option.none → h.get? dd = Option.none → Q (.ref e) ⟨h', g, d, tk', os⟩) :
    wpAny (model prog w) A (call (.ref C) [v]) Q E ⟨h, g, d, t, os⟩ := by
  refine wpAny_call (exc_make EK X (by rw [sizeLine_eq]; show (1 : Nat) ≤ _; decide) ?_)
  have k : ∀ b o, h.get? b = some o → ((h.push { cls := .type "tuple", data := .seq ([v] : List Value).toArray }).push (rawExc C h.objs.size)).get? b = some o := fun b o e => Heap.get?_push_of_some _ (Heap.get?_push_of_some _ e)
  have hx : ((h.push { cls := .type "tuple", data := .seq ([v] : List Value).toArray }).push (rawExc C h.objs.size)).get? (h.objs.size + 1) = some (rawExc C h.objs.size) := by heap_get
  refine init_run EK IK (fun a o q => k a o (X a o q)) (hlim.keeps k) hroom hx fun h' tk' dd T k' n => ⟨rfl, hq h' tk' _ dd _ T (fun b o e => k' b o (Nat.ne_of_lt (Nat.lt_succ_of_lt (Heap.lt_size e))) (k b o e)) (Heap.get?_none_of_le (Nat.le_succ _)) ?_⟩
  cases q : h.get? dd with
  | none => rfl
  | some o => rw [k _ _ q] at n; cases n
end
end Mine
end

section
open PySem PySem.W PySem.Calls PyProof.Rows Builtin Builtin.ObjectAttr
namespace Mine
section
variable {prog : Program} {w : World} {A : Around} {E : Value → Shared → Prop} {s : Shared} {env : Env}
variable {K : Frag} {C U fI : Addr}

theorem exc_hasBase (C U : Addr) : (Value.ref C :: excTail U).contains (.type "BaseException") = true := by rw [has_tail]; exact ebF.hasBase

theorem raiseStmt_told {x : Sem Value} {Q : Flow → Shared → Prop} (EK : ExcK K C U fI)
    (h : wpAny (model prog w) A x (fun v s₁ => ∃ e dd t0 tv, v = .ref e ∧ K.In s₁.heap ∧ Told s₁.heap C e dd t0 tv ∧ wpAny (model prog w) A (raiseNew (.ref e) : Sem Flow) Q E s₁) E s) :
    wpAny (model prog w) A (raiseStmt env (some x) none) Q E s := by
  have hcB := exc_hasBase C U
  obtain ⟨nm, N, bs, sub, k0, k1, k2, k3, k5, hl⟩ := EK.obj
  unfold raiseStmt
  refine wpAny_bind (wpAny_mono h (fun v s₁ h₁ => ?_) fun _ _ x => x)
  obtain ⟨e, dd, t0, tv, rfl, X, T, hE⟩ := h₁
  have hC := X _ _ hl
  have he := T.obj
  obtain ⟨hp, g, d, tk, os⟩ := s₁
  repeat (first | with_reducible refine wpAny_loadPart_at he ?_ | with_reducible refine wpAny_loadPart_at hC ?_ | (with_reducible refine wpAny_isSubtype_exc hC ?_; rw [hcB]) | wp_step)
  exact hE

theorem raise_exec {x : Str} {np cpos pos : Pos} {arg : Expr} {Q : Flow → Shared → Prop} (EK : ExcK K C U fI) (IK : InitK K fI) (hkeep : keepIn K (.ref C) = true) (X : K.In s.heap)
    (hroom : ∀ v, (A.under (.builtin "type.__call__" ⟨.ref C :: [v], []⟩)).depth < recursionLimit)
    (hname : ∀ Q E, Q (.ref C) s → wpAny (model prog w) A (eval (.Name x np) env) Q E s)
    (h : wpAny (model prog w) A (eval arg env) (fun v s₁ => K.In s₁.heap ∧ s₁.heap.NoLimit ∧ ∀ h' tk' e dd t0, Told h' C e dd t0 v → (∀ b o, s₁.heap.get? b = some o → h'.get? b = some o) → s₁.heap.get? e = none → s₁.heap.get? dd = none →
      wpAny (model prog w) A (raiseNew (.ref e) : Sem Flow) Q E { s₁ with heap := h', toks := tk' }) E s) (he : starEach [arg] env = [(false, eval arg env)] := by rfl) :
    wpAny (model prog w) A (exec (.Raise (some (.Call (.Name x np) [arg] [] cpos)) none pos) env) Q E s := by
  rw [arm_exec_Raise]
  refine wpAny_bind (wpAny_standAt (raiseStmt_told EK (wpAny_bind (wpAny_mono (wpAny_Call_ofName (hname _ _ (callWith_K (h₀ := s.heap) X hkeep (args_cons (wpAny_mono h (fun v s₁ h₁ => args_nil ?_) fun _ _ x => x) he) he))) (fun v s₃ h₃ => wpAny_bind (wpAny_standAt (wpAny_pure h₃))) fun _ _ x => x))))
  obtain ⟨X₁, hlim, h₁⟩ := h₁
  refine ⟨X₁, ?_⟩
  obtain ⟨hp, g, d, tk, os⟩ := s₁
  exact make_told EK IK X₁ hlim (hroom v) fun h' tk' e dd t0 T k n1 n2 => ⟨e, dd, t0, v, rfl, fun a o q => k a o (X₁ a o q), T, h₁ h' tk' e dd t0 T k n1 n2⟩

theorem entry_unchain : entryFor table "proto.unchain" = some Builtin.«proto.unchain» := entryFor_of_tree (by kernel_rfl)
/-- raised while another one is handled, whose own context is none -/
theorem raiseNew_held {e e0 : Addr} {o o0 : Obj} {vs vs0 : Array Value} {Q : Flow → Shared → Prop} (hh : A.handled = some (.ref e0)) (hne : e0 ≠ e) (he0 : s.heap.get? e0 = some o0) (hd0 : o0.data = .fields vs0) (h2 : vs0[2]? = some .none)
    (he : s.heap.get? e = some o) (hd : o.data = .fields vs) (hsz : 2 < vs.size)
    (h : E (.ref e) { s with heap := s.heap.update e (Obj.mapFields (·.setIfInBounds 2 (.ref e0))) }) : wpAny (model prog w) A (raiseNew (.ref e) : Sem Flow) Q E s := by
  unfold raiseNew
  refine wpAny_bind (wpAny_handled ?_)
  rw [hh]
  dsimp only
  rw [if_pos (show (Value.ref e0 != Value.ref e) = true from by simpa using hne)]
  refine wpAny_bind (wpAny_holding (wpAny_runValue (codeAny_builtin entry_unchain ?_)))
  unfold Builtin.«proto.unchain»
  refine wpAny_bind (wpAny_field he0 hd0 h2 ?_)
  rw [if_pos (show (Value.none == Value.none) = true from rfl)]
  refine wpAny_pure ?_
  refine wpAny_bind (wpAny_setField he hd hsz ?_)
  exact wpAny_throw h
end

def Cx.around (cx : Cx) (A' : Around) : Cx := { cx with A := A' }
section
variable {n : Nat} {cx : Cx} {ρ : Rho} {μ : Mu} {P P' : Know} {s s' : Shared} {X : Ex → Rho → Mu → Prop} {Q : D → Rho → Mu → Prop} {QF : FlowD → Rho → Mu → Prop} {pos : Pos} {A' : Around}
theorem Sat.around (S : Sat cx ρ μ P s) (A' : Around) : Sat (cx.around A') ρ μ P s := ⟨S.same, S.ns, S.fz, S.mu, S.nd, S.dj, S.stays, S.mb, S.fr, S.kp, S.sp, S.lb, S.lk⟩
theorem Sat.unaround (S : Sat (cx.around A') ρ μ P s) : Sat cx ρ μ P s := ⟨S.same, S.ns, S.fz, S.mu, S.nd, S.dj, S.stays, S.mb, S.fr, S.kp, S.sp, S.lb, S.lk⟩
theorem ExIn.around {e : Value} {x : Ex} {st : Tr} (h : ExIn cx μ P s e x st) (A' : Around) : ExIn (cx.around A') μ P s e x st := by
  obtain ⟨⟨a, b, c, d, f, h1, h2, h3, h4, h5, h6, h7, h8, h9, h10, h11⟩⟩ := h
  exact ⟨⟨a, b, c, d, f, h1, h2, h3, h4, h5, h6, h7, h8, h9, h10, h11⟩⟩
theorem ExIn.unaround {e : Value} {x : Ex} {st : Tr} (h : ExIn (cx.around A') μ P s e x st) : ExIn cx μ P s e x st := by
  obtain ⟨⟨a, b, c, d, f, h1, h2, h3, h4, h5, h6, h7, h8, h9, h10, h11⟩⟩ := h
  exact ⟨⟨a, b, c, d, f, h1, h2, h3, h4, h5, h6, h7, h8, h9, h10, h11⟩⟩

theorem tc_weight (C : Addr) (r : List Value) : (Code.builtin "type.__call__" ⟨.ref C :: r, []⟩).weight = 1 := by kernel_rfl
theorem tc_room {A : Around} {C : Addr} {r : List Value} (h : A.depth < 950) : (A.under (.builtin "type.__call__" ⟨.ref C :: r, []⟩)).depth < recursionLimit := by
  show A.depth + _ < 1000
  rw [tc_weight]; omega

theorem told_exIn {C e dd t0 : Addr} {v : Value} {d : D} {h' : Heap} {tk' : Nat} (S : Sat cx ρ μ P s) (T : Told h' C e dd t0 v) (hv : In P v d) (k : ∀ b o, s.heap.get? b = some o → h'.get? b = some o) (n1 : s.heap.get? e = none) (n2 : s.heap.get? dd = none) :
    Sat cx ρ μ P { s with heap := h', toks := tk' } ∧ ExIn cx μ P { s with heap := h', toks := tk' } (.ref e) ⟨C, d, true⟩ .raw :=
  ⟨S.keeps ⟨h', tk', rfl⟩ k, ⟨e, dd, _, _, t0, rfl, T.obj, rfl, rfl, rfl, ⟨rfl, fun _ => rfl⟩, T.ne, ⟨_, T.ns, v, if_pos rfl, hv⟩, S.apart_new n1, S.apart_new n2, rfl⟩⟩

/-- an exception of the text is raised -/
theorem s_raise {K : Frag} {C U fI : Addr} {x : Str} {np cpos : Pos} {arg : Expr} (CO : CxOk n cx) (EK : ExcK cx.g.K C U fI) (IK : InitK cx.g.K fI) (hkeep : keepIn cx.g.K (.ref C) = true) (hk : cx.env.scope.names.lookup x = some .globalImplicit) (hx : nsIn cx.g.K mainGlobals x = some (some (.ref C)))
    (h : OkE cx arg ρ μ (fun d ρ₁ μ₁ => X ⟨C, d, true⟩ ρ₁ μ₁) X) (hd : (x == ("__debug__" : Str)) = false := by decide) (he : starEach [arg] cx.env = [(false, eval arg cx.env)] := by rfl) :
    OkS cx (.Raise (some (.Call (.Name x np) [arg] [] cpos)) none pos) ρ μ QF X := fun P s S => by
  refine raise_exec EK IK hkeep (S.K CO) (fun v => tc_room (by have := CO.depth; omega)) (fun Q E q => e_nameK CO S hk hx hd q) (h.run S (Le.refl P) fun P₁ v d ρ₁ μ₁ s₁ l₁ S₁ r₁ q₁ => ⟨S₁.K CO, CO.T.nolimit.keeps S₁.stays, fun h' tk' e dd t0 T k n1 n2 => ?_⟩) he
  obtain ⟨S₂, X₂⟩ := told_exIn (tk' := tk') S₁ T r₁ k n1 n2
  exact wpAny_raiseNew_none CO.hh ⟨_, _, ρ₁, μ₁, P₁, l₁, S₂, X₂, q₁⟩
end
end Mine
end

section
open PySem PySem.W PySem.Calls PyProof.Rows Builtin Builtin.ObjectAttr
namespace Mine
section
variable {n : Nat} {cx : Cx} {ρ : Rho} {μ : Mu} {P P' : Know} {s s' : Shared} {X : Ex → Rho → Mu → Prop} {Q : D → Rho → Mu → Prop} {QF : FlowD → Rho → Mu → Prop} {pos : Pos} {A' : Around}

theorem exc_matches {M : Model} {A : Around} {E : Value → Shared → Prop} {K : Frag} {C U fI e : Addr} {oe : Obj} {Q : Bool → Shared → Prop} (EK : ExcK K C U fI) (X : K.In s.heap) (he : s.heap.get? e = some oe) (hcls : oe.cls = .ref C)
    (hq : Q true s) : wpAny M A (excMatches (.ref e) (.ref C)) Q E s := by
  obtain ⟨nm, N, bs, sub, k0, k1, k2, k3, k5, hl⟩ := EK.obj
  obtain ⟨hp, g, d, tk, os⟩ := s
  exact wpAny_excMatches_sub_self (X _ _ hl) he hcls (by rw [show (excTail U).contains (.type "BaseException") = ([.type "Exception", .type "BaseException", .type "object"] : List Value).contains (.type "BaseException") from by rw [List.contains_cons]; rfl]; exact ebF.hasBase) hq

theorem nameK {M : Model} {A : Around} {x : Str} {f : Value} {R : Value → Shared → Prop} {E : Value → Shared → Prop} {p : Pos} (C : CxOk n cx) (S : Sat cx ρ μ P s) (hk : cx.env.scope.names.lookup x = some .globalImplicit) (hx : nsIn cx.g.K mainGlobals x = some (some f)) (hd : (x == ("__debug__" : Str)) = false)
    (h : R f s) : wpAny M A (eval (.Name x p) cx.env) R E s :=
  Name_function_global C.kind hk (loadGlobal_global (env := cx.env) (C.glob ▸ C.T.g.keeps S.stays) (mg_of C.K C.T.g hx) h) hd
theorem nameL {M : Model} {A : Around} {x : Str} {d : D} {R : Value → Shared → Prop} {E : Value → Shared → Prop} {p : Pos} (C : CxOk n cx) (S : Sat cx ρ μ P s) (hk : cx.env.scope.names.lookup x = some .local) (hx : ρ.lookup x = some d) (hd : (x == ("__debug__" : Str)) = false)
    (h : ∀ v, In P v d → R v s) : wpAny M A (eval (.Name x p) cx.env) R E s := by
  obtain ⟨m, hm, hv⟩ := S.ns
  obtain ⟨v, h1, h2⟩ := hv x d hx
  exact wpAny_Name (wpAny_loadName_local (env := cx.env) C.kind hk (C.hL ▸ hm) h1 (h v h2)) hd

/-- an error that leaves an own activation -/
theorem noted_back (CO : CxOk n cx) (FC : FnCx cx) {e : Value} {x : Ex} {st : Tr} {E : Value → Shared → Prop} (hA : A'.frames = cx.A.frames) (S : Sat cx ρ μ P s) (X : ExIn cx μ P s e x st)
    (h : ∀ s', Sat cx ρ μ P s' → ExIn cx μ P s' e x .noted → E e s') : notedBy cx.M A' cx.env (cameBackBy cx.M cx.A cx.env E) e s := by
  obtain ⟨outer, hfs⟩ := FC.hfs
  refine note_frame (cx := cx.around A') (hA.trans CO.hA) hfs FC.hf (S.around A') (X.around A') fun s₁ S₁ X₁ => ?_
  exact came_back FC.hf S₁.unaround X₁.unaround h

/-- a suite that passes one exception of the text on as another -/
theorem s_tryRaise {C1 C2 U fI : Addr} {x1 x2 y : Str} {p1 p2 p3 p4 p5 p6 : Pos} {body : List Stmt} (CO : CxOk n cx) (FC : FnCx cx) (EK1 : ExcK cx.g.K C1 U fI) (EK2 : ExcK cx.g.K C2 U fI) (IK : InitK cx.g.K fI) (hkeep : keepIn cx.g.K (.ref C2) = true)
    (hk1 : cx.env.scope.names.lookup x1 = some .globalImplicit) (hx1 : nsIn cx.g.K mainGlobals x1 = some (some (.ref C1))) (hk2 : cx.env.scope.names.lookup x2 = some .globalImplicit) (hx2 : nsIn cx.g.K mainGlobals x2 = some (some (.ref C2)))
    (hk3 : cx.env.scope.names.lookup y = some .local)
    (h : OkX cx body ρ μ QF (fun x ρ₁ μ₁ => x.cls = C1 ∧ x.fresh = true ∧ ∃ d, ρ₁.lookup y = some d ∧ X ⟨C2, d, false⟩ ρ₁ μ₁))
    (hd1 : (x1 == ("__debug__" : Str)) = false := by decide) (hd2 : (x2 == ("__debug__" : Str)) = false := by decide) (hd3 : (y == ("__debug__" : Str)) = false := by decide) :
    OkS cx (.Try body [.ExceptHandler (some (.Name x1 p1)) none [.Raise (some (.Call (.Name x2 p2) [.Name y p3] [] p4)) none p5] p6] [] [] pos) ρ μ QF X := fun P s S => by
  obtain ⟨outer, hfs⟩ := FC.hfs
  refine wpAny_Try_except (h.then S (fun P₁ f fd ρ₁ μ₁ s₁ l₁ S₁ r₁ q₁ => ?_) fun P₁ e x st ρ₁ μ₁ s₁ l₁ S₁ X₁ q₁ => ?_)
  · cases r₁ with
    | next => exact wpAny_execs_nil ⟨_, ρ₁, μ₁, P₁, l₁, S₁, .next, q₁⟩
    | brk => exact ⟨_, ρ₁, μ₁, P₁, l₁, S₁, .brk, q₁⟩
    | cont => exact ⟨_, ρ₁, μ₁, P₁, l₁, S₁, .cont, q₁⟩
    | ret h => exact ⟨_, ρ₁, μ₁, P₁, l₁, S₁, .ret h, q₁⟩
  · obtain ⟨rfl, hfr, d, hy, q₁⟩ := q₁
    obtain ⟨e', rfl⟩ := X₁.ref
    refine note_frame CO.hA hfs FC.hf S₁ X₁ fun s₂ S₂ X₂ => ?_
    refine set_flight (Lf := cx.L) Option.none (.inr rfl) FC.hf (by intro q; cases q) S₂ X₂ fun s₃ S₃ X₃ => ?_
    have X₃ : ExIn cx μ₁ P₁ s₃ (.ref e') x .out := X₃
    have he' := X₃.ex
    obtain ⟨e₂, dd, oe, vs, t, q, he, hcls, hdict, hdat, ⟨h0, h2⟩, _⟩ := he'
    cases q
    have h2 := h2 hfr
    refine wpAny_handleBy_cons (codeAny_handlers_test (nameK CO S₃ hk1 hx1 hd1 (exc_matches EK1 (S₃.K CO) he hcls ?_))) (by intro q; cases q)
    refine codeAny_handlers_suite ?_
    refine set_flight (cx := cx.around _) (Lf := cx.L) Option.none (.inr rfl) FC.hf (by intro q; cases q) (S₃.around _) (X₃.around _) fun s₄ S₄ X₄ => ?_
    have S₄ := S₄.unaround
    have X₄ : ExIn cx μ₁ P₁ s₄ (.ref e') x .out := X₄.unaround
    obtain ⟨e₄, dd₄, oe₄, vs₄, t₄, q, he₄, _, _, hdat₄, ⟨_, h2₄⟩, _, _, hap₄, _⟩ := id X₄.ex
    cases q
    have h2₄ := h2₄ hfr
    refine wpAny_execs_cons (raise_exec EK2 IK hkeep (S₄.K CO) (fun v => tc_room (by have := CO.depth; show cx.A.depth < 950; omega)) (fun Q E q => nameK CO S₄ hk2 hx2 hd2 q) (nameL CO S₄ hk3 hy hd3 fun v hv => ⟨S₄.K CO, CO.T.nolimit.keeps S₄.stays, fun h' tk' e dd t0 T k n1 n2 => ?_⟩))
    obtain ⟨S₅, X₅⟩ := told_exIn (tk' := tk') S₄ T hv k n1 n2
    have hne : e' ≠ e := fun q => by subst q; rw [he₄] at n1; cases n1
    refine raiseNew_held (A := cx.A.mark (some (.ref e'))) rfl hne (k _ _ he₄) hdat₄ h2₄ T.obj rfl (show 2 < 6 by decide) ?_
    have ape : Apart cx μ₁ P₁ e := S₄.apart_new n1
    have hef := Heap.get?_update_self (Obj.mapFields (·.setIfInBounds 2 (.ref e'))) T.obj (Obj.isFreed_of_fields (Obj.data_mapFields (vs := #[.ref t0, .none, .none, .none, .bool false, .none]) rfl _))
    have oth : ∀ b, b ≠ e → (h'.update e (Obj.mapFields (·.setIfInBounds 2 (.ref e')))).get? b = h'.get? b := fun b hb => Heap.get?_update_other _ _ (Ne.symm hb)
    have S₆ : Sat cx ρ₁ μ₁ P₁ { s₄ with heap := h'.update e (Obj.mapFields (·.setIfInBounds 2 (.ref e'))), toks := tk' } := S₅.away ⟨_, tk', rfl⟩ [e] (fun a ha => by rw [List.mem_singleton.mp ha]; exact ape) fun b o hb q => (oth b fun z => hb (List.mem_singleton.mpr z)).trans q
    have X₆ : ExIn cx μ₁ P₁ { s₄ with heap := h'.update e (Obj.mapFields (·.setIfInBounds 2 (.ref e'))), toks := tk' } (.ref e) ⟨C2, d, false⟩ .raw := by
      obtain ⟨oD, esD, epD, a1, a2⟩ := T.ns
      exact ⟨e, dd, _, _, t0, rfl, hef, rfl, rfl, rfl, ⟨rfl, fun q => by cases q⟩, T.ne, ⟨_, ⟨oD, esD, epD, (oth dd (Ne.symm T.ne)).trans a1, a2⟩, v, if_pos rfl, hv⟩, ape, S₄.apart_new n2, rfl⟩
    exact noted_back CO FC rfl S₆ X₆ fun s' S' X' => ⟨_, _, ρ₁, μ₁, P₁, l₁, S', X', q₁⟩

/-- the frame's names are let go -/
theorem Sat.resetL (S : Sat cx ρ μ P s) {h' : Heap} {tk : Nat} {m' : Str → Option Value} (hsb : Heap.SameBut cx.L s.heap h') (hn : h'.Ns cx.L m') : Sat cx [] μ P { s with heap := h', toks := tk } := by
  obtain ⟨m, hm, _⟩ := S.ns
  have sep := S.sp cx.L (.inl rfl)
  refine ⟨S.same.trans ⟨_, _, rfl⟩, ⟨_, hn, fun y d' hy => by cases hy⟩, fun a o h => ?_, fun e he => ?_, S.nd, S.dj, fun b o e => ?_, S.mb, ?_, fun b o hb => ?_, S.sp, S.lb, S.lk⟩
  · refine (hsb.2 a fun e => ?_).trans (S.fz a o h)
    subst e; exact sep.2 o h
  · obtain ⟨o, h1, h2⟩ := S.mu e he
    refine ⟨o, (hsb.2 e.1 fun q => ?_).trans h1, h2⟩
    exact sep.1 (q ▸ List.mem_map_of_mem he)
  · refine (hsb.2 b fun q => ?_).trans (S.stays b o e)
    subst q; rw [S.lb] at e; cases e
  · refine funFrames_of S.fr fun b o _ ho hd => ?_
    by_cases q : b = cx.L
    · subst q
      obtain ⟨o', _, _, h1, h2, _⟩ := hn
      exact ⟨o', h1, fun vs q => by rw [h2] at q; cases q⟩
    · exact ⟨o, (hsb.2 b q).trans ho, hd⟩
  · have : b ≠ cx.L := fun q => S.lk o (q ▸ hb)
    obtain ⟨h1, sl, h2⟩ := S.kp b o hb
    exact ⟨fun h => (hsb.2 b this).trans (h1 h), sl, (hsb.2 b this).trans h2⟩

/-- a suite that hands out what the exception tells -/
theorem s_tryTold {C1 U fI : Addr} {x1 y : Str} {p1 p2 p3 p4 p6 : Pos} {body : List Stmt} (CO : CxOk n cx) (FC : FnCx cx) (EK1 : ExcK cx.g.K C1 U fI)
    (hk1 : cx.env.scope.names.lookup x1 = some .globalImplicit) (hx1 : nsIn cx.g.K mainGlobals x1 = some (some (.ref C1)))
    (hk3 : cx.env.scope.names.lookup y = some .local)
    (h : OkX cx body ρ μ QF (fun x ρ₁ μ₁ => x.cls = C1 ∧ (∀ P v, In P v x.told → handedIn v = true) ∧ QF (.ret x.told) [] μ₁))
    (hd1 : (x1 == ("__debug__" : Str)) = false := by decide) (hd3 : (y == ("__debug__" : Str)) = false := by decide) :
    OkS cx (.Try body [.ExceptHandler (some (.Name x1 p1)) (some y) [.Return (some (.Attribute (.Name y p2) "told" p3)) p4] p6] [] [] pos) ρ μ QF X := fun P s S => by
  obtain ⟨outer, hfs⟩ := FC.hfs
  refine wpAny_Try_except (h.then S (fun P₁ f fd ρ₁ μ₁ s₁ l₁ S₁ r₁ q₁ => ?_) fun P₁ e x st ρ₁ μ₁ s₁ l₁ S₁ X₁ q₁ => ?_)
  · cases r₁ with
    | next => exact wpAny_execs_nil ⟨_, ρ₁, μ₁, P₁, l₁, S₁, .next, q₁⟩
    | brk => exact ⟨_, ρ₁, μ₁, P₁, l₁, S₁, .brk, q₁⟩
    | cont => exact ⟨_, ρ₁, μ₁, P₁, l₁, S₁, .cont, q₁⟩
    | ret h => exact ⟨_, ρ₁, μ₁, P₁, l₁, S₁, .ret h, q₁⟩
  · obtain ⟨rfl, hhd, q₁⟩ := q₁
    obtain ⟨e', rfl⟩ := X₁.ref
    refine note_frame CO.hA hfs FC.hf S₁ X₁ fun s₂ S₂ X₂ => ?_
    refine set_flight (Lf := cx.L) Option.none (.inr rfl) FC.hf (by intro q; cases q) S₂ X₂ fun s₃ S₃ X₃ => ?_
    have X₃ : ExIn cx μ₁ P₁ s₃ (.ref e') x .out := X₃
    obtain ⟨e₂, dd, oe, vs, t, q, he, hcls, hdict, hdat, _⟩ := id X₃.ex
    cases q
    refine wpAny_handleBy_cons (codeAny_handlers_test (nameK CO S₃ hk1 hx1 hd1 (exc_matches EK1 (S₃.K CO) he hcls ?_))) (by intro q; cases q)
    refine codeAny_handlers_suite_as ?_
    refine set_flight (cx := cx.around _) (Lf := cx.L) Option.none (.inr rfl) FC.hf (by intro q; cases q) (S₃.around _) (X₃.around _) fun s₄ S₄ X₄ => ?_
    have S₄ := S₄.unaround
    have X₄ : ExIn cx μ₁ P₁ s₄ (.ref e') x .out := X₄.unaround
    obtain ⟨m, hm, hS⟩ := S₄.setLs (x := y) (In.addr (P := P₁) e')
    have hkp : (cx.env.scope.kind == .class || (cx.env.scope.kind == .module && cx.env.locals != cx.env.globals)) = false := by rw [CO.kind]; rfl
    refine wpAny_storeName_local (env := cx.env) hk3 (CO.hL ▸ hm) (fun h' hn hs => ?_) hkp
    have S₅ := hS h' (s₄.toks + 1) (CO.hL ▸ hn) (CO.hL ▸ hs)
    obtain ⟨e₄, dd₄, oe₄, vs₄, t₄, q, he₄, hcls₄, hdict₄, hdat₄, _, hne₄, ⟨mA, hns₄, tv, htv, hin⟩, hap₄, hapd, _⟩ := id X₄.ex
    cases q
    have keep : ∀ b, Apart cx μ₁ P₁ b → h'.get? b = s₄.heap.get? b := fun b hb => hs.2 b (CO.hL ▸ hb.2.2.2.1)
    refine wpAny_execs_cons (wpAny_Return_some (Attribute_name (nameL CO S₅ hk3 (d := .addr e') (by rw [List.lookup_cons, beq_self_eq_true]) hd3 fun v hv => ?_)))
    cases hv with
    | addr =>
      refine exc_read EK1 (S₅.K CO) ((keep e' hap₄).trans he₄) hcls₄ (by unfold notCls; rw [hdat₄]) hdict₄ (hns₄.at fun o e => (keep dd₄ hapd).trans e) htv (hhd _ _ hin) fun t' => ?_
      obtain ⟨m₅, hm₅, _⟩ := S₅.ns
      refine wpAny_nameGoes (env := cx.env) hk3 (CO.hL ▸ hm₅) hkp fun h₆ m₆ hn₆ hs₆ => ?_
      have S₆ : Sat cx [] μ₁ P₁ { s₄ with heap := h₆, toks := t' + 1 } := (S₅.toks t').resetL (CO.hL ▸ hs₆) (CO.hL ▸ hn₆)
      exact ⟨_, [], μ₁, P₁, l₁, S₆, .ret hin, q₁⟩
end
end Mine
end

section
open PySem PySem.W PySem.Calls PyProof.Rows
namespace Mine
section
variable {n : Nat} {cx : Cx} {ρ : Rho} {μ : Mu} {P P' : Know} {s s' : Shared} {X : Ex → Rho → Mu → Prop} {Q : D → Rho → Mu → Prop} {QF : FlowD → Rho → Mu → Prop} {QL : List D → Rho → Mu → Prop} {QU : Unit → Rho → Mu → Prop} {pos : Pos}

theorem subscripted_get {prog : Program} {w : World} {A : Around} {E : Value → Shared → Prop} {slice : Expr} {o i : Value} {Q : Value → Shared → Prop} (h : wpAny (model prog w) A (getItem o i) Q E s) : wpAny (model prog w) A (subscripted slice false o i) Q E s := by
  unfold subscripted
  split
  · exact wpAny_operating h
  · rename_i h; cases h
  · exact wpAny_operating h
theorem tail_get {prog : Program} {w : World} {A : Around} {E : Value → Shared → Prop} {value slice : Expr} {o i : Value} {T id : String} {Q : Value → Shared → Prop} (hT : s.TypeIs o T)
    (hl : typeLookup (.type T) "__getitem__" = pure (some (.builtin id))) (h : wpAny (model prog w) A (getItem o i) Q E s) : wpAny (model prog w) A (subscriptTail value slice o i) Q E s := by
  unfold subscriptTail
  refine wpAny_bind ?_
  rw [getitemInPython_of_ne hT.not_modules]
  refine wpAny_bind (wpAny_specialOf hT hl ?_)
  have fin : wpAny (model prog w) A (subscripted slice false o i) (fun r s₃ => wpAny (model prog w) A (letTemporaryGo value o r >>= fun _ => pure r) Q E s₃) E s :=
    wpAny_mono (subscripted_get h) (fun r s₃ h₃ => wpAny_bind (wpAny_letTemporaryGo (wpAny_pure h₃))) fun _ _ x => x
  first
    | exact wpAny_pure (wpAny_bind fin)
    | exact wpAny_bind (wpAny_pure (wpAny_bind fin))
    | exact wpAny_bind fin

/-- an item asked of a value -/
def OkSub (cx : Cx) (a i : D) (ρ : Rho) (μ : Mu) (Q : D → Rho → Mu → Prop) (X : Ex → Rho → Mu → Prop) : Prop :=
  ∀ P s v u, Sat cx ρ μ P s → In P v a → In P u i → ∃ T id, s.TypeIs v T ∧ typeLookup (.type T) "__getitem__" = pure (some (.builtin id)) ∧ wpAny cx.M cx.A (getItem v u) (VPost cx P In Q) (EPost cx P X) s
abbrev kIx (cx : Cx) (Q : D → Rho → Mu → Prop) (X : Ex → Rho → Mu → Prop) (a i : D) (ρ : Rho) (μ : Mu) : Prop := OkSub cx a i ρ μ Q X
theorem e_sub {value slice : Expr} (h : OkE cx value ρ μ (kE cx slice (kIx cx Q X) X) X) : OkE cx (.Subscript value slice pos) ρ μ Q X := fun P s S =>
  Subscript_ (h.run S (Le.refl P) fun P₁ a b ρ₁ μ₁ s₁ l₁ S₁ r₁ q₁ => q₁.run S₁ l₁ fun P₂ a₂ b₂ ρ₂ μ₂ s₂ l₂ S₂ r₂ q₂ => by
    obtain ⟨T, id, hT, hl, w⟩ := q₂ P₂ s₂ a a₂ S₂ (r₁.mono l₂) r₂
    exact tail_get hT hl (wpLe (l₁.trans l₂) w))

theorem sub_list {ds : List D} {k : Int} {d : D} (h0 : 0 ≤ k) (h1 : k < 2 ^ 63) (hd : ds[k.toNat]? = some d) (h : Q d ρ μ) : OkSub cx (.list ds) (.int k) ρ μ Q X := fun P s v u S hv hu => by
  apply In.eList _ hv; intro _ _ _ _ hp hc hdt hr
  apply In.eInt _ hu; intro t
  have hl := S.known_list hp hc.1 hdt
  obtain ⟨x, hx, hin⟩ := hr.get hd
  exact ⟨_, _, hl.typeIs, slot_list_getitem.lookup, wpAny_getItem_list hl h0 h1 (by simpa using hx) (.mk S hin h)⟩
/-- the last one -/
theorem sub_last {ds : List D} {d : D} (hz : ds.length ≤ 1000000) (hd : ds[ds.length - 1]? = some d) (h : Q d ρ μ) : OkSub cx (.list ds) (.int (-1)) ρ μ Q X := fun P s v u S hv hu => by
  apply In.eList _ hv; intro _ _ _ _ hp hc hdt hr
  apply In.eInt _ hu; intro t
  have hl := S.known_list hp hc.1 hdt
  have hlen : 0 < ds.length := by
    cases ds with
    | nil => cases hd
    | cons _ _ => exact Nat.succ_pos _
  obtain ⟨x, hx, hin⟩ := hr.get hd
  refine ⟨_, _, hl.typeIs, slot_list_getitem.lookup, wpAny_getItem_list_neg hl (by decide) (by rw [List.size_toArray, hr.length]; omega) (by decide) ?_ (.mk S hin h)⟩
  rw [List.size_toArray, hr.length, show ((-1 : Int) + (ds.length : Int)).toNat = ds.length - 1 by omega]
  simpa using hx
theorem sub_tuple {ds : List D} {k : Int} {d : D} (h0 : 0 ≤ k) (h1 : k < 2 ^ 63) (hd : ds[k.toNat]? = some d) (h : Q d ρ μ) : OkSub cx (.tuple ds) (.int k) ρ μ Q X := fun P s v u S hv hu => by
  apply In.eTuple _ hv; intro a vs m o hp hc hdt hr
  apply In.eInt _ hu; intro t
  have ht : IsTup s.heap a vs.toArray := ⟨o, S.fz _ _ hp, hc.1, _, hdt⟩
  obtain ⟨x, hx, hin⟩ := hr.get hd
  have hlt : k.toNat < vs.length := (List.getElem?_eq_some_iff.mp hx).1
  refine ⟨_, _, ht.typeIs, slot_tuple_getitem.lookup, getItem_tuple (j := k.toNat) ht (by omega) h1 ?_ (by simpa using hx) (.mk S hin h)⟩
  unfold seqIndex?
  rw [List.size_toArray]
  simp only [show ¬ (k < 0) by omega, if_false]
  rw [if_pos (by simp only [Bool.and_eq_true, decide_eq_true_eq]; omega)]

/-- slices -/
def OkPart (cx : Cx) (e : Option Expr) (ρ : Rho) (μ : Mu) (Q : Option Int → Rho → Mu → Prop) (X : Ex → Rho → Mu → Prop) : Prop := Ok cx (fun _ v i => IsPart v i) (evalPart e cx.env) ρ μ Q X
theorem p_none {Q : Option Int → Rho → Mu → Prop} (h : Q Option.none ρ μ) : OkPart cx Option.none ρ μ Q X := fun P s S => wpAny_pure (.mk S .none h)
theorem p_some {e : Expr} {Q : Option Int → Rho → Mu → Prop} (h : OkE cx e ρ μ (fun d ρ₁ μ₁ => ∃ i, d = .int i ∧ Q (some i) ρ₁ μ₁) X) : OkPart cx (some e) ρ μ Q X := fun P s S =>
  h.run S (Le.refl P) fun P₁ v d ρ₁ μ₁ s₁ l₁ S₁ r₁ q₁ => by
    obtain ⟨i, rfl, q⟩ := q₁
    cases r₁ with
    | int _ t => exact ⟨_, ρ₁, μ₁, P₁, l₁, S₁, .int i t, q⟩
def OkSl (cx : Cx) (a : D) (lo hi st : Option Int) (ρ : Rho) (μ : Mu) (Q : D → Rho → Mu → Prop) (X : Ex → Rho → Mu → Prop) : Prop :=
  ∀ P s v sl vl vu vs, Sat cx ρ μ P s → In P v a → s.heap.IsSliceOf sl vl vu vs → IsPart vl lo → IsPart vu hi → IsPart vs st → ∃ T id, s.TypeIs v T ∧ typeLookup (.type T) "__getitem__" = pure (some (.builtin id)) ∧ wpAny cx.M cx.A (getItem v (.ref sl)) (VPost cx P In Q) (EPost cx P X) s
theorem e_slice {value : Expr} {lo hi st : Option Expr} {p : Pos} (h : OkE cx value ρ μ (fun a ρ₁ μ₁ => OkPart cx lo ρ₁ μ₁ (fun l ρ₂ μ₂ => OkPart cx hi ρ₂ μ₂ (fun u ρ₃ μ₃ => OkPart cx st ρ₃ μ₃ (fun t ρ₄ μ₄ => OkSl cx a l u t ρ₄ μ₄ Q X) X) X) X) X) :
    OkE cx (.Subscript value (.Slice lo hi st p) pos) ρ μ Q X := fun P s S =>
  Subscript_ (h.run S (Le.refl P) fun P₁ a b ρ₁ μ₁ s₁ l₁ S₁ r₁ q₁ => wpAny_Slice (q₁.run S₁ l₁ fun P₂ a₂ b₂ ρ₂ μ₂ s₂ l₂ S₂ r₂ q₂ => q₂.run S₂ (l₁.trans l₂) fun P₃ a₃ b₃ ρ₃ μ₃ s₃ l₃ S₃ r₃ q₃ => q₃.run S₃ (l₁.trans (l₂.trans l₃)) fun P₄ a₄ b₄ ρ₄ μ₄ s₄ l₄ S₄ r₄ q₄ => by
    have S₅ : Sat cx ρ₄ μ₄ P₄ { s₄ with heap := s₄.heap.push { cls := .type "slice", data := .fields #[a₂, a₃, a₄] } } := S₄.keeps ⟨_, s₄.toks, rfl⟩ fun _ _ e => Heap.get?_push_of_some _ e
    obtain ⟨T, id, hT, hl, w⟩ := q₄ P₄ _ a s₄.heap.objs.size a₂ a₃ a₄ S₅ (r₁.mono (l₂.trans (l₃.trans l₄))) (Heap.IsSliceOf.new _ _ _ _) r₂ r₃ r₄
    exact tail_get hT hl (wpLe (l₁.trans (l₂.trans (l₃.trans l₄))) w)))
def cutD {α : Type} (ds : List α) (lo hi : Option Int) : List α := (ds.drop (lo.elim 0 (clipAt ds.length))).take (hi.elim ds.length (clipAt ds.length) - lo.elim 0 (clipAt ds.length))
theorem sl_bytes {b : Array UInt8} {lo hi : Option Int} (hz : b.size ≤ 16777216) (h : Q (.bytes (cutD b.toList lo hi).toArray) ρ μ) : OkSl cx (.bytes b) lo hi Option.none ρ μ Q X := fun P s v sl vl vu vs S hv hs pl pu ps => by
  apply In.eBytes _ hv; intro t
  cases ps with
  | none =>
    refine ⟨"bytes", _, typeIs_bytes _ _ _, FB.slot_bytes_getitem.lookup, getItem_meets (typeIs_bytes _ _ _) (by decide) FB.slot_bytes_getitem FB.entry_bytes_getitem (FB.args_bytes_getitem_2 _ _) (KBc.meets_slice2 b t _ pl pu)
      ⟨hs, Nat.le_trans (KBc.size_picked_le b lo hi) (by rw [sizeLine_eq]; exact hz), fun t' k => ?_⟩⟩
    refine ⟨_, ρ, μ, P, Le.refl P, S.toks k, .bytes _ _, ?_⟩
    rw [KBc.picked_eq]
    exact h
theorem sl_list {ds : List D} {lo hi st : Option Int} (hz : ds.length ≤ 1000000) (h0 : st ≠ some 0) (es : List D) (hes : ∀ P vs, All P vs ds → All P (slicePick vs.toArray lo hi st).toList es) (h : Q (.list es) ρ μ) : OkSl cx (.list ds) lo hi st ρ μ Q X := fun P s v sl vl vu vs S hv hs pl pu ps => by
  apply In.eList _ hv; intro a vs₀ m o hp hc hdt hr
  have hl := S.known_list hp hc.1 hdt
  refine ⟨_, _, hl.typeIs, slot_list_getitem.lookup, wpAny_getItem_list_slice hl hs pl pu ps h0 ?_ (by rw [List.size_toArray, hr.length, sizeLine_eq]; exact Nat.le_trans hz (by decide))⟩
  exact ⟨_, ρ, μ, _, P.le_add _ _, S.push _, .list (vs := (slicePick vs₀.toArray lo hi st).toList) (n := 0) (P.add_self _ _) ⟨rfl, rfl, rfl⟩ (by simp) ((hes P _ hr).mono (P.le_add _ _)), h⟩
end
end Mine
end

section
open PySem PySem.W PySem.Calls PyProof.Rows
namespace Mine
def storedE (es : List (Str × D)) (x : Str) (d : D) : List (Str × D) :=
  if es.any (fun p => p.1 = x) then es.map (fun p => if p.1 = x then (p.1, d) else p) else es ++ [(x, d)]
section
variable {P : Know} {kvs : List (Str × Value)} {es : List (Str × D)} {x : Str} {v : Value} {d : D}
theorem Prs.keys (h : Prs P kvs es) : kvs.map Prod.fst = es.map Prod.fst := by
  induction h with
  | nil => rfl
  | cons _ _ ih => rw [List.map_cons, List.map_cons, ih]
theorem Prs.any (h : Prs P kvs es) : kvs.any (fun p => decide (p.1 = x)) = es.any (fun p => decide (p.1 = x)) := by
  induction h with
  | nil => rfl
  | cons _ _ ih => rw [List.any_cons, List.any_cons, ih]
theorem Prs.stored (h : Prs P kvs es) (hv : In P v d) : Prs P (PySem.stored kvs x v) (storedE es x d) := by
  unfold PySem.stored storedE
  rw [h.any]
  split
  · rename_i hany; clear hany
    induction h with
    | nil => exact .nil
    | @cons y u e a b h _ ih =>
      rw [List.map_cons, List.map_cons]
      by_cases q : y = x
      · subst q; simp only [if_true]; exact .cons hv ih
      · simp only [if_neg q]; exact .cons h ih
  · exact h.append (.cons hv .nil)
theorem Prs.valueAt (h : Prs P kvs es) (hx : es.lookup x = some d) : ∃ v, PySem.valueAt kvs x = some v ∧ In P v d := by
  induction h with
  | nil => cases hx
  | @cons y u e a b h _ ih =>
    rw [List.lookup_cons] at hx
    unfold PySem.valueAt at ih ⊢
    rw [List.find?_cons]
    by_cases q : y = x
    · subst q; rw [beq_self_eq_true] at hx; cases hx; rw [decide_eq_true rfl]; exact ⟨u, rfl, h⟩
    · rw [decide_eq_false q]; rw [beq_eq_false_iff_ne.mpr (fun z => q z.symm)] at hx; exact ih hx
theorem Prs.missing (h : Prs P kvs es) (hx : es.lookup x = none) : PySem.valueAt kvs x = none := by
  induction h with
  | nil => rfl
  | @cons y u e a b h _ ih =>
    rw [List.lookup_cons] at hx
    unfold PySem.valueAt at ih ⊢
    rw [List.find?_cons]
    by_cases q : y = x
    · subst q; rw [beq_self_eq_true] at hx; cases hx
    · rw [decide_eq_false q]; rw [beq_eq_false_iff_ne.mpr (fun z => q z.symm)] at hx; exact ih hx
theorem Prs.isSome (h : Prs P kvs es) : (PySem.valueAt kvs x).isSome = (es.lookup x).isSome := by
  cases q : es.lookup x with
  | none => rw [h.missing q]; rfl
  | some d => obtain ⟨v, e, _⟩ := h.valueAt q; rw [e]; rfl
end

section
variable {n : Nat} {cx : Cx} {ρ : Rho} {μ : Mu} {P P' : Know} {s s' : Shared} {X : Ex → Rho → Mu → Prop} {Q : D → Rho → Mu → Prop} {QF : FlowD → Rho → Mu → Prop} {QL : List D → Rho → Mu → Prop} {QU : Unit → Rho → Mu → Prop} {pos : Pos}

theorem Sat.dictOf (S : Sat cx ρ μ P s) {a : Addr} {es : List (Str × D)} (hm : (a, MO.dict es) ∈ μ) : ∃ kvs, s.heap.DictOf (strKind cx.g.prog cx.g.w) a kvs ∧ Prs P kvs es := by
  obtain ⟨o, ho, kvs, hd, hr⟩ := S.mu _ hm
  exact ⟨kvs, Heap.dictOf_iff.mpr ⟨o, ho, hd⟩, hr⟩
theorem isStr (x : Str) (t : Tok) : (strKind cx.g.prog cx.g.w).is x (.str x t) = true := by
  show Value.isStrOf x (.str x t) = true
  unfold Value.isStrOf; simp
theorem sub_dict {a : Addr} {es : List (Str × D)} {x : Str} {d : D} (hm : (a, MO.dict es) ∈ μ) (hx : es.lookup x = some d) (h : Q d ρ μ) : OkSub cx (.addr a) (.str x) ρ μ Q X := fun P s v u S hv hu => by
  apply In.eAddr _ hv
  apply In.eStr _ hu; intro t
  obtain ⟨kvs, hd, hr⟩ := S.dictOf hm
  obtain ⟨v, e, hin⟩ := hr.valueAt hx
  exact ⟨_, _, hd.typeIs, slot_dict_getitem.lookup, wpAny_getItem_of (isStr x t) hd.mapOf e (.mk (S.toks _) hin h)⟩
theorem c_inDict {a : Addr} {es : List (Str × D)} {x : Str} (hm : (a, MO.dict es) ∈ μ) (ha : a ≠ sysModules) (h : Q (.bool (es.lookup x).isSome) ρ μ) : Ok2 cx In (compareOp .In) (.str x) (.addr a) ρ μ Q X := fun P s v u S hv hu => by
  apply In.eAddr _ hu
  apply In.eStr _ hv; intro t
  obtain ⟨kvs, hd, hr⟩ := S.dictOf hm
  refine wpAny_in_of (isStr x t) (beq_eq_false_iff_ne.mpr ha) hd.mapOf ?_
  rw [hr.isSome]
  exact .mk (S.toks _) (.bool _) h
theorem c_notInDict {a : Addr} {es : List (Str × D)} {x : Str} (hm : (a, MO.dict es) ∈ μ) (ha : a ≠ sysModules) (h : Q (.bool (!(es.lookup x).isSome)) ρ μ) : Ok2 cx In (compareOp .NotIn) (.str x) (.addr a) ρ μ Q X := fun P s v u S hv hu => by
  apply In.eAddr _ hu
  apply In.eStr _ hv; intro t
  obtain ⟨kvs, hd, hr⟩ := S.dictOf hm
  refine wpAny_notIn_of (isStr x t) (beq_eq_false_iff_ne.mpr ha) hd.mapOf ?_
  rw [hr.isSome]
  exact .mk (S.toks _) (.bool _) h

/-- an item of a dict is written -/
theorem s_setItem {o i value : Expr} {p : Pos} (h : OkE cx value ρ μ (fun d ρ₁ μ₁ => OkE cx o ρ₁ μ₁ (fun a ρ₂ μ₂ => OkE cx i ρ₂ μ₂ (fun k ρ₃ μ₃ => ∃ A es x μ', a = .addr A ∧ k = .str x ∧ es.length ≤ 1000 ∧ Upd A (.dict es) (.dict (storedE es x d)) μ₃ μ' ∧ QF .next ρ₃ μ') X) X) X)
    (hs : swapsWith value (some (.Subscript o i p)) pos.line cx.env = pure false := by rfl) : OkS cx (.Assign [.Subscript o i p] value pos) ρ μ QF X := fun P s S =>
  wpAny_Assign_Subscript (h.run S (Le.refl P) fun P₁ v d ρ₁ μ₁ s₁ l₁ S₁ r₁ q₁ => q₁.run S₁ l₁ fun P₂ v₂ d₂ ρ₂ μ₂ s₂ l₂ S₂ r₂ q₂ => q₂.run S₂ (l₁.trans l₂) fun P₃ v₃ d₃ ρ₃ μ₃ s₃ l₃ S₃ r₃ q₃ => by
    obtain ⟨A, es, x, μ', rfl, rfl, hz, up, q⟩ := q₃
    cases r₂
    cases r₃ with
    | str _ t =>
      obtain ⟨kvs, hd, hr⟩ := S₃.dictOf up.mem
      have hl : kvs.length = es.length := by have := congrArg List.length hr.keys; simpa using this
      refine wpAny_setItem_pairs (isStr x t) hd (fun h' hd' hsb => ?_) (by rw [hl, sizeLine_eq]; omega)
      obtain ⟨o', ho', hk'⟩ := Heap.dictOf_iff.mp hd'
      have S₄ := S₃.setM (tk := s₃.toks + 1) up hsb ho' ⟨_, hk', hr.stored (r₁.mono (l₂.trans l₃))⟩
      exact ⟨_, ρ₃, μ', P₃, l₁.trans (l₂.trans l₃), S₄, .next, q⟩) hs

/-- a dict display with written keys -/
def OkPs (cx : Cx) (pos : Pos) : List (Str × Expr) → Rho → Mu → (List (Str × D) → Rho → Mu → Prop) → (Ex → Rho → Mu → Prop) → Prop
  | [], ρ, μ, Q, _ => Q [] ρ μ
  | (x, e) :: r, ρ, μ, Q, X => OkE cx e ρ μ (fun d ρ₁ μ₁ => OkPs cx pos r ρ₁ μ₁ (fun es ρ₂ μ₂ => Q ((x, d) :: es) ρ₂ μ₂) X) X
def pairsOf (cx : Cx) (pos : Pos) (k : Nat) (l : List (Str × Pos × Expr)) : List (Sem Value × Sem Value) := l.map fun p => (eval (.Constant (.str p.1) k p.2.1) cx.env, do let x ← eval p.2.2 cx.env; standAt pos; pure x)
theorem OkPs.run {k : Nat} {Qp : List (Str × D) → Rho → Mu → Prop} : ∀ {l : List (Str × Pos × Expr)} {ρ : Rho} {μ : Mu}, OkPs cx pos (l.map fun p => (p.1, p.2.2)) ρ μ Qp X → ∀ P s, Sat cx ρ μ P s →
    wpAny cx.M cx.A (evalPairs (pairsOf cx pos k l)) (fun vs s' => ∃ kvs es ρ' μ' P', Le P P' ∧ Sat cx ρ' μ' P' s' ∧ Carries (strKind cx.g.prog cx.g.w) vs kvs ∧ Prs P' kvs es ∧ es.map Prod.fst = l.map (·.1) ∧ Qp es ρ' μ') (EPost cx P X) s := by
  intro l
  induction l generalizing Qp with
  | nil => intro ρ μ h P s S; exact evalPairs_nil ⟨[], [], ρ, μ, P, Le.refl P, S, trivial, .nil, rfl, h⟩
  | cons p r ih =>
    intro ρ μ h P s S
    have h : OkE cx p.2.2 ρ μ (fun d ρ₁ μ₁ => OkPs cx pos (r.map fun p => (p.1, p.2.2)) ρ₁ μ₁ (fun es ρ₂ μ₂ => Qp ((p.1, d) :: es) ρ₂ μ₂) X) X := h
    refine evalPairs_cons (wpAny_Constant_str ?_)
    refine wpAny_bind (h.run (S.toks _) (Le.refl P) fun P₁ v d ρ₁ μ₁ s₁ l₁ S₁ r₁ q₁ => wpAny_bind (wpAny_standAt (wpAny_pure ?_)))
    refine wpAny_mono (ih q₁ P₁ s₁ S₁) (fun vs s₂ ⟨kvs, es, ρ₂, μ₂, P₂, l₂, S₂, c₂, r₂, k₂, q₂⟩ => ?_) fun _ _ e => e.le l₁
    exact ⟨(p.1, v) :: kvs, (p.1, d) :: es, ρ₂, μ₂, P₂, l₁.trans l₂, S₂, ⟨isStr _ _, rfl, c₂⟩, .cons (r₁.mono l₂) r₂, by rw [List.map_cons, List.map_cons, k₂], q₂⟩
theorem e_dict {keys : List (Option Expr)} {values : List Expr} {k : Nat} (l : List (Str × Pos × Expr)) (CO : CxOk n cx)
    (hshape : (evalEachOpt keys cx.env).zip ((evalEach values cx.env).map fun v => do let x ← v; standAt pos; pure x) = (pairsOf cx pos k l).map fun p => (some p.1, p.2)) (h0 : l ≠ []) (hlen : l.length ≤ 15) (hnd : (l.map (·.1)).Nodup)
    (h : ∀ a, a ≠ sysModules → OkPs cx pos (l.map fun p => (p.1, p.2.2)) ρ ((a, .dict []) :: μ) (fun es ρ₁ μ₁ => ∃ μ₂, μ₁ = (a, .dict []) :: μ₂ ∧ Q (.addr a) ρ₁ ((a, .dict es) :: μ₂)) X) : OkE cx (.Dict keys values pos) ρ μ Q X := fun P s S => by
  refine wpAny_Dict_pairs (knd := strKind cx.g.prog cx.g.w) hshape (by cases l with | nil => exact absurd rfl h0 | cons _ _ => intro q; cases q) (by rw [show (pairsOf cx pos k l).length = l.length from List.length_map _]; exact hlen) ?_
  have hsz : 3 < s.heap.objs.size := by
    obtain ⟨o, _, _, ho, _⟩ := CO.T.g
    exact Heap.lt_size (S.stays _ _ ho)
  have hD : ({ cls := .type "dict", data := .dict #[] } : Obj).IsDictOf (strKind cx.g.prog cx.g.w) [] := ⟨#[], 0, ⟨rfl, rfl, rfl⟩, rfl, (fun e he => absurd he (by simp)), .nil, List.nodup_nil⟩
  have S₁ : Sat cx ρ ((s.heap.objs.size, .dict []) :: μ) P { s with heap := s.heap.push { cls := .type "dict", data := .dict #[] } } := S.addM ⟨_, s.toks, rfl⟩ (fun _ _ e => Heap.get?_push_of_some _ e) (none_at_size _) (Heap.get?_push_size _ rfl) (mo := .dict []) ⟨[], hD, .nil⟩
  refine wpAny_mono ((h s.heap.objs.size (Nat.ne_of_gt (Nat.lt_trans (by decide : (1 : Nat) < 3) hsz))).run P _ S₁) (fun vs s₂ ⟨kvs, es, ρ₂, μ₁, P₂, l₂, S₂, c₂, r₂, k₂, μ₂, e₂, q₂⟩ => ?_) fun _ _ e => e
  subst e₂
  obtain ⟨kv0, hd0, hr0⟩ := S₂.dictOf (.head _)
  cases hr0
  refine ⟨kvs, c₂, hd0, fun h' hd' hsb => ?_⟩
  rw [merged_nil_of_nodup _ (by rw [show kvs.map (·.1) = es.map Prod.fst from r₂.keys, k₂]; exact hnd)] at hd'
  obtain ⟨o', ho', hk'⟩ := Heap.dictOf_iff.mp hd'
  exact ⟨_, ρ₂, _, P₂, l₂, S₂.setM (tk := s₂.toks + vs.length) (o' := .dict es) .head hsb ho' ⟨_, hk', r₂⟩, .addr _, q₂⟩
end
end Mine
end

section
open PySem PySem.W PySem.Calls PyProof.Rows
namespace Mine
/-- the built-in's facts -/
theorem slot_b_find : Slot "bytes" "find" "bytes.find" := .of (owner := "bytes") (n := "find") (by rw [typeLookup_type, builtinLookup_eq_fast]; kernel_rfl) (by decide +kernel) (by decide +kernel) (by decide +kernel) (by first | exact .inl (by decide +kernel) | exact .inr (by decide +kernel)) (by rw [isSubtype_type]; kernel_rfl)
theorem type_b_find : typeOf (.builtin "bytes.find") = pure (.type "method_descriptor") := by show builtinType _ = _; rw [builtinType_eq_fast]; kernel_rfl
theorem entry_b_find : entryFor table "bytes.find" = some Builtin.«bytes.find» := entryFor_of_tree (by kernel_rfl)
theorem args_b_find (a b : Value) : argsOk "bytes.find" ⟨[a, b], []⟩ := by unfold argsOk; kernel_rfl
theorem slot_b_strip : Slot "bytes" "strip" "bytes.strip" := .of (owner := "bytes") (n := "strip") (by rw [typeLookup_type, builtinLookup_eq_fast]; kernel_rfl) (by decide +kernel) (by decide +kernel) (by decide +kernel) (by first | exact .inl (by decide +kernel) | exact .inr (by decide +kernel)) (by rw [isSubtype_type]; kernel_rfl)
theorem type_b_strip : typeOf (.builtin "bytes.strip") = pure (.type "method_descriptor") := by show builtinType _ = _; rw [builtinType_eq_fast]; kernel_rfl
theorem entry_b_strip : entryFor table "bytes.strip" = some Builtin.«bytes.strip» := entryFor_of_tree (by kernel_rfl)
theorem args_b_strip (a b : Value) : argsOk "bytes.strip" ⟨[a, b], []⟩ := by unfold argsOk; kernel_rfl
theorem slot_b_split : Slot "bytes" "split" "bytes.split" := .of (owner := "bytes") (n := "split") (by rw [typeLookup_type, builtinLookup_eq_fast]; kernel_rfl) (by decide +kernel) (by decide +kernel) (by decide +kernel) (by first | exact .inl (by decide +kernel) | exact .inr (by decide +kernel)) (by rw [isSubtype_type]; kernel_rfl)
theorem type_b_split : typeOf (.builtin "bytes.split") = pure (.type "method_descriptor") := by show builtinType _ = _; rw [builtinType_eq_fast]; kernel_rfl
theorem entry_b_split : entryFor table "bytes.split" = some Builtin.«bytes.split» := entryFor_of_tree (by kernel_rfl)
theorem args_b_split (a b : Value) : argsOk "bytes.split" ⟨[a, b], []⟩ := by unfold argsOk; kernel_rfl
theorem slot_b_startswith : Slot "bytes" "startswith" "bytes.startswith" := FB.slot_bytes_startswith
end Mine
end

section
open PySem PySem.W PySem.Calls PyProof.Rows
open PySem.Builtin
namespace Mine
open PySem.Builtin

def findB (b c : Array UInt8) : Int := match (if (b.size : Int) < c.size then none else Bytes.find? b c 0 b.size) with | some i => (i : Int) | none => -1
def stripL (l set : List UInt8) : List UInt8 := ((l.dropWhile set.contains).reverse.dropWhile set.contains).reverse
def startsB (b c : Array UInt8) : Bool := if (b.size : Int) < c.size then false else b.extract 0 c.size == c
def splitB (b c : Array UInt8) : List (Array UInt8) := Bytes.between b c.size ((Bytes.occurrences b c 0 b.size).take (b.size + 1))

section
variable {prog : Program} {w : World} {A : Around} {E : Value → Shared → Prop} {s : Shared} {b c : Array UInt8} {t u : Tok} {Q : Value → Shared → Prop}

theorem window_all (n : Nat) : Bytes.window n none none = (0, (n : Int)) := by
  unfold Bytes.window
  simp only [Option.getD_none]
  rw [if_neg (by omega), if_neg (by omega)]
  congr 1
  omega
theorem self_some13 (id name : String) (a x : Value) : selfAndSome id name 1 3 ⟨[a, x], []⟩ = pure (a, [x]) := rfl
theorem self_some01 (id name : String) (a x : Value) : selfAndSome id name 0 1 ⟨[a, x], []⟩ = pure (a, [x]) := rfl
theorem strip_sub (l set : List UInt8) : (stripL l set).Sublist l := by
  unfold stripL
  have h1 := (List.dropWhile_sublist set.contains (l := (List.dropWhile set.contains l).reverse)).reverse
  rw [List.reverse_reverse] at h1
  exact h1.trans (List.dropWhile_sublist _)
theorem search_args : Bytes.searchArgs .bytes "find" ⟨[.bytes b t, .bytes c u], []⟩ = pure (b, c, if (b.size : Int) - 0 < c.size then none else some ((0 : Int).toNat, ((b.size : Int)).toNat)) := by
  unfold Bytes.searchArgs
  dsimp only
  rw [self_some13]
  simp only [pure_bind]
  rw [show Bytes.bound? ([Value.bytes c u] : List Value)[1]? = pure none from rfl, show Bytes.bound? ([Value.bytes c u] : List Value)[2]? = pure none from rfl]
  simp only [pure_bind, List.headD_cons]
  rw [KBy.buffer_eq]
  simp only [pure_bind]
  rw [show Bytes.payload (.bytes b t) = pure b from rfl]
  simp only [pure_bind]
  rw [window_all]
theorem bytes_find (h : ∀ t', Q (.int (findB b c) t') { s with toks := s.toks + 1 }) : wpAny (model prog w) A (call (.builtin "bytes.find") [.bytes b t, .bytes c u]) Q E s := by
  refine wpAny_call_entry slot_b_find (typeIs_bytes _ _ _) entry_b_find ?_ (args_b_find _ _)
  unfold Builtin.«bytes.find» Bytes.searchM
  rw [search_args]
  refine wpAny_bind (wpAny_pure ?_)
  unfold findB at h
  dsimp only at h ⊢
  rw [Int.sub_zero]
  by_cases q : (b.size : Int) < c.size
  · rw [if_pos q] at h ⊢
    exact wpAny_bind (wpAny_rule (wpAny_bind (wpAny_mkInt (wpAny_pure ⟨_, rfl, h _⟩))))
  · rw [if_neg q] at h ⊢
    simp only [Option.bind_some, Int.toNat_zero, Int.toNat_natCast, Bool.false_eq_true, if_false] at h ⊢
    cases hf : Bytes.find? b c 0 b.size with
    | none =>
      rw [hf] at h
      exact wpAny_bind (wpAny_rule (wpAny_bind (wpAny_mkInt (wpAny_pure ⟨_, rfl, h _⟩))))
    | some i =>
      rw [hf] at h
      exact wpAny_bind (wpAny_mkInt (wpAny_pure ⟨_, rfl, h _⟩))
theorem bytes_strip (hz : b.size ≤ 1000000) (h : ∀ t' k, Q (.bytes (stripL b.toList c.toList).toArray t') { s with toks := k }) : wpAny (model prog w) A (call (.builtin "bytes.strip") [.bytes b t, .bytes c u]) Q E s := by
  refine wpAny_call_entry slot_b_strip (typeIs_bytes _ _ _) entry_b_strip ?_ (args_b_strip _ _)
  unfold Builtin.«bytes.strip» Bytes.stripM
  dsimp only
  rw [self_some01]
  simp only [pure_bind]
  unfold Bytes.bytesLike
  rw [KBy.buffer_eq]
  simp only [pure_bind]
  rw [show Bytes.payload (.bytes b t) = pure b from rfl]
  simp only [pure_bind, if_true]
  have e : (List.dropWhile c.contains (List.dropWhile c.contains b.toList).reverse).reverse = stripL b.toList c.toList := by
    unfold stripL
    have : (c.contains : UInt8 → Bool) = c.toList.contains := by funext x; simp
    rw [this]
  rw [e]
  split
  · rename_i q
    refine wpAny_bind (wpAny_rule ?_)
    have hl : (stripL b.toList c.toList).toArray = b := by
      rw [(strip_sub b.toList c.toList).eq_of_length (by simpa using q)]
    unfold Bytes.Kind.same
    refine wpAny_bind ?_
    rw [if_pos (by decide)]
    refine wpAny_bind (wpAny_typeOf (typeIs_bytes _ _ _) ?_)
    rw [if_pos (by decide)]
    refine wpAny_pure (wpAny_pure ⟨_, rfl, ?_⟩)
    have := h t s.toks
    rw [hl] at this
    exact this
  · refine wpAny_bind (wpAny_mkBytes (wpAny_pure ⟨_, rfl, h _ _⟩) ?_)
    have := (strip_sub b.toList c.toList).length_le
    rw [show b.toList.length = b.size from Array.length_toList] at this
    show (stripL b.toList c.toList).length ≤ sizeLine
    rw [sizeLine_eq]
    exact Nat.le_trans this (Nat.le_trans hz (by decide))
theorem bytes_startswith (h : Q (.bool (startsB b c)) s) : wpAny (model prog w) A (call (.builtin "bytes.startswith") [.bytes b t, .bytes c u]) Q E s := by
  refine wpAny_call_entry slot_b_startswith (typeIs_bytes _ _ _) FB.entry_bytes_startswith ?_ (FB.args_bytes_startswith_2 _ _)
  unfold Builtin.«bytes.startswith» Bytes.tailMatchM
  dsimp only
  rw [self_some13]
  simp only [pure_bind]
  rw [show Bytes.bound? ([Value.bytes c u] : List Value)[1]? = pure none from rfl, show Bytes.bound? ([Value.bytes c u] : List Value)[2]? = pure none from rfl]
  simp only [pure_bind, List.headD_cons]
  rw [show Bytes.payload (.bytes b t) = pure b from rfl]
  simp only [pure_bind]
  rw [window_all, KBy.buffer_eq]
  have hi : (isInstance (.bytes c u) (.type "tuple")) = pure false := by
    unfold isInstance
    show (typeOf (.bytes c u) >>= fun t => isSubtype t (.type "tuple")) = _
    rw [show typeOf (.bytes c u) = pure (.type "bytes") from by kernel_rfl]
    show isSubtype (.type "bytes") (.type "tuple") = pure false
    rw [isSubtype_type]; kernel_rfl
  simp only [hi, pure_bind, Bool.false_eq_true, if_false]
  unfold startsB at h
  refine wpAny_pure ⟨_, rfl, ?_⟩
  simpa using h
def betw (b : Array UInt8) (k : Nat) : Nat → List Nat → List (Array UInt8)
  | last, [] => [b.extract last b.size]
  | last, p :: ps => b.extract last p :: betw b k (p + k) ps
theorem between_eq (b : Array UInt8) (k : Nat) (l : List Nat) : Bytes.between b k l = betw b k 0 l := by
  have key : ∀ (l : List Nat) (acc : Array (Array UInt8)) (last : Nat),
      ((l.foldl (fun (x : Array (Array UInt8) × Nat) p => (x.1.push (b.extract x.2 p), p + k)) (acc, last)).1.push (b.extract (l.foldl (fun (x : Array (Array UInt8) × Nat) p => (x.1.push (b.extract x.2 p), p + k)) (acc, last)).2 b.size)).toList = acc.toList ++ betw b k last l := by
    intro l
    induction l with
    | nil => intro acc last; simp [betw]
    | cons p ps ih =>
      intro acc last
      rw [List.foldl_cons, ih]
      simp [betw]
  have := key l #[] 0
  unfold Bytes.between
  simpa using this
theorem betw_len (b : Array UInt8) (k : Nat) : ∀ (l : List Nat) (last : Nat), ∀ p ∈ betw b k last l, p.size ≤ b.size
  | [], last, p, h => by
    rw [betw, List.mem_singleton] at h
    subst h; simp
  | q :: ps, last, p, h => by
    rw [betw] at h
    rcases List.mem_cons.mp h with h | h
    · subst h; simp; omega
    · exact betw_len b k ps _ p h
theorem betw_length (b : Array UInt8) (k : Nat) : ∀ (l : List Nat) (last : Nat), (betw b k last l).length = l.length + 1
  | [], _ => rfl
  | _ :: ps, _ => by rw [betw, List.length_cons, List.length_cons, betw_length b k ps]
theorem mapM_new {M : Model} : ∀ (xs : List (Array UInt8)) (s : Shared) (Q : List Value → Shared → Prop), (∀ x ∈ xs, x.size ≤ sizeLine) → (∀ vs k, (∀ P, All P vs (xs.map D.bytes)) → Q vs { s with toks := k }) → wpAny M A (xs.mapM Bytes.Kind.bytes.new) Q E s
  | [], s, Q, _, h => by
    rw [List.mapM_nil]
    exact wpAny_pure (h [] s.toks fun _ => .nil)
  | x :: xs, s, Q, hx, h => by
    rw [List.mapM_cons]
    refine wpAny_bind (wpAny_mkBytes (wpAny_bind (mapM_new xs _ _ (fun y hy => hx y (.tail _ hy)) fun vs k hv => wpAny_pure ?_)) (hx x (.head _)))
    exact h _ k fun P => .cons (.bytes _ _) (hv P)
theorem bytes_split (hc : c.isEmpty = false) (hz : b.size ≤ 1000000)
    (h : ∀ h' vs k, (∀ a o, s.heap.get? a = some o → h'.get? a = some o) → h'.get? s.heap.objs.size = some { cls := .type "list", data := .seq (List.toArray vs) } → (∀ P, All P vs ((splitB b c).map D.bytes)) → Q (.ref s.heap.objs.size) { s with heap := h', toks := k }) :
    wpAny (model prog w) A (call (.builtin "bytes.split") [.bytes b t, .bytes c u]) Q E s := by
  refine wpAny_call_entry slot_b_split (typeIs_bytes _ _ _) entry_b_split ?_ (args_b_split _ _)
  unfold Builtin.«bytes.split» Bytes.splitM
  dsimp only
  rw [show Bytes.bindOptional (toString Bytes.Kind.bytes.name ++ toString "." ++ toString "split") "split" ["sep", "maxsplit"] [.bytes c u] [] = pure [some (.bytes c u), none] from rfl]
  simp only [pure_bind]
  rw [show Bytes.payload (.bytes b t) = pure b from rfl]
  simp only [pure_bind]
  unfold Bytes.bytesLike
  rw [KBy.buffer_eq]
  simp only [pure_bind, hc, Bool.false_eq_true, if_false]
  rw [if_pos (show (-1 : Int) < 0 by decide)]
  have hsp : splitB b c = betw b c.size 0 ((Bytes.occurrences b c 0 b.size).take (b.size + 1)) := between_eq _ _ _
  split
  · rename_i q
    have q' : (Bytes.occurrences b c 0 b.size).take (b.size + 1) = [] := List.isEmpty_iff.mp q
    rw [q'] at hsp
    have hsp : splitB b c = [b] := by rw [hsp]; simp [betw]
    refine wpAny_bind (wpAny_rule ?_)
    unfold Bytes.Kind.same
    refine wpAny_bind ?_
    rw [if_pos (by decide)]
    refine wpAny_bind (wpAny_typeOf (typeIs_bytes _ _ _) ?_)
    rw [if_pos (by decide)]
    refine wpAny_pure (wpAny_bind (wpAny_newList (wpAny_pure ⟨_, rfl, h _ [.bytes b t] s.toks (fun a o e => Heap.get?_push_of_some _ e) (Heap.get?_push_size _ rfl) fun P => ?_⟩) (by rw [sizeLine_eq]; show (1 : Nat) ≤ _; decide)))
    rw [hsp]; exact .cons (.bytes _ _) .nil
  · rw [between_eq]
    rw [← hsp]
    have hlen : (splitB b c).length ≤ b.size + 2 := by
      rw [hsp, betw_length]
      have := List.length_take_le (b.size + 1) (Bytes.occurrences b c 0 b.size)
      omega
    refine wpAny_bind (mapM_new _ _ _ (fun x hx => ?_) fun vs k hv => ?_)
    · rw [hsp] at hx
      rw [sizeLine_eq]
      have := betw_len b c.size _ _ x hx
      omega
    · have hl : vs.length = (splitB b c).length := by have := (hv fun _ _ => False).length; simpa using this
      refine wpAny_bind (wpAny_newList (wpAny_pure ⟨_, rfl, h _ vs k (fun a o e => Heap.get?_push_of_some _ e) (Heap.get?_push_size _ rfl) hv⟩) (by rw [sizeLine_eq]; omega))
end
end Mine
end

section
open PySem PySem.W PySem.Calls PyProof.Rows
namespace Mine
section
variable {n : Nat} {cx : Cx} {ρ : Rho} {μ : Mu} {P P' : Know} {s s' : Shared} {X : Ex → Rho → Mu → Prop} {Q : D → Rho → Mu → Prop} {QF : FlowD → Rho → Mu → Prop} {QL : List D → Rho → Mu → Prop} {QU : Unit → Rho → Mu → Prop} {pos : Pos}

/-- a value's method is that built-in -/
def MethOf (cx : Cx) (a : D) (name : Str) (id : String) (ρ : Rho) (μ : Mu) : Prop :=
  ∀ P s v (pl : Sem Bool) (R : Value × List Value → Shared → Prop) (E : Value → Shared → Prop), Sat cx ρ μ P s → In P v a → R (.builtin id, [v]) s → wpAny cx.M cx.A (getMethod v name pl) R E s
abbrev kMeth (cx : Cx) (pos : Pos) (es : List Expr) (name : Str) (id : String) (Q : D → Rho → Mu → Prop) (X : Ex → Rho → Mu → Prop) (a : D) (ρ : Rho) (μ : Mu) : Prop := MethOf cx a name id ρ μ ∧ OkA cx pos es ρ μ (kCons a (kCall cx (.builtin id) Q X)) X
theorem e_meth {o e : Expr} {name : Str} {id : String} {apos : Pos} {rest : List Expr} {pl : Sem Bool} (h : OkE cx o ρ μ (kMeth cx pos (e :: rest) name id Q X) X)
    (he : eval (.Call (.Attribute o name apos) (e :: rest) [] pos) cx.env = (do
      let ov ← eval o cx.env
      standAt apos.atName
      let (f, first) ← holding [ov] (getMethod ov name pl)
      callWith pos f first (backTo pos (starEach (e :: rest) cx.env)) []) := by rfl)
    (hs : starEach (e :: rest) cx.env = (false, eval e cx.env) :: starEach rest cx.env := by rfl) (hplain : (backTo pos (starEach rest cx.env)).any (·.1) = false := by rfl) :
    OkE cx (.Call (.Attribute o name apos) (e :: rest) [] pos) ρ μ Q X := fun P s S =>
  MethodCall_ (h.run S (Le.refl P) fun P₁ v d ρ₁ μ₁ s₁ l₁ S₁ r₁ q₁ => q₁.1 P₁ s₁ v pl _ _ S₁ r₁ (callWith_method1 (q₁.2.run S₁ l₁ fun P₂ vs ds ρ₂ μ₂ s₂ l₂ S₂ r₂ q₂ => wpLe (l₁.trans l₂) (q₂ P₂ s₂ (v :: vs) S₂ (.cons (r₁.mono l₂) r₂))) hs hplain)) he
theorem e_meth0 {o : Expr} {name : Str} {id : String} {apos : Pos} {pl : Sem Bool} (h : OkE cx o ρ μ (fun a ρ₁ μ₁ => MethOf cx a name id ρ₁ μ₁ ∧ OkC cx (.builtin id) [a] ρ₁ μ₁ Q X) X)
    (he : eval (.Call (.Attribute o name apos) [] [] pos) cx.env = (do
      let ov ← eval o cx.env
      standAt apos.atName
      let (f, first) ← holding [ov] (getMethod ov name pl)
      callWith pos f first (backTo pos (starEach [] cx.env)) []) := by rfl) :
    OkE cx (.Call (.Attribute o name apos) [] [] pos) ρ μ Q X := fun P s S =>
  MethodCall_ (h.run S (Le.refl P) fun P₁ v d ρ₁ μ₁ s₁ l₁ S₁ r₁ q₁ => q₁.1 P₁ s₁ v pl _ _ S₁ r₁ (callWith_method0 (wpLe l₁ (q₁.2 P₁ s₁ [v] S₁ (.cons r₁ .nil))))) he
theorem meth_bytes {b : Array UInt8} {name : Str} {id : String} (slot : Slot "bytes" name id) (ty : typeOf (.builtin id) = pure (.type "method_descriptor")) : MethOf cx (.bytes b) name id ρ μ := fun P s v pl R E S hv h => by
  cases hv
  exact getMethod_builtin (typeIs_bytes _ _ _) FB.plainAttrs_bytes slot ty (fun _ e => nomatch e) h
theorem meth_str {x : Str} {name : Str} {id : String} (slot : Slot "str" name id) (ty : typeOf (.builtin id) = pure (.type "method_descriptor")) : MethOf cx (.str x) name id ρ μ := fun P s v pl R E S hv h => by
  cases hv
  exact getMethod_builtin (typeIs_str _ _ _) F.plainAttrs_str slot ty (fun _ e => nomatch e) h
theorem meth_list {a : Addr} {ds : List D} {name : Str} {id : String} (hm : (a, MO.list ds) ∈ μ) (slot : Slot "list" name id) (ty : typeOf (.builtin id) = pure (.type "method_descriptor")) : MethOf cx (.addr a) name id ρ μ := fun P s v pl R E S hv h => by
  cases hv
  obtain ⟨o, ho, vs, k, hc, hd, _⟩ := S.mu _ hm
  exact getMethod_builtin ⟨o, ho, hc.1⟩ F.plainAttrs_list slot ty (fun b e => by cases e; exact ⟨o, ho, hc.2.1⟩) h

/-- bytes -/
theorem m_find {b c : Array UInt8} (h : Q (.int (findB b c)) ρ μ) : OkC cx (.builtin "bytes.find") [.bytes b, .bytes c] ρ μ Q X := fun P s vs S hv => by
  apply All.e2 vs hv; intro v u h1 h2
  apply In.eBytes v h1; intro _
  apply In.eBytes u h2; intro _
  exact bytes_find fun t' => .mk (S.toks _) (.int _ _) h
theorem m_strip {b c : Array UInt8} (hz : b.size ≤ 1000000) (h : Q (.bytes (stripL b.toList c.toList).toArray) ρ μ) : OkC cx (.builtin "bytes.strip") [.bytes b, .bytes c] ρ μ Q X := fun P s vs S hv => by
  apply All.e2 vs hv; intro v u h1 h2
  apply In.eBytes v h1; intro _
  apply In.eBytes u h2; intro _
  exact bytes_strip hz fun t' k => .mk (S.toks k) (.bytes _ _) h
theorem m_startswith {b c : Array UInt8} (h : Q (.bool (startsB b c)) ρ μ) : OkC cx (.builtin "bytes.startswith") [.bytes b, .bytes c] ρ μ Q X := fun P s vs S hv => by
  apply All.e2 vs hv; intro v u h1 h2
  apply In.eBytes v h1; intro _
  apply In.eBytes u h2; intro _
  exact bytes_startswith (.mk S (.bool _) h)
theorem m_split {b c : Array UInt8} (hc : c.isEmpty = false) (hz : b.size ≤ 1000000) (h : Q (.list ((splitB b c).map D.bytes)) ρ μ) : OkC cx (.builtin "bytes.split") [.bytes b, .bytes c] ρ μ Q X := fun P s vs S hv => by
  apply All.e2 _ hv; intro _ _ h1 h2
  apply In.eBytes _ h1; intro _
  apply In.eBytes _ h2; intro _
  · · refine bytes_split hc hz fun h' ws k hk ho hr => ?_
      have S' : Sat cx ρ μ (P.add s.heap.objs.size { cls := .type "list", data := .seq (List.toArray ws) }) { s with heap := h', toks := k } := S.add ⟨h', k, rfl⟩ hk (none_at_size _) ho
      exact ⟨_, ρ, μ, _, P.le_add _ _, S', .list (n := 0) (P.add_self _ _) ⟨rfl, rfl, rfl⟩ rfl (hr _), h⟩
/-- str.join -/
theorem All.strs {P : Know} : ∀ {vs : List Value} {xs : List Str}, All P vs (xs.map D.str) → StrsAre vs xs
  | [], [], _ => .nil
  | [], _ :: _, h => nomatch h
  | _ :: _, [], h => nomatch h
  | v :: vs, x :: xs, h => by
    cases h with
    | cons h r => cases h with | str _ t => exact .cons x t r.strs
theorem m_join {x : Str} {xs : List Str} (hz : (xs.map (·.length)).sum + xs.length * x.length ≤ 16777216) (h : Q (.str (Txt.join x xs)) ρ μ) : OkC cx (.builtin "str.join") [.str x, .list (xs.map D.str)] ρ μ Q X := fun P s vs S hv => by
  apply All.e2 _ hv; intro _ _ h1 h2
  apply In.eStr _ h1; intro _
  apply In.eList _ h2; intro _ _ _ _ hp hc hd hr
  exact join_list (S.known_list hp hc.1 hd) (by simpa using hr.strs) hz fun t' k => .mk (S.toks k) (.str _ _) h
/-- list.append, list.pop -/
theorem m_append {a : Addr} {ds : List D} {d : D} {μ' : Mu} (up : Upd a (.list ds) (.list (ds ++ [d])) μ μ') (hz : ds.length ≤ 1000000) (h : Q .none ρ μ') : OkC cx (.builtin "list.append") [.addr a, d] ρ μ Q X := fun P s vs S hv => by
  apply All.e2 _ hv; intro _ _ h1 h2
  apply In.eAddr _ h1
  · · obtain ⟨o, ho, vs, k, hc, hd, hr⟩ := S.mu _ up.mem
      refine append_exact ho hc hd (fun h' o' m' k1 k2 k3 hsb => ?_) (by rw [List.size_toArray, hr.length, sizeLine_eq]; omega)
      exact ⟨.none, ρ, μ', P, Le.refl P, S.setM (tk := s.toks) (o' := .list (ds ++ [d])) up hsb k1 ⟨vs ++ [_], m', k2, by rw [k3]; simp, hr.append (.one h2)⟩, .none, h⟩
theorem m_pop {a : Addr} {ds : List D} {d : D} {μ' : Mu} (up : Upd a (.list (ds ++ [d])) (.list ds) μ μ') (hz : ds.length ≤ 1000000) (h : Q d ρ μ') : OkC cx (.builtin "list.pop") [.addr a] ρ μ Q X := fun P s vs S hv => by
  apply All.e1 _ hv; intro _ h1
  apply In.eAddr _ h1
  · obtain ⟨o, ho, vs, k, hc, hd, hr⟩ := S.mu _ up.mem
    have hl := hr.length
    have hne : ds.length < vs.length := by rw [hl, List.length_append, List.length_singleton]; exact Nat.lt_succ_self _
    have e := hc.eq hd
    subst e
    obtain ⟨y, hy, hin⟩ := hr.get (k := ds.length) (by simp : (ds ++ [d])[ds.length]? = some d)
    have hsz : vs.toArray.size - 1 = ds.length := by rw [List.size_toArray, hl, List.length_append]; rfl
    refine call_meets F.slot_list_pop ⟨_, ho, rfl⟩ F.entry_list_pop (F.args_list_pop_1 _) (MeetsSeq.list_pop_last a vs.toArray k y (by rw [hsz]; simpa using hy) (by rw [List.size_toArray, hl, List.length_append, List.length_singleton, sizeLine_eq]; omega)) ⟨ho, ?_⟩
    have hd' := Obj.data_mapSeq (o := { cls := .type "list", dict := none, data := .seq vs.toArray k, slots := #[] }) rfl (fun xs => xs.eraseIdxIfInBounds (vs.toArray.size - 1))
    obtain ⟨k', hd'⟩ := hd'
    refine ⟨d, ρ, μ', P, Le.refl P, S.setM (tk := s.toks) (o' := .list ds) up (Heap.SameBut.update ..) (Heap.get?_update_self _ ho (Obj.isFreed_of_seq hd')) ⟨vs.take ds.length, k', ⟨rfl, rfl, rfl⟩, ?_, ?_⟩, hin, h⟩
    · rw [hd', hsz]
      congr 1
      apply Array.toList_inj.mp
      unfold Array.eraseIdxIfInBounds
      rw [dif_pos (by rw [List.size_toArray]; exact hne)]
      rw [Array.toList_eraseIdx]
      simp only
      rw [List.eraseIdx_eq_take_drop_succ, List.drop_of_length_le (by rw [hl, List.length_append, List.length_singleton]; exact Nat.le_refl _), List.append_nil]
    · have := hr.take ds.length
      rw [List.take_left'] at this
      · exact this
      · rfl
/-- an expression that stands alone -/
abbrev kDrop (QF : FlowD → Rho → Mu → Prop) (_ : D) (ρ : Rho) (μ : Mu) : Prop := QF .next ρ μ
theorem s_expr {e : Expr} (CO : CxOk n cx) (h : OkE cx e ρ μ (kDrop QF) X) (hs : swapsWith e none pos.line cx.env = pure false := by rfl) : OkS cx (.Expr e pos) ρ μ QF X := fun P s S =>
  wpAny_Expr_any (h.run S (Le.refl P) fun P₁ v d ρ₁ μ₁ s₁ l₁ S₁ r₁ q₁ => ⟨_, ρ₁, μ₁, P₁, l₁, S₁, .next, q₁⟩) (by unfold interactive; rw [CO.kind]; rfl) hs
end
end Mine
end

section
open PySem PySem.W PySem.Calls PyProof.Rows
namespace Mine
/-- a sort's questions ask of places below n alone, and what comes out is fit -/
def KGood {α : Type} (n : Nat) (R : α → Prop) : KasT α → Prop
  | .ret a => R a
  | .ask i j k => i < n ∧ j < n ∧ ∀ b, KGood n R (k b)
def kev {α : Type} (lt : Nat → Nat → Bool) : KasT α → α
  | .ret a => a
  | .ask i j k => kev lt (k (lt i j))
section
variable {α β : Type} {n : Nat}
theorem KGood.bind {R : α → Prop} {R' : β → Prop} {f : α → KasT β} : ∀ (t : KasT α), KGood n R t → (∀ a, R a → KGood n R' (f a)) → KGood n R' (t.bind f)
  | .ret a, h, k => k a h
  | .ask i j t, h, k => ⟨h.1, h.2.1, fun b => KGood.bind (t b) (h.2.2 b) k⟩
theorem KGood.mono {R R' : α → Prop} : ∀ (t : KasT α), KGood n R t → (∀ a, R a → R' a) → KGood n R' t
  | .ret a, h, k => k a h
  | .ask i j t, h, k => ⟨h.1, h.2.1, fun b => KGood.mono (t b) (h.2.2 b) k⟩
theorem KGood.ev {R : α → Prop} (lt : Nat → Nat → Bool) : ∀ (t : KasT α), KGood n R t → R (kev lt t)
  | .ret a, h => h
  | .ask i j t, h => KGood.ev lt (t (lt i j)) (h.2.2 _)
theorem KGood.wp {R : α → Prop} {cmp : Nat → Nat → (Bool → Shared → Prop) → Shared → Prop} {lt : Nat → Nat → Bool} {Q : α → Shared → Prop} {s : Shared}
    (hc : ∀ i j C, i < n → j < n → C (lt i j) s → cmp i j C s) : ∀ (t : KasT α), KGood n R t → (R (kev lt t) → Q (kev lt t) s) → t.kasWp cmp Q s
  | .ret a, h, q => q h
  | .ask i j t, h, q => hc i j _ h.1 h.2.1 (KGood.wp hc (t (lt i j)) (h.2.2 _) q)
end
/-- places of a permutation -/
def Low (n : Nat) (p : Array Nat) : Prop := p.size = n ∧ ∀ x ∈ p, x < n
section
variable {n : Nat} {p : Array Nat}
theorem Low.getD (h : Low n p) (hn : 0 < n) (i : Nat) : p.getD i 0 < n := by
  unfold Array.getD
  split
  · exact h.2 _ (Array.getElem_mem _)
  · exact hn
theorem Low.of_perm {q : Array Nat} (h : Low n p) (hp : q.Perm p) : Low n q := ⟨hp.size_eq.trans h.1, fun x hx => h.2 x (hp.mem_iff.mp hx)⟩
theorem Low.rev (h : Low n p) (i j : Nat) : Low n (kas_rev p i j) := h.of_perm (mirror_perm _ _ _ _)
theorem Low.bub (h : Low n p) (k d : Nat) : Low n (bubble p k d) := h.of_perm (bubble_perm _ _ _)
theorem Low.range (n : Nat) : Low n (List.toArray (List.range n)) := ⟨by simp, fun x hx => by simpa using hx⟩
theorem good_asc (h : Low n p) (hn : 0 < n) : ∀ (f k : Nat), KGood n (fun _ => True) (kas_asc p f k)
  | 0, _ => trivial
  | f + 1, k => ⟨h.getD hn _, h.getD hn _, fun b => by cases b; exact good_asc h hn f (k + 1); trivial⟩
theorem good_desc (hn : 0 < n) : ∀ (f : Nat) (p : Array Nat) (k q : Nat), Low n p → KGood n (fun r => Low n r.1) (kas_desc f p k q)
  | 0, p, _, _, h => h
  | f + 1, p, k, q, h => ⟨h.getD hn _, h.getD hn _, fun b => by
    cases b with
    | true =>
      show KGood n _ (if q > 0 then _ else _)
      split
      · exact good_desc hn f _ _ _ (h.rev _ _)
      · exact good_desc hn f _ _ _ h
    | false =>
      refine ⟨h.getD hn _, h.getD hn _, fun d => ?_⟩
      cases d with
      | true => exact h
      | false => exact good_desc hn f _ _ _ h⟩
theorem good_tail3 (h : Low n p) (hn : 0 < n) (a b : Nat) : KGood n (fun r => Low n r.2) (kas_tail3 a b p) :=
  KGood.bind _ (good_asc (h.rev _ _) hn _ _) fun _ _ => h.rev _ _
theorem good_descPart (h : Low n p) (hn : 0 < n) (a b : Nat) : KGood n (fun r => Low n r.2) (kas_descPart a b p) := by
  refine KGood.bind _ (good_desc hn _ _ _ _ h) fun r hr => ?_
  split
  · exact good_tail3 (hr.rev _ _) hn _ _
  · exact good_tail3 hr hn _ _
theorem good_count (h : Low n p) (hn : 0 < n) (b : Nat) : KGood n (fun r => Low n r.2) (kas_count b p) := by
  refine KGood.bind _ (good_asc h hn _ _) fun r _ => ?_
  split
  · exact h
  · split
    · refine ⟨h.getD hn _, h.getD hn _, fun c => ?_⟩
      cases c with
      | true => exact h
      | false => exact good_descPart (h.rev _ _) hn _ _
    · exact good_descPart h hn _ _
theorem good_place (h : Low n p) (hn : 0 < n) (k : Nat) : ∀ (f l r : Nat), KGood n (fun _ => True) (kas_place p k f l r)
  | 0, _, _ => trivial
  | f + 1, l, r => by
    unfold kas_place
    split
    · trivial
    · refine ⟨h.getD hn _, h.getD hn _, fun c => ?_⟩
      cases c with
      | true => exact good_place h hn k f _ _
      | false => exact good_place h hn k f _ _
theorem good_bin (hn : 0 < n) : ∀ (f : Nat) (p : Array Nat) (k : Nat), Low n p → KGood n (Low n) (kas_bin f p k)
  | 0, _, _, h => h
  | f + 1, p, k, h => KGood.bind _ (good_place h hn _ _ _ _) fun _ _ => good_bin hn f _ _ (h.bub _ _)
theorem good_sort (hn : 0 < n) : KGood n (Low n) (kas_sort n) := by
  refine KGood.bind _ (good_count (Low.range n) hn _) fun r hr => ?_
  split
  · exact good_bin hn _ _ _ hr
  · exact hr
end

abbrev Tri := Int × Int × Int
def triD (t : Tri) : D := .tuple [.int t.1, .int t.2.1, .int t.2.2]
def lt3 (x y : Tri) : Bool := if x.1 == y.1 then (if x.2.1 == y.2.1 then (if x.2.2 == y.2.2 then false else decide (x.2.2 < y.2.2)) else decide (x.2.1 < y.2.1)) else decide (x.1 < y.1)
/-- what sorted() makes of such triples -/
def sort3 (l : List Tri) : List Tri := if l.length < 2 then l else (kev (fun i j => lt3 (l.getD i (0, 0, 0)) (l.getD j (0, 0, 0))) (kas_sort l.length)).toList.map fun i => l.getD i (0, 0, 0)
theorem sort3_mem {l : List Tri} {t : Tri} (h : t ∈ sort3 l) : t ∈ l := by
  unfold sort3 at h
  split at h
  · exact h
  · rename_i hl
    obtain ⟨i, hi, rfl⟩ := List.mem_map.mp h
    have g := (good_sort (n := l.length) (by omega)).ev (fun i j => lt3 (l.getD i (0, 0, 0)) (l.getD j (0, 0, 0)))
    have := g.2 i (by simpa using hi)
    rw [List.getD_eq_getElem?_getD, List.getElem?_eq_getElem this]
    exact List.getElem_mem _
theorem sort3_length (l : List Tri) : (sort3 l).length = l.length := by
  unfold sort3
  split
  · rfl
  · rename_i hl
    rw [List.length_map, Array.length_toList]
    exact ((good_sort (n := l.length) (by omega)).ev _).1
end Mine
end

section
open PySem PySem.W PySem.Calls PyProof.Rows
namespace Mine
/-- a triple of ints stands there -/
def TriAt (h : Heap) (v : Value) (t : Tri) : Prop := ∃ a o n t1 t2 t3, v = .ref a ∧ h.get? a = some o ∧ o.cls = .type "tuple" ∧ o.data = .seq #[.int t.1 t1, .int t.2.1 t2, .int t.2.2 t3] n
theorem All.tri {P : Know} {vs : List Value} {a b c : Int} (h : All P vs [.int a, .int b, .int c]) : ∃ t u w, vs = [.int a t, .int b u, .int c w] := by
  cases h with
  | cons h1 r =>
    apply In.eInt _ h1; intro t
    apply All.e2 _ r; intro x y h2 h3
    apply In.eInt _ h2; intro u
    apply In.eInt _ h3; intro w
    exact ⟨t, u, w, rfl⟩
theorem TriAt.of {P : Know} {h : Heap} (hP : ∀ a o, P a o → h.get? a = some o) {v : Value} {t : Tri} (hv : In P v (triD t)) : TriAt h v t := by
  apply In.eTuple _ hv; intro a vs n o hp hc hd hr
  obtain ⟨t1, t2, t3, e⟩ := hr.tri
  rw [e] at hd
  exact ⟨a, o, n, t1, t2, t3, rfl, hP _ _ hp, hc.1, hd⟩

section
variable {prog : Program} {w : World} {A : Around} {E : Value → Shared → Prop} {s : Shared}
theorem eq_ints {x y : Int} {t u : Tok} {Q : Bool → Shared → Prop} (h : Q (x == y) s) : wpAny (model prog w) A (eqBool (.int x t) (.int y u)) Q E s := SeqAt.EqAt.int_int x t y u prog w E Q h
theorem lt_later {x y : Int} {t u : Tok} {Q : Bool → Shared → Prop} (h : Q (decide (x < y)) s) : wpAny (model prog w) A (oneLt' false (.int x t) (.int y u)) Q E s :=
  kat_one _ _ (PySem.P.lt_int h)
theorem tri_lt {x y : Value} {a b : Tri} {Q : Bool → Shared → Prop} (hx : TriAt s.heap x a) (hy : TriAt s.heap y b) (h : Q (lt3 a b) s) : wpAny (model prog w) A (keyLt' (tuples' true) x y) Q E s := by
  obtain ⟨ax, ox, nx, t1, t2, t3, rfl, hox, _, hdx⟩ := hx
  obtain ⟨ay, oy, ny, u1, u2, u3, rfl, hoy, _, hdy⟩ := hy
  refine kat_lt hox hdx hoy hdy ?_
  unfold lt3 at h
  show KatLex prog w A true (decide ((3 : Nat) < 3)) Q [(.int a.1 t1, .int b.1 u1), (.int a.2.1 t2, .int b.2.1 u2), (.int a.2.2 t3, .int b.2.2 u3)] 0 s
  refine kat_cons (eq_ints (kat_go (fun e1 => kat_yes (kat_cons (eq_ints (kat_go (fun e2 => kat_yes (kat_cons (eq_ints (kat_go (fun e3 => kat_yes (kat_nil ?_)) fun e3 => kat_no (lt_later ?_))))) fun e2 => kat_no (lt_later ?_))))) fun e1 => kat_no (oneLt_int ?_)))
  · rw [e1, if_pos rfl, e2, if_pos rfl, e3, if_pos rfl] at h; exact h
  · rw [e1, if_pos rfl, e2, if_pos rfl, e3, if_neg (by simp)] at h; exact h
  · rw [e1, if_pos rfl, e2, if_neg (by simp)] at h; exact h
  · rw [e1, if_neg (by simp)] at h; exact h

def TrisAt (h : Heap) : List Value → List Tri → Prop
  | [], [] => True
  | v :: vs, t :: ts => TriAt h v t ∧ TrisAt h vs ts
  | _, _ => False
theorem TrisAt.of {P : Know} {h : Heap} (hP : ∀ a o, P a o → h.get? a = some o) : ∀ {vs : List Value} {ts : List Tri}, All P vs (ts.map triD) → TrisAt h vs ts
  | [], [], _ => trivial
  | [], _ :: _, h => nomatch h
  | _ :: _, [], h => nomatch h
  | _ :: _, _ :: _, .cons h r => ⟨.of hP h, TrisAt.of hP r⟩
theorem TrisAt.keeps {h h' : Heap} (hk : ∀ b o, o.cls = .type "tuple" → h.get? b = some o → h'.get? b = some o) : ∀ {vs : List Value} {ts : List Tri}, TrisAt h vs ts → TrisAt h' vs ts
  | [], [], _ => trivial
  | [], _ :: _, h => h.elim
  | _ :: _, [], h => h.elim
  | _ :: _, _ :: _, ⟨⟨a, o, n, t1, t2, t3, e, ho, hc, r⟩, hr⟩ => ⟨⟨a, o, n, t1, t2, t3, e, hk _ _ hc ho, hc, r⟩, TrisAt.keeps hk hr⟩
theorem TrisAt.length {h : Heap} : ∀ {vs : List Value} {ts : List Tri}, TrisAt h vs ts → vs.length = ts.length
  | [], [], _ => rfl
  | [], _ :: _, h => h.elim
  | _ :: _, [], h => h.elim
  | _ :: _, _ :: _, ⟨_, hr⟩ => by rw [List.length_cons, List.length_cons, TrisAt.length hr]
theorem TrisAt.getD {h : Heap} : ∀ {vs : List Value} {ts : List Tri} {i : Nat}, TrisAt h vs ts → i < ts.length → TriAt h (vs.getD i .none) (ts.getD i (0, 0, 0))
  | [], [], _, _, hi => by cases hi
  | [], _ :: _, _, h, _ => h.elim
  | _ :: _, [], _, h, _ => h.elim
  | _ :: _, _ :: _, 0, ⟨h, _⟩, _ => h
  | _ :: _, _ :: _, i + 1, ⟨_, hr⟩, hi => TrisAt.getD (i := i) hr (Nat.lt_of_succ_lt_succ hi)
theorem TrisAt.firsts {h : Heap} : ∀ {vs : List Value} {ts : List Tri}, TrisAt h vs ts → ∃ fs, KatTups h vs fs ∧ fs.length = vs.length ∧ ∀ v ∈ fs, ∃ i t, v = .int i t
  | [], [], _ => ⟨[], trivial, rfl, fun _ h => nomatch h⟩
  | [], _ :: _, h => h.elim
  | _ :: _, [], h => h.elim
  | _ :: _, _ :: _, ⟨⟨a, o, n, t1, t2, t3, e, ho, hc, hd⟩, hr⟩ => by
    obtain ⟨fs, k, l, q⟩ := TrisAt.firsts hr
    subst e
    refine ⟨_ :: fs, .cons ho hc hd rfl k, by rw [List.length_cons, List.length_cons, l], fun v hv => ?_⟩
    rcases List.mem_cons.mp hv with rfl | hv
    · exact ⟨_, _, rfl⟩
    · exact q v hv

/-- the list's sort of such triples -/
theorem sort_tris {a : Addr} {vs : List Value} {ts : List Tri} {n : Nat} {P : Fin → Shared → Prop} (ho : s.heap.get? a = some (seqObj "list" vs.toArray n)) (ht : TrisAt s.heap vs ts) (h64 : vs.length < 64) (hat : ∀ b o, s.heap.get? b = some o → o.cls = .type "tuple" → b ≠ a)
    (h : ∀ out : Array Value, (out.toList = if ts.length < 2 then vs else (kev (fun i j => lt3 (ts.getD i (0, 0, 0)) (ts.getD j (0, 0, 0))) (kas_sort ts.length)).toList.map fun i => vs.getD i .none) → P (.done (.ret .none)) { s with heap := sortedHeap s.heap a vs out }) :
    wpAny (model prog w) A (Builtin.«list.sort» ⟨[.ref a], []⟩) P E s := by
  rw [list_sort_plain]
  have ha : a < s.heap.objs.size := Heap.lt_size ho
  refine wpAny_bind (listItems_at ho rfl ?_)
  refine wpAny_bind (listUpdate_at ho rfl ?_ (by rw [List.size_toArray, sizeLine_eq]; omega) (Nat.zero_le _))
  obtain ⟨e1, ho1⟩ : ∃ e1, (s.heap.update a (Obj.mapSeq fun _ => #[])).get? a = some (seqObj "list" #[] e1) := ⟨_, get?_update_seq ho (fun _ => #[])⟩
  refine wpAny_bind (seqEpoch_at ho1 rfl ?_)
  refine wpAny_bind (wpAny_newTuple ?_ (by show vs.length ≤ _; rw [sizeLine_eq]; omega))
  refine wpAny_bind (wpAny_newList ?_ (Nat.zero_le _))
  refine wpAny_holding ?_
  have ho6 : (((s.heap.update a (Obj.mapSeq fun _ => #[])).push (seqObj "tuple" vs.toArray 0)).push (seqObj "list" #[] 0)).get? a = some (seqObj "list" #[] e1) := by
    rw [Heap.get?_push_ne _ _ _ (by rw [size_push', Heap.size_update]; exact Nat.ne_of_lt (Nat.lt_succ_of_lt ha)), Heap.get?_push_ne _ _ _ (by rw [Heap.size_update]; exact Nat.ne_of_lt ha)]
    exact ho1
  show wpAny (model prog w) A _ P E { s with heap := ((s.heap.update a (Obj.mapSeq fun _ => #[])).push (seqObj "tuple" vs.toArray 0)).push (seqObj "list" #[] 0) }
  dsimp only
  have hsz : vs.toArray.size = vs.length := by simp
  have hl := ht.length
  by_cases h2 : vs.toArray.size < 2
  · rw [if_pos h2, if_pos h2]
    refine wpAny_bind (wpAny_pure ?_)
    rw [StateT.run_pure]
    refine wpAny_bind (wpAny_pure ?_)
    dsimp only
    refine wpAny_bind (seqEpoch_at ho6 rfl ?_)
    refine wpAny_bind (listUpdate_at ho6 rfl ?_ (Nat.zero_le _) (hsz2 := by rw [Array.size_map]; show (PyProof.Rows.pairsOf vs).size ≤ _; rw [pairsOf_size, sizeLine_eq]; omega))
    simp only [bne_self_eq_false, Bool.false_eq_true, if_false]
    refine wpAny_pure (h _ ?_)
    rw [if_pos (by omega)]
    show ((vs.toArray.zip vs.toArray).map (·.2)).toList = vs
    simp [List.map_snd_zip]
  · rw [if_neg h2, if_neg h2]
    have h2' : 2 ≤ vs.length := by omega
    have ht' : TrisAt (((s.heap.update a (Obj.mapSeq fun _ => #[])).push (seqObj "tuple" vs.toArray 0)).push (seqObj "list" #[] 0)) vs ts := ht.keeps fun b o hc e =>
      Heap.get?_push_of_some _ (Heap.get?_push_of_some _ ((Heap.get?_update_ne _ _ _ _ (hat b o e hc)).trans e))
    obtain ⟨fs, kt, hfl, hfi⟩ := ht'.firsts
    refine wpAny_bind (kat_kind (s := { s with heap := ((s.heap.update a (Obj.mapSeq fun _ => #[])).push (seqObj "tuple" vs.toArray 0)).push (seqObj "list" #[] 0) }) (T := .type "int") kt (by omega) (fun v hv => ?_) (by simp) ?_)
    · obtain ⟨i, t, rfl⟩ := hfi v hv
      exact Looks.now
    have good := good_sort (n := vs.length) (by omega)
    refine wpAny_bind (wpAny_mono (kat_run (s := { s with heap := ((s.heap.update a (Obj.mapSeq fun _ => #[])).push (seqObj "tuple" vs.toArray 0)).push (seqObj "list" #[] 0) }) (κ := tuples' true)
      (Q := fun st' s' => s' = { s with heap := ((s.heap.update a (Obj.mapSeq fun _ => #[])).push (seqObj "tuple" vs.toArray 0)).push (seqObj "list" #[] 0) } ∧ arrOf st' = (kev (fun i j => lt3 (ts.getD i (0, 0, 0)) (ts.getD j (0, 0, 0))) (kas_sort vs.length)).map (kas_item (vs.toArray.zip vs.toArray)) ∧ failedOf st' = Option.none)
      (G := fun p s' => s' = { s with heap := ((s.heap.update a (Obj.mapSeq fun _ => #[])).push (seqObj "tuple" vs.toArray 0)).push (seqObj "list" #[] 0) } ∧ p = kev (fun i j => lt3 (ts.getD i (0, 0, 0)) (ts.getD j (0, 0, 0))) (kas_sort vs.length)) rfl h2' h64
      (fun p st' s' a1 a2 a3 a4 => ⟨a4.1, by rw [a2, a4.2], a3⟩) (good.wp (fun i j C hi hj hC => ?_) _ fun _ => ⟨rfl, rfl⟩)) ?_ fun _ _ e => e)
    · exact tri_lt (ht'.getD (by omega)) (ht'.getD (by omega)) hC
    rintro ⟨⟨⟩, st'⟩ s' ⟨rfl, har, hf⟩
    dsimp only
    have hout := kat_snds (ks := vs) (vs := vs) rfl har
    have hlow := (good.ev (fun i j => lt3 (ts.getD i (0, 0, 0)) (ts.getD j (0, 0, 0)))).1
    rw [hout]
    refine wpAny_bind (seqEpoch_at ho6 rfl ?_)
    refine wpAny_bind (listUpdate_at ho6 rfl ?_ (Nat.zero_le _) (by rw [List.size_toArray, List.length_map, Array.length_toList, hlow, sizeLine_eq]; omega))
    rw [hf]
    simp only [bne_self_eq_false, Bool.false_eq_true, if_false]
    refine wpAny_pure (h _ ?_)
    rw [if_neg (by omega), ← hl]
end
end Mine
end

section
open PySem PySem.W PySem.Calls PyProof.Rows
namespace Mine
section
variable {prog : Program} {w : World} {A : Around} {E : Value → Shared → Prop} {s : Shared}
theorem sorted_tris {l : Addr} {vs : List Value} {ts : List Tri} {Q : Value → Shared → Prop} (hl : s.heap.IsList l vs.toArray) (ht : TrisAt s.heap vs ts) (h64 : vs.length < 64)
    (h : ∀ h' out c, (∀ b o, s.heap.get? b = some o → h'.get? b = some o) → h'.get? (s.heap.objs.size + 1) = some { cls := .type "list", data := .seq (List.toArray out) c } → (out = if ts.length < 2 then vs else (kev (fun i j => lt3 (ts.getD i (0, 0, 0)) (ts.getD j (0, 0, 0))) (kas_sort ts.length)).toList.map fun i => vs.getD i .none) → Q (.ref (s.heap.objs.size + 1)) { s with heap := h' }) :
    wpAny (model prog w) A (call (.builtin "sorted") [.ref l]) Q E s := by
  refine Calls.call_function_entry kind_sorted plain_sorted entry_sorted (args_sorted1 _) ?_
  unfold Builtin.«sorted»
  refine wpAny_bind (m := checkCount "sorted" 1 1 _) (wpAny_pure ?_)
  refine wpAny_bind (collect_list hl ?_ (by rw [sizeLine_eq]; omega))
  refine wpAny_bind (wpAny_newList ?_ (by rw [sizeLine_eq]; omega))
  have hsz : ((s.heap.push (seqObj "list" #[] 0)).update s.heap.objs.size (Obj.mapSeq (· ++ vs.toArray))).objs.size = s.heap.objs.size + 1 := by
    rw [Heap.size_update, size_push']
  have hoL : (((s.heap.push (seqObj "list" #[] 0)).update s.heap.objs.size (Obj.mapSeq (· ++ vs.toArray))).push (seqObj "list" vs.toArray 0)).get? (s.heap.objs.size + 1) = some (seqObj "list" vs.toArray 0) := by
    rw [← hsz]; exact Heap.get?_push_size _ rfl
  have keep : ∀ b o, s.heap.get? b = some o → (((s.heap.push (seqObj "list" #[] 0)).update s.heap.objs.size (Obj.mapSeq (· ++ vs.toArray))).push (seqObj "list" vs.toArray 0)).get? b = some o := fun b o q => by
    have hlt : b < s.heap.objs.size := Heap.lt_size q
    rw [Heap.get?_push_ne _ _ _ (by rw [hsz]; exact Nat.ne_of_lt (Nat.lt_succ_of_lt hlt)), Heap.get?_update_ne _ _ _ _ (Nat.ne_of_lt hlt), Heap.get?_push_ne _ _ _ (Nat.ne_of_lt hlt)]
    exact q
  show wpAny _ _ _ _ _ { s with heap := ((s.heap.push (seqObj "list" #[] 0)).update s.heap.objs.size (Obj.mapSeq (· ++ vs.toArray))).push (seqObj "list" vs.toArray 0) }
  rw [hsz]
  generalize hH : ((s.heap.push (seqObj "list" #[] 0)).update s.heap.objs.size (Obj.mapSeq (· ++ vs.toArray))).push (seqObj "list" vs.toArray 0) = H at hoL keep
  have hHs : s.heap.objs.size + 1 < H.objs.size := Heap.lt_size hoL
  refine wpAny_bind (wpAny_holding (wpAny_call_entry slot_list_sort ⟨_, hoL, rfl⟩ entry_list_sort (sort_tris (s := { s with heap := H }) hoL (ht.keeps fun b o _ e => keep b o e) h64 (fun b o e hc q => ?_) fun out ho => ⟨_, rfl, ?_⟩) (args_list_sort _)))
  · subst q
    rw [hoL] at e; cases e; injection hc with q; exact absurd q (by decide)
  · refine wpAny_pure ⟨_, rfl, ?_⟩
    have hne : ∀ b o, s.heap.get? b = some o → s.heap.objs.size + 1 ≠ b := fun b o q => Nat.ne_of_gt (Nat.lt_succ_of_lt (Heap.lt_size q))
    have h1 := get?_update_seq hoL (fun _ => (#[] : Array Value))
    have h3 := Heap.get?_push_of_some (seqObj "list" #[] 0) (Heap.get?_push_of_some (seqObj "tuple" vs.toArray 0) h1)
    obtain ⟨c4, h4⟩ : ∃ c4, (sortedHeap H (s.heap.objs.size + 1) vs out).get? (s.heap.objs.size + 1) = some (seqObj "list" out c4) := ⟨_, get?_update_seq h3 (fun _ => out)⟩
    refine h (sortedHeap H (s.heap.objs.size + 1) vs out) out.toList c4 (fun b o q => ?_) ?_ ho
    · unfold sortedHeap
      rw [Heap.get?_update_ne _ _ _ _ (hne b o q).symm]
      refine Heap.get?_push_of_some _ (Heap.get?_push_of_some _ ?_)
      rw [Heap.get?_update_ne _ _ _ _ (hne b o q).symm]
      exact keep b o q
    · exact h4
end
section
variable {n : Nat} {cx : Cx} {ρ : Rho} {μ : Mu} {P P' : Know} {s s' : Shared} {X : Ex → Rho → Mu → Prop} {Q : D → Rho → Mu → Prop}
theorem All.getD {P : Know} {vs : List Value} {ts : List Tri} (h : All P vs (ts.map triD)) {i : Nat} (hi : i < ts.length) : In P (vs.getD i .none) (triD (ts.getD i (0, 0, 0))) := by
  obtain ⟨v, e, hv⟩ := h.get (k := i) (d := triD (ts.getD i (0, 0, 0))) (by rw [List.getElem?_map, List.getD_eq_getElem?_getD, List.getElem?_eq_getElem hi]; rfl)
  rw [List.getD_eq_getElem?_getD, e]
  exact hv
theorem All.ofMap {P : Know} {α : Type} {f : α → Value} {g : α → D} : ∀ {l : List α}, (∀ a ∈ l, In P (f a) (g a)) → All P (l.map f) (l.map g)
  | [], _ => .nil
  | a :: l, h => .cons (h a (.head _)) (All.ofMap fun b hb => h b (.tail _ hb))
theorem b_sorted {ts : List Tri} (hz : ts.length < 64) (h : Q (.list ((sort3 ts).map triD)) ρ μ) : OkC cx (.builtin "sorted") [.list (ts.map triD)] ρ μ Q X := fun P s vs S hv => by
  cases hv with
  | cons h1 h2 =>
    cases h2
    apply In.eList _ h1; intro l ws k o hp hc hd hr
    have hlen : ws.length = ts.length := by have := hr.length; rwa [List.length_map] at this
    refine sorted_tris (S.known_list hp hc.1 hd) (TrisAt.of S.fz hr) (by rw [hlen]; exact hz) fun h' out c hk ho e => ?_
    have S' : Sat cx ρ μ (P.add (s.heap.objs.size + 1) { cls := .type "list", data := .seq (List.toArray out) c }) { s with heap := h' } := S.add ⟨h', s.toks, rfl⟩ hk (Heap.get?_none_of_le (Nat.le_succ _)) ho
    refine ⟨_, ρ, μ, _, P.le_add _ _, S', .list (n := c) (P.add_self _ _) ⟨rfl, rfl, rfl⟩ rfl ?_, h⟩
    refine All.mono (P.le_add _ _) ?_
    rw [e]
    unfold sort3
    split
    · exact hr
    · rename_i hl
      rw [List.map_map]
      exact All.ofMap fun i hi => hr.getD (((good_sort (n := ts.length) (by omega)).ev _).2 i (by simpa using hi))
end
end Mine
end

section
open PySem PySem.W PySem.Calls PyProof.Rows PySem.SeqAt
namespace Mine
mutual
def plainD : D → Bool
  | .none | .bool _ | .int _ | .str _ => true
  | .tuple ds | .list ds => plainDs ds
  | _ => false
def plainDs : List D → Bool
  | [] => true
  | d :: ds => plainD d && plainDs ds
end
mutual
def depthD : D → Nat
  | .tuple ds | .list ds => depthDs ds + 1
  | _ => 0
def depthDs : List D → Nat
  | [] => 0
  | d :: ds => max (depthD d) (depthDs ds)
end
theorem plainDs_mem : ∀ {ds : List D} {d : D}, plainDs ds = true → d ∈ ds → plainD d = true
  | _ :: _, _, h, .head _ => by rw [plainDs, Bool.and_eq_true] at h; exact h.1
  | _ :: _, _, h, .tail _ m => by rw [plainDs, Bool.and_eq_true] at h; exact plainDs_mem h.2 m
theorem depthDs_mem : ∀ {ds : List D} {d : D}, d ∈ ds → depthD d ≤ depthDs ds
  | _ :: _, _, .head _ => by rw [depthDs]; exact Nat.le_max_left _ _
  | _ :: _, _, .tail _ m => by rw [depthDs]; exact Nat.le_trans (depthDs_mem m) (Nat.le_max_right _ _)
theorem items_same {P : Know} {s : Shared} {A : Around} {ds : List D} {vs us : List Value} (h1 : All P vs ds) (h2 : All P us ds) (k : ∀ d ∈ ds, ∀ v u, In P v d → In P u d → EqAt A s v u true) :
    ∀ j (g1 : j < vs.toArray.size) (g2 : j < us.toArray.size), EqAt A s vs.toArray[j] us.toArray[j] true := fun j g1 g2 => by
  have g1' : j < vs.length := by simpa using g1
  have g2' : j < us.length := by simpa using g2
  obtain ⟨d, e, hv⟩ := h1.get' (k := j) (v := vs[j]) (List.getElem?_eq_getElem g1')
  obtain ⟨u, e', hu⟩ := h2.get e
  rw [List.getElem?_eq_getElem g2'] at e'
  cases e'
  have := k d (List.mem_of_getElem? e) _ _ hv hu
  simpa using this
theorem eqAt_one {P : Know} {s : Shared} (hP : ∀ a o, P a o → s.heap.get? a = some o) (n : Nat) (ih : ∀ m, m + 1 = n → ∀ (d : D) (v u : Value) (A : Around), depthD d ≤ m → In P v d → In P u d → plainD d = true → A.units + m < cLine → EqAt A s v u true)
    (d : D) (v u : Value) (A : Around) (hn : depthD d ≤ n) (hv : In P v d) (hu : In P u d) (pl : plainD d = true) (hun : A.units + n < cLine) : EqAt A s v u true := by
  cases d with
  | none => apply In.eNone _ hv; apply In.eNone _ hu; exact EqAt.same _
  | bool b => apply In.eBool _ hv; apply In.eBool _ hu; exact EqAt.same _
  | int i =>
    apply In.eInt _ hv; intro t
    apply In.eInt _ hu; intro u
    have := EqAt.int_int (A := A) (s := s) i t i u; rwa [beq_self_eq_true] at this
  | str x =>
    apply In.eStr _ hv; intro t
    apply In.eStr _ hu; intro u
    have := EqAt.str_str (A := A) (s := s) x t x u; rwa [beq_self_eq_true] at this
  | bytes => cases pl
  | addr => cases pl
  | typ => cases pl
  | tuple ds =>
    rw [depthD] at hn
    rw [plainD] at pl
    obtain ⟨m, e⟩ : ∃ m, m + 1 = n := ⟨n - 1, by omega⟩
    have ih := ih m e
    apply In.eTuple _ hv; intro a vs k o hp hc hd hr
    apply In.eTuple _ hu; intro a' vs' k' o' hp' hc' hd' hr'
    by_cases q : a = a'
    · rw [q]; exact EqAt.same _
    · have l1 := hr.length
      have l2 := hr'.length
      have := RcAt.tuples (A := A) (s := s) (e := fun _ => true) (items := vs.toArray) (items2 := vs'.toArray) ⟨_, hP _ _ hp, hc.1, _, hd⟩ ⟨_, hP _ _ hp', hc'.1, _, hd'⟩ (by omega)
        (items_same hr hr' fun d hd v u hv hu => ih d v u A.in1 (Nat.le_trans (depthDs_mem hd) (by omega)) hv hu (plainDs_mem pl hd) (by show A.units + 1 + m < cLine; omega))
      refine EqAt.of_refs q ?_
      have e : ((List.range (min vs.toArray.size vs'.toArray.size)).all (fun _ => true) && vs.toArray.size == vs'.toArray.size) = true := by
        rw [Bool.and_eq_true]; exact ⟨List.all_eq_true.mpr fun _ _ => rfl, by simp [l1, l2]⟩
      rwa [e] at this
  | list ds =>
    rw [depthD] at hn
    rw [plainD] at pl
    obtain ⟨m, e⟩ : ∃ m, m + 1 = n := ⟨n - 1, by omega⟩
    have ih := ih m e
    apply In.eList _ hv; intro a vs k o hp hc hd hr
    apply In.eList _ hu; intro a' vs' k' o' hp' hc' hd' hr'
    by_cases q : a = a'
    · rw [q]; exact EqAt.same _
    · have l1 := hr.length
      have l2 := hr'.length
      have := RcAt.lists (A := A) (s := s) (e := fun _ => true) (items := vs.toArray) (items2 := vs'.toArray) ⟨_, hP _ _ hp, hc.1, _, hd⟩ ⟨_, hP _ _ hp', hc'.1, _, hd'⟩ (by simp [l1, l2]) (by omega)
        (items_same hr hr' fun d hd v u hv hu => ih d v u A.in1 (Nat.le_trans (depthDs_mem hd) (by omega)) hv hu (plainDs_mem pl hd) (by show A.units + 1 + m < cLine; omega))
      refine EqAt.of_refs q ?_
      have e : ((List.range vs.toArray.size).all (fun _ => true)) = true := List.all_eq_true.mpr fun _ _ => rfl
      rwa [e] at this
theorem eqAt_same {P : Know} {s : Shared} (hP : ∀ a o, P a o → s.heap.get? a = some o) : ∀ (n : Nat) (d : D) (v u : Value) (A : Around), depthD d ≤ n → In P v d → In P u d → plainD d = true → A.units + n < cLine → EqAt A s v u true := by
  intro n
  induction n with
  | zero => exact eqAt_one hP 0 fun m h => nomatch h
  | succ n ih => exact eqAt_one hP (n + 1) fun m h => by cases h; exact ih

section
variable {n : Nat} {cx : Cx} {ρ : Rho} {μ : Mu} {P P' : Know} {s s' : Shared} {X : Ex → Rho → Mu → Prop} {Q : D → Rho → Mu → Prop}
theorem units_cx (C : CxOk n cx) (k : Nat) (hk : k ≤ 500) : cx.A.units + k < cLine := by
  have := C.units
  rw [show cLine = 9900 from rfl]; omega
/-- two lists of one datum: they are equal -/
theorem c_eqList (C : CxOk n cx) {ds : List D} (pl : plainDs ds = true) (hd : depthDs ds ≤ 100) (h : Q (.bool true) ρ μ) : Ok2 cx In (compareOp .Eq) (.list ds) (.list ds) ρ μ Q X := fun P s v u S hv hu => by
  apply In.eList _ hv; intro a vs k o hp hc hd1 hr
  apply In.eList _ hu; intro a' vs' k' o' hp' hc' hd' hr'
  have l1 := hr.length
  have l2 := hr'.length
  have := RcAt.lists (A := cx.A) (s := s) (e := fun _ => true) (items := vs.toArray) (items2 := vs'.toArray) ⟨_, S.fz _ _ hp, hc.1, _, hd1⟩ ⟨_, S.fz _ _ hp', hc'.1, _, hd'⟩ (by simp [l1, l2]) (units_cx C 0 (by decide))
    (items_same hr hr' fun d hd2 v u hv hu => eqAt_same S.fz 100 d v u cx.A.in1 (Nat.le_trans (depthDs_mem hd2) hd) hv hu (plainDs_mem pl hd2) (by have := units_cx C 101 (by decide); show cx.A.units + 1 + 100 < cLine; omega))
  refine this _ _ _ _ ?_
  rw [show (List.range vs.toArray.size).all (fun _ => true) = true by simp]
  exact .mk S (.bool _) h
theorem c_neList (C : CxOk n cx) {ds : List D} (pl : plainDs ds = true) (hd : depthDs ds ≤ 100) (h : Q (.bool false) ρ μ) : Ok2 cx In (compareOp .NotEq) (.list ds) (.list ds) ρ μ Q X := fun P s v u S hv hu => by
  apply In.eList _ hv; intro a vs k o hp hc hd1 hr
  apply In.eList _ hu; intro a' vs' k' o' hp' hc' hd' hr'
  have l1 := hr.length
  have l2 := hr'.length
  have := RcNeAt.lists (A := cx.A) (s := s) (e := fun _ => true) (items := vs.toArray) (items2 := vs'.toArray) ⟨_, S.fz _ _ hp, hc.1, _, hd1⟩ ⟨_, S.fz _ _ hp', hc'.1, _, hd'⟩ (by simp [l1, l2]) (units_cx C 0 (by decide))
    (items_same hr hr' fun d hd2 v u hv hu => eqAt_same S.fz 100 d v u cx.A.in1 (Nat.le_trans (depthDs_mem hd2) hd) hv hu (plainDs_mem pl hd2) (by have := units_cx C 101 (by decide); show cx.A.units + 1 + 100 < cLine; omega))
  refine this _ _ _ _ ?_
  rw [show (List.range vs.toArray.size).all (fun _ => true) = true by simp]
  exact .mk S (.bool _) h
/-- a list against the empty one -/
theorem c_neNil (C : CxOk n cx) {ds : List D} (h : Q (.bool (!ds.isEmpty)) ρ μ) : Ok2 cx In (compareOp .NotEq) (.list ds) (.list []) ρ μ Q X := fun P s v u S hv hu => by
  apply In.eList _ hv; intro a vs k o hp hc hd1 hr
  apply In.eList _ hu; intro a' vs' k' o' hp' hc' hd' hr'
  cases hr'
  cases hr with
  | nil =>
    have := RcNeAt.lists (A := cx.A) (s := s) (e := fun _ => true) (items := #[]) (items2 := #[]) ⟨_, S.fz _ _ hp, hc.1, _, hd1⟩ ⟨_, S.fz _ _ hp', hc'.1, _, hd'⟩ rfl (units_cx C 0 (by decide)) (fun j h1 _ => by cases h1)
    exact this _ _ _ _ (.mk S (.bool _) h)
  | @cons v vs d ds h1 h2 =>
    have := RcNeAt.lists_lengths (A := cx.A) (s := s) (items := (v :: vs).toArray) (items2 := #[]) ⟨_, S.fz _ _ hp, hc.1, _, hd1⟩ ⟨_, S.fz _ _ hp', hc'.1, _, hd'⟩ (by simp) (units_cx C 0 (by decide))
    exact this _ _ _ _ (.mk S (.bool _) h)
/-- a list of the mutable part against the empty one -/
theorem c_neNilM (C : CxOk n cx) {a : Addr} {ds : List D} (hm : (a, MO.list ds) ∈ μ) (h : Q (.bool (!ds.isEmpty)) ρ μ) : Ok2 cx In (compareOp .NotEq) (.addr a) (.list []) ρ μ Q X := fun P s v u S hv hu => by
  apply In.eAddr _ hv
  obtain ⟨o, ho, vs, k, hc, hd1, hr⟩ := S.mu _ hm
  apply In.eList _ hu; intro a' vs' k' o' hp' hc' hd' hr'
  cases hr'
  cases hr with
  | nil =>
    have := RcNeAt.lists (A := cx.A) (s := s) (e := fun _ => true) (items := #[]) (items2 := #[]) ⟨_, ho, hc.1, _, hd1⟩ ⟨_, S.fz _ _ hp', hc'.1, _, hd'⟩ rfl (units_cx C 0 (by decide)) (fun j h1 _ => by cases h1)
    exact this _ _ _ _ (.mk S (.bool _) h)
  | @cons v vs d ds h1 h2 =>
    have := RcNeAt.lists_lengths (A := cx.A) (s := s) (items := (v :: vs).toArray) (items2 := #[]) ⟨_, ho, hc.1, _, hd1⟩ ⟨_, S.fz _ _ hp', hc'.1, _, hd'⟩ (by simp) (units_cx C 0 (by decide))
    exact this _ _ _ _ (.mk S (.bool _) h)
end
end Mine
end

section
open PySem PySem.W PySem.Calls PyProof.Rows PySem.SeqAt
namespace Mine
section
variable {n : Nat} {cx : Cx} {ρ : Rho} {μ : Mu} {P P' : Know} {s s' : Shared} {X : Ex → Rho → Mu → Prop} {Q : D → Rho → Mu → Prop} {pos : Pos}
/-- a built-in type's name -/
theorem ok_type {x : Str} {T : String} (C : CxOk n cx) (hk : cx.env.scope.names.lookup x = some .globalImplicit) (hx : nsIn cx.g.K mainGlobals x = some Option.none) (hv : bootBuiltins x = some (.type T)) (h : Q (.typ T) ρ μ) (hn : x ≠ "__name__" := by decide) (hd : (x == ("__debug__" : Str)) = false := by decide) :
    OkE cx (.Name x pos) ρ μ Q X := fun P s S => e_nameB C S hk hx hv hn hd (.mk S (.typ T) h)

/-- isinstance -/
theorem i_int_int {i : Int} (h : Q (.bool true) ρ μ) : OkC cx (.builtin "isinstance") [.int i, .typ "int"] ρ μ Q X := fun P s vs S hv => by
  apply All.e2 vs hv; intro v u h1 h2
  apply In.eInt v h1; intro _
  apply In.eTyp u h2
  exact IsiPair.int_int (.mk S (.bool _) h)
theorem i_str_str {x : Str} (h : Q (.bool true) ρ μ) : OkC cx (.builtin "isinstance") [.str x, .typ "str"] ρ μ Q X := fun P s vs S hv => by
  apply All.e2 vs hv; intro v u h1 h2
  apply In.eStr v h1; intro _
  apply In.eTyp u h2
  exact IsiPair.str_str (.mk S (.bool _) h)
theorem i_bytes_bytes {b : Array UInt8} (h : Q (.bool true) ρ μ) : OkC cx (.builtin "isinstance") [.bytes b, .typ "bytes"] ρ μ Q X := fun P s vs S hv => by
  apply All.e2 vs hv; intro v u h1 h2
  apply In.eBytes v h1; intro _
  apply In.eTyp u h2
  exact call_isinstance (isinstance_true (Tx := "bytes") F.isi_meta_bytes F.bm_sub) ⟨rfl, .mk S (.bool _) h⟩
theorem isi_bytes_str {prog : Program} {w : World} {A : Around} {E : Value → Shared → Prop} {s : Shared} {Q : Value → Shared → Prop} {b : Array UInt8} {u : Tok} (h : Q (.bool false) { s with toks := s.toks + 1 }) : wpAny (model prog w) A (call (.builtin "isinstance") [.bytes b u, .type "str"]) Q E s :=
  call_isinstance (S := fun _ R s => R (.ok (.ret (.bool false))) { s with toks := s.toks + 1 }) (fun _ _ _ _ s hs => by
    obtain ⟨h, g, d, t, os⟩ := s
    exact isinstance_outer (isinstance_nested_false_bytes (by decide +kernel) F.isi_meta_str (by rw [isSubtype_type]; kernel_rfl) hs)) h
theorem i_bytes_str {b : Array UInt8} (h : Q (.bool false) ρ μ) : OkC cx (.builtin "isinstance") [.bytes b, .typ "str"] ρ μ Q X := fun P s vs S hv => by
  apply All.e2 vs hv; intro v u h1 h2
  apply In.eBytes v h1; intro _
  apply In.eTyp u h2
  exact isi_bytes_str (.mk (S.toks _) (.bool _) h)
theorem i_list {ds : List D} {T : String} (hT : T = "int" ∨ T = "str" ∨ T = "bytes") (h : Q (.bool false) ρ μ) : OkC cx (.builtin "isinstance") [.list ds, .typ T] ρ μ Q X := fun P s vs S hv => by
  apply All.e2 _ hv; intro _ _ h1 h2
  apply In.eTyp _ h2
  apply In.eList _ h1; intro _ _ _ _ hp hc hd hr
  · · · rcases hT with rfl | rfl | rfl
        · exact IsiPair.list_int (S.fz _ _ hp) hc.1 (.mk (S.toks _) (.bool _) h)
        · exact IsiPair.list_str (S.fz _ _ hp) hc.1 (.mk (S.toks _) (.bool _) h)
        · exact IsiPair.list_bytes (S.fz _ _ hp) hc.1 (.mk (S.toks _) (.bool _) h)
/-- tuple(), bytes() -/
theorem b_tupleT {ds : List D} (h : Q (.tuple ds) ρ μ) : OkC cx (.type "tuple") [.tuple ds] ρ μ Q X := fun P s vs S hv => by
  apply All.e1 _ hv; intro _ h1
  apply In.eTuple _ h1; intro _ _ _ _ hp hc hd hr
  exact call_tuple_same ⟨_, S.fz _ _ hp, hc.1, _, hd⟩ (.mk S (.tuple hp hc hd hr) h)
theorem All.ints {P : Know} : ∀ {vs : List Value} {ns : List Int}, All P vs (ns.map D.int) → IntsAre vs ns
  | [], [], _ => .nil
  | [], _ :: _, h => nomatch h
  | _ :: _, [], h => nomatch h
  | v :: vs, i :: ns, h => by cases h with | cons h r => cases h with | int _ t => exact .cons i t r.ints
theorem b_bytes (C : CxOk n cx) {ns : List Int} (hr : ∀ i ∈ ns, 0 ≤ i ∧ i < 256) (hz : ns.length ≤ 1000000) (h : Q (.bytes (byteArr ns)) ρ μ) : OkC cx (.type "bytes") [.list (ns.map D.int)] ρ μ Q X := fun P s vs S hv => by
  apply All.e1 _ hv; intro _ h1
  apply In.eList _ h1; intro _ _ _ _ hp hc hd hrr
  · · have l := hrr.length
      rw [List.length_map] at l
      exact call_bytes_ints (S.known_list hp hc.1 hd) hrr.ints hr (by rw [l, sizeLine_eq]; omega) C.hh fun h' t k hk => ⟨_, ρ, μ, P, Le.refl P, S.keeps ⟨h', k, rfl⟩ hk, .bytes _ _, h⟩
/-- lists, tuples joined -/
theorem o_catL {ds es : List D} (hz : ds.length + es.length ≤ 1000000) (h : Q (.list (ds ++ es)) ρ μ) : Ok2 cx In (binaryOp .Add) (.list ds) (.list es) ρ μ Q X := fun P s v u S hv hu => by
  apply In.eList _ hv; intro a vs k o hp hc hd hr
  apply In.eList _ hu; intro a' us k' o' hp' hc' hd' hr'
  have e1 := S.fz _ _ hp
  have e2 := S.fz _ _ hp'
  rw [hc.eq hd] at e1
  rw [hc'.eq hd'] at e2
  refine PySem.P.add_list e1 e2 ?_ (by rw [List.size_toArray, List.size_toArray, hr.length, hr'.length, sizeLine_eq]; omega)
  refine ⟨_, ρ, μ, _, P.le_add _ _, S.push _, .list (vs := vs ++ us) (n := 0) (P.add_self _ _) ⟨rfl, rfl, rfl⟩ (by simp) ((hr.append hr').mono (P.le_add _ _)), h⟩
theorem o_catT {ds es : List D} (h1 : ds ≠ []) (h2 : es ≠ []) (hz : ds.length + es.length ≤ 1000000) (h : Q (.tuple (ds ++ es)) ρ μ) : Ok2 cx In (binaryOp .Add) (.tuple ds) (.tuple es) ρ μ Q X := fun P s v u S hv hu => by
  apply In.eTuple _ hv; intro a vs k o hp hc hd hr
  apply In.eTuple _ hu; intro a' us k' o' hp' hc' hd' hr'
  have e1 := S.fz _ _ hp
  have e2 := S.fz _ _ hp'
  rw [hc.eq hd] at e1
  rw [hc'.eq hd'] at e2
  have n1 : ¬ vs.toArray.isEmpty = true := by
    intro q
    have : vs = [] := by simpa using q
    subst this; cases hr; exact h1 rfl
  have n2 : ¬ us.toArray.isEmpty = true := by
    intro q
    have : us = [] := by simpa using q
    subst this; cases hr'; exact h2 rfl
  refine PySem.P.add_tuple e1 e2 n1 n2 ?_ (by rw [List.size_toArray, List.size_toArray, hr.length, hr'.length, sizeLine_eq]; omega)
  refine ⟨_, ρ, μ, _, P.le_add _ _, S.push _, .tuple (vs := vs ++ us) (n := 0) (P.add_self _ _) ⟨rfl, rfl, rfl⟩ (by simp) ((hr.append hr').mono (P.le_add _ _)), h⟩
/-- slices of lists -/
theorem sl_from {ds : List D} {k : Nat} (hz : ds.length ≤ 1000000) (h : Q (.list (ds.drop k)) ρ μ) : OkSl cx (.list ds) (some (k : Int)) Option.none Option.none ρ μ Q X :=
  sl_list hz (by simp) _ (fun P vs hv => by rw [slicePick_from']; simpa using hv.drop k) h
theorem sl_rev {ds : List D} (hz : ds.length ≤ 1000000) (h : Q (.list ds.reverse) ρ μ) : OkSl cx (.list ds) Option.none Option.none (some (-1)) ρ μ Q X :=
  sl_list hz (by simp) _ (fun P vs hv => by rw [krv_pick]; simpa using hv.reverse) h
/-- in: a written tuple of ints -/
theorem c_inInts {i : Int} {ns : List Int} (h : Q (.bool (ns.any fun k => k == i)) ρ μ) : Ok2 cx In (compareOp .In) (.int i) (.tuple (ns.map D.int)) ρ μ Q X := fun P s v u S hv hu => by
  apply In.eInt _ hv; intro t
  apply In.eTuple _ hu; intro a vs k o hp hc hd hr
  refine in_tupleAt (e := fun y => match y with | .int k _ => k == i | _ => false) ⟨o, S.fz _ _ hp, hc.1, _, hd⟩ (fun y hy => ?_) ?_
  · have hi := hr.ints
    have hy : y ∈ vs := by simpa using hy
    have : ∀ {vs : List Value} {ns : List Int}, IntsAre vs ns → y ∈ vs → ∃ k t, y = .int k t := by
      intro vs ns hi hy
      induction hi with
      | nil => cases hy
      | cons k t _ ih =>
        rcases List.mem_cons.mp hy with rfl | hy
        · exact ⟨_, _, rfl⟩
        · exact ih hy
    obtain ⟨k, t', rfl⟩ := this hi hy
    exact EqAt.int_int _ _ _ _
  · have hi := hr.ints
    have e : ∀ {vs : List Value} {ns : List Int}, IntsAre vs ns → vs.any (fun y => match y with | .int k _ => k == i | _ => false) = ns.any fun k => k == i := by
      intro vs ns hi
      induction hi with
      | nil => rfl
      | cons k t _ ih => rw [List.any_cons, List.any_cons, ih]
    rw [List.any_toArray, e hi]
    exact .mk S (.bool _) h
end
end Mine
end

section
open PySem PySem.W PySem.Calls PyProof.Rows PySem.SeqAt
namespace Mine
section
variable {n : Nat} {cx : Cx} {ρ : Rho} {μ : Mu} {P P' : Know} {s s' : Shared} {X : Ex → Rho → Mu → Prop} {Q : D → Rho → Mu → Prop} {QF : FlowD → Rho → Mu → Prop} {pos : Pos}

/-- a made function without parameters is called -/
theorem enterL {name qual : Str} {params : Arguments} {body : Expr} {scope : Scope} {cl : List (Str × Addr)} {pm ctv : Value} {c' f : Addr} {oc : Obj} {vs : Array Value} {tq : Tok} (C : CxOk (n + 1) cx)
    (hm : (f, MO.obj (kla_obj name qual params body scope cl pm c' ctv)) ∈ μ) (hc : (c', MO.obj oc) ∈ μ) (hd : oc.data = .fields vs) (hq : vs[1]? = some (.str qual tq))
    (hbind : bindArgs (kla_fn name qual params body scope cl pm (.ref c') ctv) ⟨[], []⟩ = pure [])
    (hcell : ∀ x ∈ scope.names, x.2 ≠ .cell) (hco : scope.isCoroutine = false) (hgen : scope.isGenerator = false) (hk : scope.kind = .function)
    (h : ∀ cx', cx'.g = cx.g → CxOk n cx' → FnCx cx' → cx'.env.scope = scope → cx'.env.cells = cl → OkE cx' body [] μ (kEndE Q ρ) (kEndX X ρ)) :
    OkC cx (.ref f) [] ρ μ Q X := fun P s vs' S hvs => by
  cases hvs
  obtain ⟨of, hof, rfl⟩ := S.mu _ hm
  obtain ⟨oc', hoc, e⟩ := S.mu _ hc
  have e : oc' = oc := e
  subst e
  have hroom : cx.A.depth < recursionLimit := by have := C.depth; show _ < 1000; omega
  refine wpAny_call (kla_callFunE hroom hof rfl hco hgen rfl ⟨c', oc', vs, tq, rfl, hoc, hd, hq⟩ ?_)
  rw [hbind]
  refine wpAny_pure (wpAny_newFunctionEnv hcell (by intro x hx; cases hx) (fun h₀ hns hsb => ⟨(C.T.nolimit.keeps S.stays).fresh _ hsb, ?_⟩) hk)
  have hk₀ : ∀ b o, s.heap.get? b = some o → h₀.get? b = some o := fun b o e => hsb.extBut b o (Nat.ne_of_lt (Heap.lt_size e)) (Heap.get?_push_of_some _ e)
  generalize hs₁ : ({ s with heap := h₀, toks := s.toks + ([] : List (Str × Value)).length } : Shared) = s₁
  have es₁ : s₁.heap = h₀ := by rw [← hs₁]
  have same₁ : Same s s₁ := ⟨_, _, hs₁.symm⟩
  show codeAny _ _ (.expr body (envX qual scope s.heap.objs.size f (.ref c') cl)) _ _
  generalize hE : envX qual scope s.heap.objs.size f (.ref c') cl = env'
  have eL : env'.locals = s.heap.objs.size := by rw [← hE]
  have eF : env'.frame = some s.heap.objs.size := by rw [← hE]
  have eS : env'.scope = scope := by rw [← hE]
  have eC : env'.cells = cl := by rw [← hE]
  have eG : env'.globals = mainGlobals := by rw [← hE]
  have eB : env'.builtins = builtinsNs := by rw [← hE]
  have S₁ : Sat cx ρ μ P s₁ := S.keeps same₁ (by rw [es₁]; exact hk₀)
  have nL : s.heap.get? s.heap.objs.size = Option.none := none_at_size _
  have apL := S.apart_new nL
  let Kp : Know := fun b o => s.heap.get? b = some o ∧ b ∉ μ.map Prod.fst ∧ (∀ o', ¬ P b o')
  let cx' : Cx := { g := cx.g, A := cx.A.deeper env', fs := env' :: cx.fs, env := env', L := s.heap.objs.size, Kp := Kp, s₀ := s₁ }
  have CO : CxOk n cx' := ⟨C.K, C.T, Around.frames_deeper C.hA, eL, by show env'.scope.kind = _; rw [eS]; exact hk, eG, eB, ⟨env', cx.fs, _, rfl, eF, eF⟩, C.hh, by
    have := C.depth; show cx.A.depth + 1 + _ ≤ _; omega, by have := C.units; show cx.A.units + 3 + _ ≤ _; omega⟩
  have hnsL : s₁.heap.Ns s.heap.objs.size (fun x => ([] : List (Str × Value)).reverse.lookup x) := by rw [es₁]; exact hns
  have fan : ∀ b, b ∈ cx'.fa → b = s.heap.objs.size ∨ b ∈ cx.fa := fun b hb => by
    have hb : b ∈ (env' :: cx.fs).filterMap (·.frame) := hb
    rw [List.filterMap_cons, eF] at hb
    rcases List.mem_cons.mp hb with hb | hb
    · exact .inl hb
    · exact .inr hb
  have S' : Sat cx' [] μ P s₁ := by
    refine ⟨Same.refl _, ⟨_, hnsL, fun x d hx => by cases hx⟩, S₁.fz, S₁.mu, S₁.nd, S₁.dj, S₁.stays, S₁.mb, ?_, fun b o hb => ?_, fun b hb => ?_, apL.2.2.2.2.2, fun o q => ?_⟩
    · exact Heap.FunFrames.cons (by rw [eS, hk]; intro q; cases q) eF hnsL apL.2.2.2.2.2 S₁.fr
    · have e : s₁.heap.get? b = some o := by rw [es₁]; exact hk₀ b o hb.1
      exact ⟨fun _ => e, o.slots, e⟩
    · rcases hb with hb | hb | ⟨o, hb⟩
      · have hb : b = s.heap.objs.size := hb
        subst hb; exact ⟨apL.1, apL.2.1⟩
      · rcases fan b hb with hb | hb
        · subst hb; exact ⟨apL.1, apL.2.1⟩
        · exact S.sp b (.inr (.inl hb))
      · exact ⟨hb.2.1, hb.2.2⟩
    · have := q.1; rw [nL] at this; cases this
  have hfs : cx'.fs = cx.fs ∨ ∃ e, cx'.fs = e :: cx.fs ∧ e.frame = some cx'.L := .inr ⟨env', rfl, eF⟩
  have bk : ∀ {ρ' : Rho} {μ' : Mu} {P' : Know} {s' : Shared}, Sat cx' ρ' μ' P' s' → Le P P' → Sat cx ρ μ' P' s' := fun S'' l =>
    Sat.back (s₁ := s₁) [] S S'' l rfl ((S.same.trans same₁).trans S''.same) hfs (fun _ h => by cases h) fun b o e h1 h2 _ => ⟨e, h1, h2⟩
  refine kla_codeExpr (wpAny_mono (h cx' rfl CO ⟨⟨cx.fs, rfl⟩, eF⟩ eS eC P s₁ S') (fun v s' ⟨d, ρ', μ', P', l, S'', r, q⟩ => ⟨d, ρ, μ', P', l, bk S'' l, r, q⟩) fun e s' ⟨x, st, ρ', μ', P', l, S'', r, q⟩ => ?_)
  unfold leaving
  refine wpAny_bind (note_frame (cx := cx') CO.hA rfl eF S'' r fun s₂ S₂ r₂ => ?_)
  refine set_flight (cx := cx') (Lf := s.heap.objs.size) Option.none (.inr rfl) eF (by intro q; cases q) S₂ r₂ fun s₃ S₃ r₃ => ?_
  exact ⟨x, .out, ρ, μ', P', l, bk S₃ l, ExIn.back S r₃ rfl hfs fun b o e h1 h2 => ⟨e, h1, h2⟩, q⟩
/-- a local that is a made function, called without arguments -/
theorem e_callL {x : Str} {p : Pos} {f : Addr} {fo : Obj} {fd : FuncData} (C : CxOk n cx) (hk : cx.env.scope.names.lookup x = some .local) (hx : ρ.lookup x = some (.addr f)) (hm : (f, MO.obj fo) ∈ μ) (hd : fo.data = .func fd)
    (h : OkC cx (.ref f) [] ρ μ Q X) (hdb : (x == ("__debug__" : Str)) = false := by decide) : OkE cx (.Call (.Name x p) [] [] pos) ρ μ Q X := fun P s S => by
  obtain ⟨of, hof, e⟩ := S.mu _ hm
  have e : of = fo := e
  subst e
  refine Call_ (nameL C S hk hx hdb fun v hv => ?_)
  cases hv
  obtain ⟨c0, d0, dt, sl⟩ := of
  dsimp only at hd; subst hd
  exact callWith_F0 ⟨c0, d0, fd, sl, hof⟩ (h P s [] S .nil)
/-- a list of the frame's own is handed out -/
theorem s_returnF {e : Expr} (h : OkE cx e ρ μ (fun d ρ₁ μ₁ => ∃ a ds μ', d = .addr a ∧ Rem a (.list ds) μ₁ μ' ∧ QF (.ret (.list ds)) ρ₁ μ') X) : OkS cx (.Return (some e) pos) ρ μ QF X := fun P s S =>
  wpAny_Return_some (h.run S (Le.refl P) fun P₁ v d ρ₁ μ₁ s₁ l₁ S₁ r₁ q₁ => by
    obtain ⟨a, ds, μ', rfl, u, q⟩ := q₁
    cases r₁
    obtain ⟨P₂, l₂, S₂, hin, _⟩ := S₁.freeze u
    exact ⟨_, ρ₁, μ', P₂, l₁.trans l₂, S₂, .ret hin, q⟩)
/-- a slice of a list that is to be written to -/
theorem sl_revM {ds : List D} (hz : ds.length ≤ 1000000) (h : ∀ a, Q (.addr a) ρ ((a, .list ds.reverse) :: μ)) : OkSl cx (.list ds) Option.none Option.none (some (-1)) ρ μ Q X := fun P s v sl vl vu vs S hv hs pl pu ps => by
  apply In.eList _ hv; intro a vs₀ m o hp hc hdt hr
  have hl := S.known_list hp hc.1 hdt
  refine ⟨_, _, hl.typeIs, slot_list_getitem.lookup, wpAny_getItem_list_slice hl hs pl pu ps (by simp) ?_ (by rw [List.size_toArray, hr.length, sizeLine_eq]; exact Nat.le_trans hz (by decide))⟩
  refine ⟨_, ρ, _, P, Le.refl P, S.addM (mo := .list ds.reverse) ⟨_, s.toks, rfl⟩ (fun _ _ e => Heap.get?_push_of_some _ e) (none_at_size _) (Heap.get?_push_size _ rfl) ⟨vs₀.reverse, 0, ⟨rfl, rfl, rfl⟩, by rw [krv_pick], hr.reverse⟩, .addr _, h _⟩
/-- a list of the text's own, and one of the given -/
theorem sub_K {a : Addr} {o : Obj} {vs : List Value} {k : Nat} {i : Int} {v : Value} {d : D} (C : CxOk n cx) (hK : cx.g.K.lookup a = some o) (hc : o.cls = .type "list") (hd : o.data = .seq vs.toArray k) (h0 : 0 ≤ i) (h1 : i < 2 ^ 63) (hv : vs[i.toNat]? = some v) (hin : ∀ P, In P v d) (h : Q d ρ μ) :
    OkSub cx (.addr a) (.int i) ρ μ Q X := fun P s w u S hw hu => by
  apply In.eAddr _ hw
  apply In.eInt _ hu; intro t
  have hl : s.heap.IsList a vs.toArray := ⟨o, S.K C _ _ hK, hc, k, hd⟩
  exact ⟨_, _, hl.typeIs, slot_list_getitem.lookup, wpAny_getItem_list hl h0 h1 (by simpa using hv) (.mk S (hin P) h)⟩
theorem IntsAre.all {P : Know} : ∀ {vs : List Value} {ns : List Int}, IntsAre vs ns → All P vs (ns.map D.int)
  | _, _, .nil => .nil
  | _, _, .cons i t r => .cons (.int i t) (IntsAre.all r)
theorem sl_base {a : Addr} {vs : List Value} {ns : List Int} {k : Nat} (hl : cx.g.base.IsList a vs.toArray) (hi : IntsAre vs ns) (hz : ns.length ≤ 1000) (h : Q (.list ((ns.take k).map D.int)) ρ μ) : OkSl cx (.addr a) Option.none (some (k : Int)) Option.none ρ μ Q X := fun P s v sl vl vu ws S hv hs pl pu ps => by
  apply In.eAddr _ hv
  have hl' : s.heap.IsList a vs.toArray := let ⟨o, e, r⟩ := hl; ⟨o, S.stays _ _ e, r⟩
  refine ⟨_, _, hl'.typeIs, slot_list_getitem.lookup, wpAny_getItem_list_slice hl' hs pl pu ps (by simp) ?_ (by rw [List.size_toArray, hi.length, sizeLine_eq]; omega)⟩
  refine ⟨_, ρ, μ, _, P.le_add _ _, S.push _, .list (vs := vs.take k) (n := 0) (P.add_self _ _) ⟨rfl, rfl, rfl⟩ (by rw [slicePick_upto']) ?_, h⟩
  have := (IntsAre.all (P := P) hi).take k
  rw [← List.map_take] at this
  exact this.mono (P.le_add _ _)
end
end Mine
end

section
open PySem PySem.W PySem.Calls PyProof.Rows PySem.SeqAt
namespace Mine
section
variable {prog : Program} {w : World} {A : Around} {E : Value → Shared → Prop} {s : Shared}
theorem adjust_upto (b n : Nat) (hb : b ≤ n) : Builtin.Slice.sliceAdjust none (some (b : Int)) 1 (n : Int) = (0, (b : Int)) := by
  unfold Builtin.Slice.sliceAdjust
  have h1 : ¬ ((1 : Int) < 0) := by omega
  have h2 : ¬ ((b : Int) < 0) := by omega
  simp only [h1, h2, if_false]
  congr 1
  omega
theorem places_upto (b : Nat) : Builtin.Slice.slicePlaces 0 (b : Int) 1 = b := by
  unfold Builtin.Slice.slicePlaces
  have h1 : (1 : Int) > 0 := by omega
  simp only [h1, if_true, Int.ediv_one]
  split <;> omega
theorem sliceApplied_upto {sl : Addr} {b n : Nat} {u : Tok} {Q : Int × Int × Nat → Shared → Prop} (hs : s.heap.IsSliceOf sl .none (.int b u) .none) (hb : b ≤ n) (h : Q (0, 1, b) s) :
    wpAny (model prog w) A (Builtin.Slice.sliceApplied (.ref sl) (pure (n : Int))) Q E s := by
  obtain ⟨os, hos, hcs, hds⟩ := id hs
  unfold Builtin.Slice.sliceApplied Builtin.Slice.sliceFields
  refine wpAny_bind (wpAny_bind (wpAny_field hos hds (x := .none) rfl (wpAny_bind (wpAny_field hos hds (x := .int b u) rfl (wpAny_bind (wpAny_field hos hds (x := .none) rfl (wpAny_pure ?_)))))))
  refine wpAny_bind (slicePart_none ?_)
  show wpAny _ _ (if ((1 : Int) == 0) = true then _ else _) _ _ s
  rw [if_neg (by decide)]
  refine wpAny_bind (slicePart_none (wpAny_bind (slicePart_int (wpAny_bind (wpAny_pure ?_)))))
  show wpAny _ _ (match Builtin.Slice.sliceAdjust none (some (b : Int)) 1 (n : Int) with | (lo, hi) => pure (lo, (1 : Int), Builtin.Slice.slicePlaces lo hi 1)) _ _ s
  rw [adjust_upto b n hb]
  show wpAny _ _ (pure ((0 : Int), (1 : Int), Builtin.Slice.slicePlaces 0 (b : Int) 1)) _ _ s
  rw [places_upto b]
  exact wpAny_pure h
theorem pick_upto (xs : Array Value) (b : Nat) : ((List.range b).filterMap fun (k : Nat) => xs[((0 : Int) + (k : Int) * 1).toNat]?).toArray = (xs.toList.take b).toArray := by
  have e : (fun (k : Nat) => xs[((0 : Int) + (k : Int) * 1).toNat]?) = fun k => xs[0 + k]? := by
    funext k
    have : ((0 : Int) + (k : Int) * 1).toNat = 0 + k := by omega
    rw [this]
  rw [e]
  have := pick_run xs 0 b
  rw [List.filterMap_map] at this
  have e2 : ((fun x => xs[x]?) ∘ fun x => 0 + x) = fun k => xs[0 + k]? := rfl
  rw [e2] at this
  rw [this, List.drop_zero]
theorem getItem_tuple_upto {t sl : Addr} {items : Array Value} {b : Nat} {u : Tok} {Q : Value → Shared → Prop} (ht : IsTup s.heap t items) (hs : s.heap.IsSliceOf sl .none (.int b u) .none) (hb : b < items.size)
    (h : Q (.ref s.heap.objs.size) { s with heap := s.heap.push { cls := .type "tuple", data := .seq (items.toList.take b).toArray } })
    (hsz : items.size ≤ sizeLine) : wpAny (model prog w) A (getItem (.ref t) (.ref sl)) Q E s := by
  have htake : sizeOk (.seq (items.toList.take b).toArray) := by
    show (items.toList.take b).toArray.size ≤ sizeLine
    rw [List.size_toArray, List.length_take, Array.length_toList]
    omega
  obtain ⟨os, hos, hcs, hds⟩ := id hs
  have hTs : s.TypeIs (.ref sl) "slice" := ⟨os, hos, hcs⟩
  unfold getItem
  try with_reducible refine wpAny_holding ?_
  first | refine wpAny_bind (wpAny_pure ?_) | skip
  refine wpAny_bind (wpAny_sequenceKey ht.typeIs (by decide) ?_)
  refine wpAny_bind (wpAny_callSpecial?_slot (name := Str.ofString "__getitem__") ht.typeIs slot_tuple_getitem
    (wpAny_call_entry slot_tuple_getitem ht.typeIs entry_tuple_getitem ?_ (args_tuple_getitem _ _)))
  show wpAny _ _ (Builtin.Tuple.tupleItemsOf (.ref t) >>= _) _ _ s
  refine wpAny_bind (tupleItemsOf_ ht ?_)
  refine wpAny_bind (wpAny_typeOf hTs ?_)
  rw [if_pos (by decide)]
  refine wpAny_bind (sliceApplied_upto hs (Nat.le_of_lt hb) ?_)
  have hno : ¬ (((0 : Int) == 0 && (1 : Int) == 1 && b == items.size) = true) := by
    have : (b == items.size) = false := by rw [beq_eq_false_iff_ne]; omega
    rw [this]; simp
  show wpAny _ _ (if ((0 : Int) == 0 && (1 : Int) == 1 && b == items.size) = true then _ else _) _ _ s
  rw [if_neg hno, pick_upto items b]
  first
    | exact wpAny_bind (m := Builtin.Tuple.tupleExact _) (wpAny_newObj_type (wpAny_pure ⟨_, rfl, wpAny_pure h⟩) htake)
    | exact wpAny_bind (m := Builtin.Tuple.tupleExact _) (wpAny_newObj_type (wpAny_bind (wpAny_pure (wpAny_pure ⟨_, rfl, wpAny_pure h⟩))) htake)
    | exact wpAny_bind (wpAny_bind (m := Builtin.Tuple.tupleExact _) (wpAny_newObj_type (wpAny_pure (wpAny_pure ⟨_, rfl, wpAny_pure h⟩)) htake))
    | exact wpAny_bind (wpAny_bind (m := Builtin.Tuple.tupleExact _) (wpAny_newObj_type (wpAny_pure ⟨_, rfl, wpAny_pure h⟩) htake))
theorem gives_none_bytes (b : Array UInt8) (u : Tok) : Gives (Builtin.«NoneType.__eq__» ⟨[.none, .bytes b u], []⟩) (.val Value.notImplemented) := by
  refine .of_wp fun M A E s Q hq => ?_
  wp_walk
  exact ⟨_, rfl, hq⟩
theorem sub_none_bytes : isSubtype (.type "NoneType") (.type "bytes") = pure false := by rw [isSubtype_type]; kernel_rfl
theorem sub_bytes_none : isSubtype (.type "bytes") (.type "NoneType") = pure false := by rw [isSubtype_type]; kernel_rfl
theorem gives_bytes_none (b : Array UInt8) (u : Tok) : Gives (Builtin.«bytes.__eq__» ⟨[.bytes b u, .none], []⟩) (.val Value.notImplemented) := by
  refine .of_wp fun M A E s Q hq => ?_
  wp_walk
  refine wpAny_of_eq (a := false) sub_none_bytes ?_
  refine wpAny_ite (KBc.ite_yes (by decide) ?_)
  exact wpAny_bind (wpAny_rule (wpAny_pure ⟨_, rfl, hq⟩))
theorem slot_b_eq_refl : Slot "bytes" (cmpInfo .Eq).2.2 "bytes.__eq__" := FB.slot_bytes_eq
theorem rc_none_bytes (b : Array UInt8) (u : Tok) : RcAt A s .none (.bytes b u) false := fun prog w E Q h =>
  rc_eq_decline_or (k := false) rfl (PySem.W.typeIs_bytes s b u) (by decide) sub_bytes_none F.slot_NoneType_eq slot_b_eq_refl
    (fun _ hq => call_gives F.slot_NoneType_eq rfl F.entry_NoneType_eq (F.args_NoneType_eq_2 _ _) (gives_none_bytes b u) hq)
    (fun _ hq => call_gives slot_b_eq_refl (PySem.W.typeIs_bytes s b u) FB.entry_bytes_eq (FB.args_bytes_eq_2 _ _) (gives_bytes_none b u) hq)
    (fun _ hq => wpAny_of_eq (rfl : isSame .none (.bytes b u) = pure false) hq) (.inl rfl) h
theorem eq_none_bytes (b : Array UInt8) (u : Tok) : EqAt A s .none (.bytes b u) false := fun prog w E Q h => by
  unfold eqBool
  refine wpAny_holding ?_
  refine wpAny_ite_split (fun hab => absurd (eq_of_beq hab) nofun) (fun _ => ?_)
  exact wpAny_bind (rc_none_bytes b u prog w E _ (wpAny_truthy_bool h))
theorem rc_bytes_none (b : Array UInt8) (u : Tok) : RcAt A s (.bytes b u) .none false := fun prog w E Q h =>
  rc_eq_decline_or (k := false) (PySem.W.typeIs_bytes s b u) rfl (by decide) sub_none_bytes FB.slot_bytes_eq F.slot_NoneType_eq_refl
    (fun _ hq => call_gives FB.slot_bytes_eq (PySem.W.typeIs_bytes s b u) FB.entry_bytes_eq (FB.args_bytes_eq_2 _ _) (gives_bytes_none b u) hq)
    (fun _ hq => call_gives F.slot_NoneType_eq_refl rfl F.entry_NoneType_eq (F.args_NoneType_eq_2 _ _) (gives_none_bytes b u) hq)
    (fun _ hq => wpAny_of_eq (rfl : isSame (.bytes b u) .none = pure false) hq) (.inl rfl) h
theorem eq_bytes_none' (b : Array UInt8) (u : Tok) : EqAt A s (.bytes b u) .none false := fun prog w E Q h => by
  unfold eqBool
  refine wpAny_holding ?_
  refine wpAny_ite_split (fun hab => absurd (eq_of_beq hab) nofun) (fun _ => ?_)
  exact wpAny_bind (rc_bytes_none b u prog w E _ (wpAny_truthy_bool h))
theorem eq_bytes_bytes (b c : Array UInt8) (t u : Tok) : EqAt A s (.bytes b t) (.bytes c u) (b.toList == c.toList) := fun prog w E Q h => by
  unfold eqBool
  refine wpAny_holding ?_
  refine wpAny_ite_split (fun hab => ?_) (fun _ => ?_)
  · have e := eq_of_beq hab
    injection e with e1 e2
    subst e1
    rw [beq_self_eq_true] at h
    exact wpAny_bind (wpAny_rule (wpAny_pure h))
  · have w : wpAny (model prog w) A (richCompare .Eq (.bytes b t) (.bytes c u)) (fun v s' => wpAny (model prog w) A (truthOfDropped v) Q E s') E s := eq_bytes (Q := fun v s' => wpAny (model prog w) A (truthOfDropped v) Q E s') (wpAny_truthy_bool h)
    exact wpAny_bind w
end
section
variable {n : Nat} {cx : Cx} {ρ : Rho} {μ : Mu} {P P' : Know} {s s' : Shared} {X : Ex → Rho → Mu → Prop} {Q : D → Rho → Mu → Prop} {QF : FlowD → Rho → Mu → Prop} {pos : Pos}
theorem sl_tupleFrom {ds : List D} {k : Nat} (h1 : 1 ≤ k) (hk : k ≤ ds.length) (hz : ds.length ≤ 1000000) (h : Q (.tuple (ds.drop k)) ρ μ) : OkSl cx (.tuple ds) (some (k : Int)) Option.none Option.none ρ μ Q X := fun P s v sl vl vu vs S hv hs pl pu ps => by
  apply In.eTuple _ hv; intro a ws m o hp hc hd hr
  have ht : IsTup s.heap a ws.toArray := ⟨o, S.fz _ _ hp, hc.1, _, hd⟩
  have l := hr.length
  cases pl with
  | int _ t =>
    cases pu; cases ps
    refine ⟨_, _, ht.typeIs, slot_tuple_getitem.lookup, getItem_tuple_from ht hs h1 (by rw [List.size_toArray, l]; exact hk) ?_ (by rw [List.size_toArray, l, sizeLine_eq]; omega)⟩
    exact ⟨_, ρ, μ, _, P.le_add _ _, S.push _, .tuple (vs := ws.drop k) (n := 0) (P.add_self _ _) ⟨rfl, rfl, rfl⟩ rfl ((hr.drop k).mono (P.le_add _ _)), h⟩
theorem sl_tupleUpto {ds : List D} {k : Nat} (hk : k < ds.length) (hz : ds.length ≤ 1000000) (h : Q (.tuple (ds.take k)) ρ μ) : OkSl cx (.tuple ds) Option.none (some (k : Int)) Option.none ρ μ Q X := fun P s v sl vl vu vs S hv hs pl pu ps => by
  apply In.eTuple _ hv; intro a ws m o hp hc hd hr
  have ht : IsTup s.heap a ws.toArray := ⟨o, S.fz _ _ hp, hc.1, _, hd⟩
  have l := hr.length
  cases pu with
  | int _ t =>
    cases pl; cases ps
    refine ⟨_, _, ht.typeIs, slot_tuple_getitem.lookup, getItem_tuple_upto ht hs (by rw [List.size_toArray, l]; exact hk) ?_ (by rw [List.size_toArray, l, sizeLine_eq]; omega)⟩
    exact ⟨_, ρ, μ, _, P.le_add _ _, S.push _, .tuple (vs := ws.take k) (n := 0) (P.add_self _ _) ⟨rfl, rfl, rfl⟩ rfl ((hr.take k).mono (P.le_add _ _)), h⟩
def inPair (w : D) (f : Array UInt8) : Bool := match w with | .none => true | .bytes b => f.toList == b.toList | _ => false
theorem All.noneBytes {P : Know} {vs : List Value} {f : Array UInt8} (h : All P vs [.none, .bytes f]) : ∃ t, vs = [.none, .bytes f t] := by
  apply All.e2 _ h; intro v u h1 h2
  apply In.eNone _ h1
  apply In.eBytes _ h2; intro t
  exact ⟨t, rfl⟩
/-- word in (None, field) -/
theorem c_inPair {w : D} {f : Array UInt8} (hw : w = .none ∨ ∃ b, w = .bytes b) (h : Q (.bool (inPair w f)) ρ μ) : Ok2 cx In (compareOp .In) w (.tuple [.none, .bytes f]) ρ μ Q X := fun P s v u S hv hu => by
  apply In.eTuple _ hu; intro a vs k o hp hc hd hr
  obtain ⟨tf, e⟩ := hr.noneBytes
  rw [e] at hd
  have ht : IsTup s.heap a #[Value.none, Value.bytes f tf] := ⟨o, S.fz _ _ hp, hc.1, _, hd⟩
  clear hp hc hd hr e hu
  rcases hw with rfl | ⟨b, rfl⟩
  · apply In.eNone _ hv
    refine in_tupleAt (e := fun y => y == Value.none) ht (fun y hy => ?_) ?_
    · have hy : y = .none ∨ y = .bytes f tf := by simpa using hy
      rcases hy with rfl | rfl
      · exact EqAt.same _
      · exact eq_bytes_none' f tf
    · refine .mk S (.bool _) ?_
      have e : (#[Value.none, Value.bytes f tf].any fun y => y == Value.none) = true := by simp
      rw [e]; exact h
  · apply In.eBytes _ hv; intro tb
    refine in_tupleAt (e := fun y => match y with | .bytes g _ => g.toList == b.toList | _ => false) ht (fun y hy => ?_) ?_
    · have hy : y = .none ∨ y = .bytes f tf := by simpa using hy
      rcases hy with rfl | rfl
      · exact eq_none_bytes b tb
      · exact eq_bytes_bytes f b tf tb
    · refine .mk S (.bool _) ?_
      have e : (#[Value.none, Value.bytes f tf].any fun y => match y with | .bytes g _ => g.toList == b.toList | _ => false) = (f.toList == b.toList) := by simp
      rw [e]; exact h
end
end Mine
end

section
open PySem PySem.W PySem.Calls PyProof.Rows
namespace Mine
section
variable {n : Nat} {cx : Cx} {ρ : Rho} {μ : Mu} {P P' : Know} {s s' : Shared} {X : Ex → Rho → Mu → Prop} {Q : D → Rho → Mu → Prop}

abbrev kEndC (Q : D → Rho → Mu → Prop) (ρ : Rho) (c : Addr) (fl : FlowD) (_ : Rho) (μ : Mu) : Prop := ∃ o μ'', Rem c o μ μ'' ∧ Q (match fl with | .ret d => d | _ => .none) ρ μ''
/-- a def of the text is entered whose first parameter is shared with an inner block -/
theorem enterC {name qual : Str} {params : Arguments} {body : List Stmt} {scope : Scope} {dV kV doc pm cdv ct oc : Value} {an od : Option Addr} {osl : Array (Option Value)} {f : Addr} {a b : D} (x y : Str)
    (C : CxOk (n + 1) cx)
    (ho : cx.g.K.lookup f = some ⟨oc, od, .func (fnOf name qual params body scope dV kV doc pm an cdv ct), osl⟩) (hcd : codeIn cx.g.K cdv qual = true)
    (hbind : ∀ u v, bindArgs (fnOf name qual params body scope dV kV doc pm an cdv ct) ⟨[u, v], []⟩ = pure [(x, u), (y, v)])
    (hx : scope.names.lookup x = some .cell) (hy : scope.names.lookup y = some .local) (hcs : ∀ N, cellsFrom N scope.names [] = [(x, N)])
    (hco : scope.isCoroutine = false) (hgen : scope.isGenerator = false) (hk : scope.kind = .function)
    (h : ∀ cx' c, cx'.g = cx.g → CxOk n cx' → FnCx cx' → cx'.env.scope = scope → cx'.env.cells = [(x, c)] →
      OkX cx' body [(y, b)] ((c, .cell (some a)) :: μ) (kEndC Q ρ c) XF) :
    OkC cx (.ref f) [a, b] ρ μ Q X := fun P s vs S hvs => by
  cases hvs with
  | cons hva hvs =>
  cases hvs with
  | cons hvb hvs =>
  cases hvs
  rename_i va vb
  refine wpAny_call ?_
  have hroom : cx.A.depth < recursionLimit := by have := C.depth; show _ < 1000; omega
  have hL : cellsFrom (s.heap.objs.size + 1) scope.names [] = [(x, s.heap.objs.size + 1)] := hcs _
  refine codeAny_call_cells (fd := fnOf name qual params body scope dV kV doc pm an cdv ct) (body := body) (binds := [(x, va), (y, vb)]) hroom (S.K C _ _ ho) rfl (C.T.nolimit.keeps S.stays) (codeRec_of (S.K C) hcd) rfl (hbind va vb) rfl
    ?_ (fun s₁ I => ?_) hco hgen hk
  · intro e he
    rcases List.mem_cons.mp he with rfl | he
    · refine .inr ⟨hx, ?_⟩
      show ((cellsFrom (s.heap.objs.size + 1) scope.names []).lookup x).isSome = true
      rw [hL, List.lookup_cons, beq_self_eq_true]; rfl
    · rw [List.mem_singleton.mp he]; exact .inl hy
  generalize hE : callEnvC (fnOf name qual params body scope dV kV doc pm an cdv ct) s.heap.objs.size f = env' at I ⊢
  have eL : env'.locals = s.heap.objs.size := by rw [← hE]; rfl
  have eF : env'.frame = some s.heap.objs.size := by rw [← hE]; rfl
  have eS : env'.scope = scope := by rw [← hE]; rfl
  have eC : env'.cells = [(x, s.heap.objs.size + 1)] := by rw [← hL, ← hE]; rfl
  have eG : env'.globals = mainGlobals := by rw [← hE]; rfl
  have eB : env'.builtins = builtinsNs := by rw [← hE]; rfl
  have eK : ∀ z, env'.kindOf z = scope.names.lookup z := fun z => by rw [← hE]; rfl
  obtain ⟨h₀, tk, es, hk₀⟩ := I.done
  have same₁ : Same s s₁ := ⟨_, _, es⟩
  have es₁ : s₁.heap = h₀ := by rw [es]
  have S₁ : Sat cx ρ μ P s₁ := S.keeps same₁ (by rw [es₁]; exact hk₀)
  have nL : s.heap.get? s.heap.objs.size = Option.none := none_at_size _
  have nC : s.heap.get? (s.heap.objs.size + 1) = Option.none := Heap.get?_none_of_le (Nat.le_succ _)
  have apL := S.apart_new nL
  obtain ⟨oC, hoC, hdC⟩ := I.cell x (s.heap.objs.size + 1) (by rw [eC, List.lookup_cons, beq_self_eq_true])
  have hxy : (y == x) = false := by
    cases q : y == x with
    | false => rfl
    | true => rw [beq_iff_eq.mp q, hx] at hy; cases hy
  have hcm : bindC env'.kindOf [(x, va), (y, vb)] (fun _ => Option.none) x = some va := by
    unfold bindC
    rw [eK, hx, if_neg (by decide)]
    unfold bindC
    rw [eK, hy, if_pos rfl]
    unfold bindC
    exact if_pos rfl
  rw [hcm] at hdC
  have SM : Sat cx ρ ((s.heap.objs.size + 1, .cell (some a)) :: μ) P s₁ := S.addM same₁ (by rw [es₁]; exact hk₀) nC hoC (mo := .cell (some a)) ⟨_, hdC, hva⟩
  let Kp : Know := fun b o => s.heap.get? b = some o ∧ b ∉ μ.map Prod.fst ∧ (∀ o', ¬ P b o')
  let cx' : Cx := { g := cx.g, A := cx.A.deeper env', fs := env' :: cx.fs, env := env', L := s.heap.objs.size, Kp := Kp, s₀ := s₁ }
  have CO : CxOk n cx' := ⟨C.K, C.T, Around.frames_deeper C.hA, eL, by show env'.scope.kind = _; rw [eS]; exact hk, eG, eB, ⟨env', cx.fs, _, rfl, eF, eF⟩, C.hh, by
    have := C.depth; show cx.A.depth + 1 + _ ≤ _; omega, by have := C.units; show cx.A.units + 3 + _ ≤ _; omega⟩
  have hnsL : s₁.heap.Ns s.heap.objs.size (bindL env'.kindOf [(x, va), (y, vb)] fun _ => Option.none) := eL ▸ I.toInCall.ns
  have hlm : bindL env'.kindOf [(x, va), (y, vb)] (fun _ => Option.none) = fun z => if z = y then some vb else Option.none := by
    unfold bindL
    rw [eK, hx, if_neg (by decide)]
    unfold bindL
    rw [eK, hy, if_pos rfl]
    rfl
  rw [hlm] at hnsL
  have fan : ∀ b, b ∈ cx'.fa → b = s.heap.objs.size ∨ b ∈ cx.fa := fun b hb => by
    have hb : b ∈ (env' :: cx.fs).filterMap (·.frame) := hb
    rw [List.filterMap_cons, eF] at hb
    rcases List.mem_cons.mp hb with hb | hb
    · exact .inl hb
    · exact .inr hb
  have nLC : s.heap.objs.size ≠ s.heap.objs.size + 1 := Nat.ne_of_lt (Nat.lt_succ_self _)
  have S' : Sat cx' [(y, b)] ((s.heap.objs.size + 1, .cell (some a)) :: μ) P s₁ := by
    refine ⟨Same.refl _, ⟨_, hnsL, fun z d hz => ?_⟩, SM.fz, SM.mu, SM.nd, SM.dj, SM.stays, SM.mb, ?_, fun b o hb => ?_, fun b hb => ?_, apL.2.2.2.2.2, fun o q => ?_⟩
    · rw [List.lookup_cons] at hz
      cases q : z == y with
      | false => rw [q] at hz; cases hz
      | true =>
        rw [q] at hz; cases hz
        exact ⟨vb, if_pos (beq_iff_eq.mp q), hvb⟩
    · exact Heap.FunFrames.cons (by rw [eS, hk]; intro q; cases q) eF hnsL apL.2.2.2.2.2 S₁.fr
    · have e : s₁.heap.get? b = some o := by rw [es₁]; exact hk₀ b o hb.1
      exact ⟨fun _ => e, o.slots, e⟩
    · rcases hb with hb | hb | ⟨o, hb⟩
      · have hb : b = s.heap.objs.size := hb
        subst hb
        refine ⟨fun q => ?_, apL.2.1⟩
        rw [List.map_cons] at q
        rcases List.mem_cons.mp q with q | q
        · exact nLC q
        · exact apL.1 q
      · rcases fan b hb with hb | hb
        · subst hb
          refine ⟨fun q => ?_, apL.2.1⟩
          rw [List.map_cons] at q
          rcases List.mem_cons.mp q with q | q
          · exact nLC q
          · exact apL.1 q
        · exact SM.sp b (.inr (.inl hb))
      · refine ⟨fun q => ?_, hb.2.2⟩
        rw [List.map_cons] at q
        rcases List.mem_cons.mp q with q | q
        · have q : b = s.heap.objs.size + 1 := q
          have := hb.1; rw [q, nC] at this; cases this
        · exact hb.2.1 q
    · have := q.1; rw [nL] at this; cases this
  have hfs : cx'.fs = cx.fs ∨ ∃ e, cx'.fs = e :: cx.fs ∧ e.frame = some cx'.L := .inr ⟨env', rfl, eF⟩
  have bk : ∀ {ρ' : Rho} {μ' : Mu} {P' : Know} {s' : Shared}, Sat cx' ρ' μ' P' s' → Le P P' → Sat cx ρ μ' P' s' := fun S'' l =>
    Sat.back (s₁ := s₁) [] S S'' l rfl ((S.same.trans same₁).trans S''.same) hfs (fun _ h => by cases h) fun b o e h1 h2 _ => ⟨e, h1, h2⟩
  refine wpAny_mono (h cx' (s.heap.objs.size + 1) rfl CO ⟨⟨cx.fs, rfl⟩, eF⟩ eS eC P s₁ S') (fun fl s' ⟨d, ρ', μ', P', l, S'', r, o, μ'', u, q⟩ => ?_) fun e s' he => (noErr (x := XF) he).elim
  have SB := (bk S'' l).drop u
  cases r with
  | next => exact ⟨_, ρ, μ'', P', l, SB, .none, q⟩
  | brk => exact ⟨_, ρ, μ'', P', l, SB, .none, q⟩
  | cont => exact ⟨_, ρ, μ'', P', l, SB, .none, q⟩
  | ret h => exact ⟨_, ρ, μ'', P', l, SB, h, q⟩
end
end Mine
end

section
open PySem PySem.W PySem.Calls PyProof.Rows
namespace Mine
section
variable {n : Nat} {cx : Cx} {ρ : Rho} {μ : Mu} {P P' : Know} {s s' : Shared} {X : Ex → Rho → Mu → Prop} {Q : D → Rho → Mu → Prop} {pos : Pos}

/-- one entry is changed, and the heap has grown -/
theorem Sat.setMX (S : Sat cx ρ μ P s) {μ' : Mu} {a : Addr} {o o' : MO} {h' : Heap} {tk : Nat} {ob : Obj} (u : Upd a o o' μ μ') (hk : ∀ b x, b ≠ a → s.heap.get? b = some x → h'.get? b = some x)
    (hg : h'.get? a = some ob) (hr : MRep cx.g P o' ob) : Sat cx ρ μ' P { s with heap := h', toks := tk } := by
  have hm := u.mem
  have ha : a ∈ μ.map Prod.fst := List.mem_map_of_mem (f := Prod.fst) hm
  have hL : cx.L ≠ a := fun q => (S.sp cx.L (.inl rfl)).1 (q ▸ ha)
  have hfa : ∀ b ∈ cx.fa, b ≠ a := fun b hb q => (S.sp b (.inr (.inl hb))).1 (q ▸ ha)
  have hK : ∀ b o, cx.Kp b o → b ≠ a := fun b o hb q => (S.sp b (.inr (.inr ⟨o, hb⟩))).1 (q ▸ ha)
  have hP : ∀ b o, P b o → b ≠ a := fun b o hb q => S.dj _ hm o (q ▸ hb)
  obtain ⟨m, hns, hr'⟩ := S.ns
  refine ⟨S.same.trans ⟨_, _, rfl⟩, ⟨m, hns.at' fun o e => hk _ o hL e, hr'⟩, fun b x h => hk b x (hP b x h) (S.fz b x h), fun e he => ?_, u.addrs ▸ S.nd, fun e he x hx => ?_, fun b x e => ?_, fun e he => ?_, ?_, fun b x hb => ?_, fun b hb => ?_, S.lb, S.lk⟩
  · rcases u.split S.nd e he with rfl | ⟨h1, h2⟩
    · exact ⟨ob, hg, hr⟩
    · obtain ⟨x, h3, h4⟩ := S.mu e h1
      exact ⟨x, hk _ _ h2 h3, h4⟩
  · rcases u.split S.nd e he with rfl | ⟨h1, h2⟩
    · exact S.dj (a, o) hm x hx
    · exact S.dj _ h1 x hx
  · refine hk b x (fun q => ?_) (S.stays b x e)
    subst q; rw [S.mb _ hm] at e; cases e
  · rcases u.split S.nd e he with rfl | ⟨h1, h2⟩
    · exact S.mb (a, o) hm
    · exact S.mb _ h1
  · exact funFrames_of S.fr fun b x hb ho hd => ⟨x, hk b x (hfa b hb) ho, hd⟩
  · obtain ⟨h1, sl, h2⟩ := S.kp b x hb
    exact ⟨fun h => hk b _ (hK b x hb) (h1 h), sl, hk b _ (hK b x hb) h2⟩
  · obtain ⟨h1, h2⟩ := S.sp b hb
    exact ⟨by rw [u.addrs]; exact h1, h2⟩
/-- an object that nothing speaks of joins the mutable part -/
theorem Sat.adopt (S : Sat cx ρ μ P s) {a : Addr} {mo : MO} {ob : Obj} (ap : Apart cx μ P a) (ha : s.heap.get? a = some ob) (hr : MRep cx.g P mo ob) : Sat cx ρ ((a, mo) :: μ) P s := by
  refine ⟨S.same, S.ns, S.fz, fun e he => ?_, ?_, fun e he x hx => ?_, S.stays, fun e he => ?_, S.fr, S.kp, fun b hb => ⟨fun q => ?_, (S.sp b hb).2⟩, S.lb, S.lk⟩
  · rcases List.mem_cons.mp he with rfl | he
    · exact ⟨ob, ha, hr⟩
    · exact S.mu e he
  · rw [List.map_cons, List.nodup_cons]
    exact ⟨ap.1, S.nd⟩
  · rcases List.mem_cons.mp he with rfl | he
    · exact ap.2.1 x hx
    · exact S.dj e he x hx
  · rcases List.mem_cons.mp he with rfl | he
    · exact ap.2.2.2.2.2
    · exact S.mb e he
  · rw [List.map_cons] at q
    rcases List.mem_cons.mp q with q | q
    · have q : b = a := q
      subst q
      rcases hb with hb | hb | ⟨o, hb⟩
      · exact ap.2.2.2.1 hb
      · exact ap.2.2.1 hb
      · exact ap.2.2.2.2.1 o hb
    · exact (S.sp b hb).1 q
/-- a lambda: its function and its code are made, the table of codes grows -/
theorem e_lambda {params : Arguments} {body : Expr} {scope : Scope} {c T : Addr} {ps : Array Value} {clos : List (Str × Addr)} {μ' : Mu} (CO : CxOk n cx) (hcode : cx.env.code = .ref c) (C : CodeHd cx.g.base c T)
    (u : ∀ c' : Addr, Upd T (.obj (tabObj ps)) (.obj (tabObj (ps ++ #[rawInt pos.line, rawInt pos.col, .ref c']))) μ (μ' ++ [(T, .obj (tabObj (ps ++ #[rawInt pos.line, rawInt pos.col, .ref c'])))])) (ht : TriplesOk ps.toList) (hnf : codeAmong pos ps.toList = none)
    (hcl : closureFor scope cx.env = pure clos) (hdef : defaultsOf params cx.env = ([], []))
    (h : ∀ f c' oc vs t pm ctv qual, oc.data = .fields vs → vs[1]? = some (.str qual t) →
      Q (.addr f) ρ ((f, .obj (kla_obj "<lambda>" qual params body scope clos pm c' ctv)) :: (c', .obj oc) :: (μ' ++ [(T, .obj (tabObj (ps ++ #[rawInt pos.line, rawInt pos.col, .ref c'])))]))) :
    OkE cx (.Lambda params body scope pos) ρ μ Q X := fun P s S => by
  have hmem := (u 0).mem
  obtain ⟨oT, hT, e⟩ := S.mu _ hmem
  have e : oT = tabObj ps := e
  subst e
  have hTb := S.mb _ hmem
  have hgs := CO.T.g.keeps S.stays
  obtain ⟨bm, ob, b1, b2, b3, b4, b5, b6⟩ := CO.T.bmain
  have hgP : mainGlobals ≠ T := fun q => by
    obtain ⟨o, es, ep, e, hd, _⟩ := CO.T.g
    rw [q] at e
    rw [show cx.g.base.get? T = Option.none from hTb] at e
    cases e
  have hbP : bm ≠ T := fun q => by
    rw [q] at b3
    rw [show cx.g.base.get? T = Option.none from hTb] at b3
    cases b3
  have hbG : bm ≠ mainGlobals := fun q => by
    obtain ⟨o, es, ep, e, hd, _⟩ := CO.T.g
    rw [q, e] at b3; cases b3; rw [hd] at b6; cases b6
  refine kla_eval hdef (kla_makeFunction hcl CO.glob hgs hcode (C.keeps S.stays) hT ht hnf hgP ⟨bm, ob, b1, b2, hbG, hbP, S.stays _ _ b3, b4, b5, b6⟩ fun c' ctv h' tk hx hge hlt hrec htb => ?_)
  obtain ⟨c₂, oc, vs, t, e2, hoc, hd, hv⟩ := hrec
  cases e2
  have nC : s.heap.get? c' = Option.none := Heap.get?_none_of_le hge
  have apC := S.apart_new nC
  have S₁ : Sat cx ρ _ P { s with heap := h', toks := tk } := S.setMX (tk := tk) (u c') (fun b x hb e => hx b x hb e) htb rfl
  have apC' : Apart cx (μ' ++ [(T, .obj (tabObj (ps ++ #[rawInt pos.line, rawInt pos.col, .ref c'])))]) P c' := ⟨by rw [(u c').addrs]; exact apC.1, apC.2⟩
  have S₂ := S₁.adopt (mo := .obj oc) apC' hoc rfl
  have S₃ := S₂.addM (s' := { s with heap := h'.push (kla_obj "<lambda>" (cx.env.qual ++ "<lambda>") params body scope clos ((cx.g.mg "__name__").getD .none) c' ctv), toks := tk }) (mo := .obj (kla_obj "<lambda>" (cx.env.qual ++ "<lambda>") params body scope clos ((cx.g.mg "__name__").getD .none) c' ctv)) ⟨_, tk, rfl⟩ (fun _ _ e => Heap.get?_push_of_some _ e) (none_at_size _) (Heap.get?_push_size _ rfl) rfl
  exact ⟨_, ρ, _, P, Le.refl P, S₃, .addr _, h _ c' oc vs t _ ctv _ hd hv⟩
end
end Mine
end

section
open PySem PySem.W PySem.Calls PyProof.Rows
namespace Mine
section
variable {n : Nat} {cx : Cx} {ρ : Rho} {μ : Mu} {P P' : Know} {s s' : Shared} {X : Ex → Rho → Mu → Prop} {Q : D → Rho → Mu → Prop} {QL : List D → Rho → Mu → Prop} {pos : Pos}

def sSigns (x : Str) : List D := x.cps.toList.map fun c => D.str ⟨#[c]⟩
def JStr (ty : String) (it : Addr) (ds : List D) (own : Led) (P : Know) : Prop :=
  ∃ x t i ob, ds = (sSigns x).drop i ∧ own = [(it, ob)] ∧ ob.cls = .type ty ∧ ob.data = .fields #[.str x t, .int (i : Int) 0]
theorem iter_strA (it : Addr) : Iter (fun _ => True) it (JStr "str_ascii_iterator" it) where
  mono := fun hs h => h
  self := by
    rintro cx ρ μ P s ds own Q E hh S H ⟨b, t, i, ob, rfl, rfl, h6, h7⟩ hq
    exact wpAny_pyIter_striter_ascii (x := b) (t := t) (i := i) ⟨ob, (H _ (.head _)).1, h6, h7⟩ hq
  next := by
    rintro cx ρ μ P s ds own target R E - hh S H ⟨b, t, i, ob, rfl, rfl, h6, h7⟩ hz hn
    have hit : s.heap.IsStrIter it "str_ascii_iterator" b t i := ⟨ob, (H _ (.head _)).1, h6, h7⟩
    have hap := (H _ (.head _)).2
    cases hv : b.cps[i]? with
    | none =>
      have hsz : b.cps.size ≤ i := by simpa using hv
      have e : (sSigns b).drop i = [] := List.drop_eq_nil_of_le (by simpa [sSigns] using hsz)
      refine wpAny_pyNext_ascii_end hh hit hv fun h' hk => hz e _ ?_
      exact S.away ⟨_, s.toks, rfl⟩ [it] (fun a ha => by rw [List.mem_singleton.mp ha]; exact hap) fun b o hb e => hk b o (fun q => hb (List.mem_singleton.mpr q)) e
    | some v =>
      have hv' : (sSigns b)[i]? = some (D.str ⟨#[v]⟩) := by simp [sSigns, hv]
      have e : (sSigns b).drop i = D.str ⟨#[v]⟩ :: (sSigns b).drop (i + 1) := by
        obtain ⟨hlt, q⟩ := List.getElem?_eq_some_iff.mp hv'
        rw [← q]; exact List.drop_eq_getElem_cons hlt
      refine wpAny_pyNext_ascii_item hit hv fun h' hit' hk => ?_
      have S' : Sat cx ρ μ P { s with heap := h', toks := s.toks + 1 } := S.away ⟨_, s.toks + 1, rfl⟩ [it] (fun a ha => by rw [List.mem_singleton.mp ha]; exact hap) fun b o hb e => (hk.2 b fun q => hb (List.mem_singleton.mpr q)).trans e
      obtain ⟨ob', g1, g2, g3⟩ := hit'
      refine hn _ _ e _ P _ (Le.refl P) S' (.str _ _) fun {K E'} hK => go_plain (s := { s with heap := h', toks := s.toks + 1 }) g1 g2 (by decide +kernel) (hK _ _ S' (Held.one (ob := ob') g1 hap) ⟨b, t, i + 1, ob', rfl, rfl, g2, by rw [g3]⟩)
theorem iter_strW (it : Addr) : Iter (fun _ => True) it (JStr "str_iterator" it) where
  mono := fun hs h => h
  self := by
    rintro cx ρ μ P s ds own Q E hh S H ⟨b, t, i, ob, rfl, rfl, h6, h7⟩ hq
    exact wpAny_pyIter_striter_wide (x := b) (t := t) (i := i) ⟨ob, (H _ (.head _)).1, h6, h7⟩ hq
  next := by
    rintro cx ρ μ P s ds own target R E - hh S H ⟨b, t, i, ob, rfl, rfl, h6, h7⟩ hz hn
    have hit : s.heap.IsStrIter it "str_iterator" b t i := ⟨ob, (H _ (.head _)).1, h6, h7⟩
    have hap := (H _ (.head _)).2
    cases hv : b.cps[i]? with
    | none =>
      have hsz : b.cps.size ≤ i := by simpa using hv
      have e : (sSigns b).drop i = [] := List.drop_eq_nil_of_le (by simpa [sSigns] using hsz)
      refine wpAny_pyNext_wide_end hh hit hv fun h' hk => hz e _ ?_
      exact S.away ⟨_, s.toks, rfl⟩ [it] (fun a ha => by rw [List.mem_singleton.mp ha]; exact hap) fun b o hb e => hk b o (fun q => hb (List.mem_singleton.mpr q)) e
    | some v =>
      have hv' : (sSigns b)[i]? = some (D.str ⟨#[v]⟩) := by simp [sSigns, hv]
      have e : (sSigns b).drop i = D.str ⟨#[v]⟩ :: (sSigns b).drop (i + 1) := by
        obtain ⟨hlt, q⟩ := List.getElem?_eq_some_iff.mp hv'
        rw [← q]; exact List.drop_eq_getElem_cons hlt
      refine wpAny_pyNext_wide_item hit hv fun h' hit' hk => ?_
      have S' : Sat cx ρ μ P { s with heap := h', toks := s.toks + 1 } := S.away ⟨_, s.toks + 1, rfl⟩ [it] (fun a ha => by rw [List.mem_singleton.mp ha]; exact hap) fun b o hb e => (hk.2 b fun q => hb (List.mem_singleton.mpr q)).trans e
      obtain ⟨ob', g1, g2, g3⟩ := hit'
      refine hn _ _ e _ P _ (Le.refl P) S' (.str _ _) fun {K E'} hK => go_plain (s := { s with heap := h', toks := s.toks + 1 }) g1 g2 (by decide +kernel) (hK _ _ S' (Held.one (ob := ob') g1 hap) ⟨b, t, i + 1, ob', rfl, rfl, g2, by rw [g3]⟩)
theorem it_str {T : Expr → Prop} {e : Expr} (h : OkE cx e ρ μ (fun d ρ₁ μ₁ => ∃ x, d = .str x ∧ QL (sSigns x) ρ₁ μ₁) X) : OkIt cx T e ρ μ QL X := fun P s S =>
  h.run S (Le.refl P) fun P₁ v d ρ₁ μ₁ s₁ l₁ S₁ r₁ q₁ => by
    obtain ⟨x, rfl, q⟩ := q₁
    cases r₁ with
    | str x t =>
      cases ha : x.cps.all (· < 128) with
      | false =>
        refine wpAny_pyIter_wide ha ?_
        have S₂ := S₁.keeps (s' := { s₁ with heap := s₁.heap.push { cls := .type "str_iterator", data := .fields #[.str x t, .int 0 0] } }) ⟨_, s₁.toks, rfl⟩ (fun _ _ e => Heap.get?_push_of_some _ e)
        exact ⟨_, JStr _ _, _, [(s₁.heap.objs.size, _)], ρ₁, μ₁, P₁, rfl, (iter_strW _).any, l₁, S₂, Held.one (Heap.get?_push_size _ rfl) (S₁.apart_new (none_at_size _)), ⟨x, t, 0, _, rfl, rfl, rfl, rfl⟩, q⟩
      | true =>
        refine wpAny_pyIter_ascii ha ?_
        have S₂ := S₁.keeps (s' := { s₁ with heap := s₁.heap.push { cls := .type "str_ascii_iterator", data := .fields #[.str x t, .int 0 0] } }) ⟨_, s₁.toks, rfl⟩ (fun _ _ e => Heap.get?_push_of_some _ e)
        exact ⟨_, JStr _ _, _, [(s₁.heap.objs.size, _)], ρ₁, μ₁, P₁, rfl, (iter_strA _).any, l₁, S₂, Held.one (Heap.get?_push_size _ rfl) (S₁.apart_new (none_at_size _)), ⟨x, t, 0, _, rfl, rfl, rfl, rfl⟩, q⟩
end
end Mine
end

section
open PySem PySem.W PyProof.Rows
namespace Mine
/-- the statements at these places -/
def pickS : List Nat → Nat → List Stmt → List Stmt
  | [], _, l => l
  | _ :: _, _, [] => []
  | k :: ks, i, s :: l => if k = i then pickS ks (i + 1) l else s :: pickS (k :: ks) (i + 1) l
def view : Program := { PySem.Challenge.pw_on0361_01 with main := { PySem.Challenge.pw_on0361_01.main with body := pickS [0, 9, 17, 24] 0 PySem.Challenge.pw_on0361_01.main.body } }
local macro_rules | `(tactic| o_head $H:term) => `(tactic| (
  refine holds_open (q := view) (loose := [Str.ofString "UniError", Str.ofString "range_of", Str.ofString "_law_words"]) (Xt := fun s => xlAt view [] s && recOk (RowW.records PySem.Challenge.rw_on0361_01.row.toRowW) s) (XP := XL view []) (Yf := Hook.obs $H) (Ya := Hook.val $H) (YP := Hook.says $H) (N := 3178) ?hl (Hook.of $H) (Hook.keeps $H) (fun s e => xl_of s (Bool.and_eq_true_iff.mp e).1) XL.keeps (by rfl) (by rfl) (by rfl) (fun s e => recFacts_of (Bool.and_eq_true_iff.mp e).2) (by rfl) (by assumption) (by decide +kernel) ⟨rfl, rfl, rfl, rfl, rfl, by decide +kernel⟩ ?hw ?hc
  case hl => (intro w; kernel_rfl)))
local macro_rules | `(tactic| o_law) => `(tactic| refine holds_law (by decide +kernel) fun said => ?_)
open_top hd for PySem.Challenge.rw_on0361_01
end Mine
end

section
open PySem PySem.W PySem.Calls PyProof.Rows
namespace Mine
/-- one of two, by a truth value -/
abbrev IteB (b : Bool) (A B : Prop) : Prop := if b = true then A else B
theorem ifB {b : Bool} {A B : Prop} (h1 : b = true → A) (h2 : b = false → B) : if b = true then A else B := by
  cases b with
  | true => exact h1 rfl
  | false => exact h2 rfl
theorem ifP {b : Bool} {A B : Prop} (h : b = true) (k : A) : if b = true then A else B := by rw [if_pos h]; exact k
theorem ifN {b : Bool} {A B : Prop} (h : b = false) (k : B) : if b = true then A else B := by rw [if_neg (by rw [h]; exact Bool.false_ne_true)]; exact k
theorem ifT {A B : Prop} (h : A) : if true = true then A else B := by rw [if_pos rfl]; exact h
theorem ifF {A B : Prop} (h : B) : if false = true then A else B := by rw [if_neg Bool.false_ne_true]; exact h
/-- the program's text -/
def G0 (g : GC) : Prop := g.K = hd.heap_1 g.w.params
section
variable {g : GC}
theorem gn_len (h : G0 g) : nsIn g.K mainGlobals "len" = some none := by rw [show g.K = _ from h]; kernel_rfl
theorem gn_chr (h : G0 g) : nsIn g.K mainGlobals "chr" = some none := by rw [show g.K = _ from h]; kernel_rfl
theorem gn_sorted (h : G0 g) : nsIn g.K mainGlobals "sorted" = some none := by rw [show g.K = _ from h]; kernel_rfl
theorem gn_max (h : G0 g) : nsIn g.K mainGlobals "max" = some none := by rw [show g.K = _ from h]; kernel_rfl
theorem gn_isinstance (h : G0 g) : nsIn g.K mainGlobals "isinstance" = some none := by rw [show g.K = _ from h]; kernel_rfl
theorem gn_ord (h : G0 g) : nsIn g.K mainGlobals "ord" = some none := by rw [show g.K = _ from h]; kernel_rfl
theorem gn_int (h : G0 g) : nsIn g.K mainGlobals "int" = some none := by rw [show g.K = _ from h]; kernel_rfl
theorem gn_bytes (h : G0 g) : nsIn g.K mainGlobals "bytes" = some none := by rw [show g.K = _ from h]; kernel_rfl
theorem gn_tuple (h : G0 g) : nsIn g.K mainGlobals "tuple" = some none := by rw [show g.K = _ from h]; kernel_rfl
theorem gn_list (h : G0 g) : nsIn g.K mainGlobals "list" = some none := by rw [show g.K = _ from h]; kernel_rfl
theorem gn_str (h : G0 g) : nsIn g.K mainGlobals "str" = some none := by rw [show g.K = _ from h]; kernel_rfl
theorem gn_enumerate (h : G0 g) : nsIn g.K mainGlobals "enumerate" = some none := by rw [show g.K = _ from h]; kernel_rfl
theorem gn_range (h : G0 g) : nsIn g.K mainGlobals "range" = some none := by rw [show g.K = _ from h]; kernel_rfl
theorem gn_zip (h : G0 g) : nsIn g.K mainGlobals "zip" = some none := by rw [show g.K = _ from h]; kernel_rfl
theorem bb_len : bootBuiltins "len" = some (.builtin "len") := by decide +kernel
theorem bb_chr : bootBuiltins "chr" = some (.builtin "chr") := by decide +kernel
theorem bb_sorted : bootBuiltins "sorted" = some (.builtin "sorted") := by decide +kernel
theorem bb_max : bootBuiltins "max" = some (.builtin "max") := by decide +kernel
theorem bb_isinstance : bootBuiltins "isinstance" = some (.builtin "isinstance") := by decide +kernel
theorem bb_ord : bootBuiltins "ord" = some (.builtin "ord") := by decide +kernel
theorem bb_int : bootBuiltins "int" = some (.type "int") := by decide +kernel
theorem bb_bytes : bootBuiltins "bytes" = some (.type "bytes") := by decide +kernel
theorem bb_tuple : bootBuiltins "tuple" = some (.type "tuple") := by decide +kernel
theorem bb_list : bootBuiltins "list" = some (.type "list") := by decide +kernel
theorem bb_str : bootBuiltins "str" = some (.type "str") := by decide +kernel
theorem bb_enumerate : bootBuiltins "enumerate" = some (.type "enumerate") := by decide +kernel
theorem bb_range : bootBuiltins "range" = some (.type "range") := by decide +kernel
theorem bb_zip : bootBuiltins "zip" = some (.type "zip") := by decide +kernel
theorem gk_hex_value (h : G0 g) : nsIn g.K mainGlobals "hex_value" = some (some (.ref 71)) := by rw [show g.K = _ from h]; kernel_rfl
theorem gf_hex_value (h : G0 g) : keepIn g.K (.ref 71) = true := by rw [show g.K = _ from h]; kernel_rfl
theorem gk_code_of_hex (h : G0 g) : nsIn g.K mainGlobals "code_of_hex" = some (some (.ref 78)) := by rw [show g.K = _ from h]; kernel_rfl
theorem gf_code_of_hex (h : G0 g) : keepIn g.K (.ref 78) = true := by rw [show g.K = _ from h]; kernel_rfl
theorem gk_ucd_lines (h : G0 g) : nsIn g.K mainGlobals "ucd_lines" = some (some (.ref 85)) := by rw [show g.K = _ from h]; kernel_rfl
theorem gf_ucd_lines (h : G0 g) : keepIn g.K (.ref 85) = true := by rw [show g.K = _ from h]; kernel_rfl
theorem gk_rows_of (h : G0 g) : nsIn g.K mainGlobals "rows_of" = some (some (.ref 90)) := by rw [show g.K = _ from h]; kernel_rfl
theorem gf_rows_of (h : G0 g) : keepIn g.K (.ref 90) = true := by rw [show g.K = _ from h]; kernel_rfl
theorem gk_missing_rows (h : G0 g) : nsIn g.K mainGlobals "missing_rows" = some (some (.ref 95)) := by rw [show g.K = _ from h]; kernel_rfl
theorem gf_missing_rows (h : G0 g) : keepIn g.K (.ref 95) = true := by rw [show g.K = _ from h]; kernel_rfl
theorem gk_code_of_field (h : G0 g) : nsIn g.K mainGlobals "code_of_field" = some (some (.ref 102)) := by rw [show g.K = _ from h]; kernel_rfl
theorem gf_code_of_field (h : G0 g) : keepIn g.K (.ref 102) = true := by rw [show g.K = _ from h]; kernel_rfl
theorem gk_range_of (h : G0 g) : nsIn g.K mainGlobals "range_of" = some (some (.ref 110)) := by rw [show g.K = _ from h]; kernel_rfl
theorem gf_range_of (h : G0 g) : keepIn g.K (.ref 110) = true := by rw [show g.K = _ from h]; kernel_rfl
theorem gk_word_of_field (h : G0 g) : nsIn g.K mainGlobals "word_of_field" = some (some (.ref 117)) := by rw [show g.K = _ from h]; kernel_rfl
theorem gf_word_of_field (h : G0 g) : keepIn g.K (.ref 117) = true := by rw [show g.K = _ from h]; kernel_rfl
theorem gk_ascii_of (h : G0 g) : nsIn g.K mainGlobals "ascii_of" = some (some (.ref 64)) := by rw [show g.K = _ from h]; kernel_rfl
theorem gf_ascii_of (h : G0 g) : keepIn g.K (.ref 64) = true := by rw [show g.K = _ from h]; kernel_rfl
theorem gk_ucd_value (h : G0 g) : nsIn g.K mainGlobals "ucd_value" = some (some (.ref 124)) := by rw [show g.K = _ from h]; kernel_rfl
theorem gf_ucd_value (h : G0 g) : keepIn g.K (.ref 124) = true := by rw [show g.K = _ from h]; kernel_rfl
theorem gk_ucd_check_apart (h : G0 g) : nsIn g.K mainGlobals "ucd_check_apart" = some (some (.ref 131)) := by rw [show g.K = _ from h]; kernel_rfl
theorem gf_ucd_check_apart (h : G0 g) : keepIn g.K (.ref 131) = true := by rw [show g.K = _ from h]; kernel_rfl
theorem gk_ucd_ranged (h : G0 g) : nsIn g.K mainGlobals "ucd_ranged" = some (some (.ref 138)) := by rw [show g.K = _ from h]; kernel_rfl
theorem gf_ucd_ranged (h : G0 g) : keepIn g.K (.ref 138) = true := by rw [show g.K = _ from h]; kernel_rfl
theorem gk_ucd_missing_puts (h : G0 g) : nsIn g.K mainGlobals "ucd_missing_puts" = some (some (.ref 145)) := by rw [show g.K = _ from h]; kernel_rfl
theorem gf_ucd_missing_puts (h : G0 g) : keepIn g.K (.ref 145) = true := by rw [show g.K = _ from h]; kernel_rfl
theorem gk_ucd_worded (h : G0 g) : nsIn g.K mainGlobals "ucd_worded" = some (some (.ref 150)) := by rw [show g.K = _ from h]; kernel_rfl
theorem gf_ucd_worded (h : G0 g) : keepIn g.K (.ref 150) = true := by rw [show g.K = _ from h]; kernel_rfl
theorem gk__law_ranges (h : G0 g) : nsIn g.K mainGlobals "_law_ranges" = some (some (.ref 157)) := by rw [show g.K = _ from h]; kernel_rfl
theorem gf__law_ranges (h : G0 g) : keepIn g.K (.ref 157) = true := by rw [show g.K = _ from h]; kernel_rfl
theorem gk__law_words (h : G0 g) : nsIn g.K mainGlobals "_law_words" = some (some (.ref 158)) := by rw [show g.K = _ from h]; kernel_rfl
theorem gk__law_tape (h : G0 g) : nsIn g.K mainGlobals "_law_tape" = some (some (.ref 163)) := by rw [show g.K = _ from h]; kernel_rfl
theorem gf__law_tape (h : G0 g) : keepIn g.K (.ref 163) = true := by rw [show g.K = _ from h]; kernel_rfl
theorem gk__law_next (h : G0 g) : nsIn g.K mainGlobals "_law_next" = some (some (.ref 170)) := by rw [show g.K = _ from h]; kernel_rfl
theorem gf__law_next (h : G0 g) : keepIn g.K (.ref 170) = true := by rw [show g.K = _ from h]; kernel_rfl
theorem gk__law_fields (h : G0 g) : nsIn g.K mainGlobals "_law_fields" = some (some (.ref 175)) := by rw [show g.K = _ from h]; kernel_rfl
theorem gf__law_fields (h : G0 g) : keepIn g.K (.ref 175) = true := by rw [show g.K = _ from h]; kernel_rfl
theorem gk__law_line (h : G0 g) : nsIn g.K mainGlobals "_law_line" = some (some (.ref 182)) := by rw [show g.K = _ from h]; kernel_rfl
theorem gf__law_line (h : G0 g) : keepIn g.K (.ref 182) = true := by rw [show g.K = _ from h]; kernel_rfl
theorem gk__law_missing (h : G0 g) : nsIn g.K mainGlobals "_law_missing" = some (some (.ref 189)) := by rw [show g.K = _ from h]; kernel_rfl
theorem gf__law_missing (h : G0 g) : keepIn g.K (.ref 189) = true := by rw [show g.K = _ from h]; kernel_rfl
theorem gk__law_ranged (h : G0 g) : nsIn g.K mainGlobals "_law_ranged" = some (some (.ref 196)) := by rw [show g.K = _ from h]; kernel_rfl
theorem gf__law_ranged (h : G0 g) : keepIn g.K (.ref 196) = true := by rw [show g.K = _ from h]; kernel_rfl
theorem gk__law_worded (h : G0 g) : nsIn g.K mainGlobals "_law_worded" = some (some (.ref 201)) := by rw [show g.K = _ from h]; kernel_rfl
theorem gf__law_worded (h : G0 g) : keepIn g.K (.ref 201) = true := by rw [show g.K = _ from h]; kernel_rfl
theorem gk__law_text (h : G0 g) : nsIn g.K mainGlobals "_law_text" = some (some (.ref 206)) := by rw [show g.K = _ from h]; kernel_rfl
theorem gf__law_text (h : G0 g) : keepIn g.K (.ref 206) = true := by rw [show g.K = _ from h]; kernel_rfl
theorem gk__law_told (h : G0 g) : nsIn g.K mainGlobals "_law_told" = some (some (.ref 213)) := by rw [show g.K = _ from h]; kernel_rfl
theorem gf__law_told (h : G0 g) : keepIn g.K (.ref 213) = true := by rw [show g.K = _ from h]; kernel_rfl
theorem gk__law_plain (h : G0 g) : nsIn g.K mainGlobals "_law_plain" = some (some (.ref 218)) := by rw [show g.K = _ from h]; kernel_rfl
theorem gf__law_plain (h : G0 g) : keepIn g.K (.ref 218) = true := by rw [show g.K = _ from h]; kernel_rfl
theorem gk_UniError (h : G0 g) : nsIn g.K mainGlobals "UniError" = some (some (.ref 32)) := by rw [show g.K = _ from h]; kernel_rfl
theorem gf_UniError (h : G0 g) : keepIn g.K (.ref 32) = true := by rw [show g.K = _ from h]; kernel_rfl
theorem gk_BadCode (h : G0 g) : nsIn g.K mainGlobals "BadCode" = some (some (.ref 45)) := by rw [show g.K = _ from h]; kernel_rfl
theorem gf_BadCode (h : G0 g) : keepIn g.K (.ref 45) = true := by rw [show g.K = _ from h]; kernel_rfl
theorem gk_BadRow (h : G0 g) : nsIn g.K mainGlobals "BadRow" = some (some (.ref 57)) := by rw [show g.K = _ from h]; kernel_rfl
theorem gf_BadRow (h : G0 g) : keepIn g.K (.ref 57) = true := by rw [show g.K = _ from h]; kernel_rfl
end
section
variable {g : GC}
theorem uk_row (h : G0 g) : ExcK g.K 57 32 29 := by
  rw [show g.K = _ from h]
  exact ⟨⟨_, _, _, _, _, _, _, _, _, rfl⟩, by kernel_rfl, by kernel_rfl, by kernel_rfl, by kernel_rfl, by kernel_rfl, by kernel_rfl, by kernel_rfl, by kernel_rfl⟩
theorem uk_code (h : G0 g) : ExcK g.K 45 32 29 := by
  rw [show g.K = _ from h]
  exact ⟨⟨_, _, _, _, _, _, _, _, _, rfl⟩, by kernel_rfl, by kernel_rfl, by kernel_rfl, by kernel_rfl, by kernel_rfl, by kernel_rfl, by kernel_rfl, by kernel_rfl⟩
theorem uk_init (h : G0 g) : InitK g.K 29 := by
  rw [show g.K = _ from h]
  exact ⟨⟨_, _, _, _, _, _, _, _, _, ⟨0, 0, 0, 0⟩, _, _, _, _, _, _, _, rfl, by kernel_rfl, fun s a b X => BindsTo.of_defaults (T := 22) rfl (X 22 _ rfl) rfl rfl rfl⟩⟩
end
theorem Ok.nd {α β : Type} {cx : Cx} {rep : Know → α → β → Prop} {t : Sem α} {ρ : Rho} {μ : Mu} {Q : β → Rho → Mu → Prop} {X : Ex → Rho → Mu → Prop} (h : (μ.map Prod.fst).Nodup → Ok cx rep t ρ μ Q X) : Ok cx rep t ρ μ Q X := fun P s S => h S.nd P s S
/-- names of the text and of the built-ins, as tables -/
def defTab : List (Str × Addr) := [("hex_value", 71), ("code_of_hex", 78), ("ucd_lines", 85), ("rows_of", 90), ("missing_rows", 95), ("code_of_field", 102), ("range_of", 110), ("word_of_field", 117), ("ascii_of", 64), ("ucd_value", 124), ("ucd_check_apart", 131), ("ucd_ranged", 138), ("ucd_missing_puts", 145), ("ucd_worded", 150), ("_law_tape", 163), ("_law_next", 170), ("_law_fields", 175), ("_law_line", 182), ("_law_missing", 189), ("_law_ranged", 196), ("_law_worded", 201), ("_law_text", 206), ("_law_told", 213), ("_law_plain", 218)]
def funTab : List (Str × String) := [("len", "len"), ("chr", "chr"), ("sorted", "sorted"), ("max", "max"), ("isinstance", "isinstance"), ("ord", "ord")]
def typTab : List (Str × String) := [("int", "int"), ("bytes", "bytes"), ("tuple", "tuple"), ("list", "list"), ("str", "str")]
theorem lookup_all {α : Type} {p : Str → α → Prop} {x : Str} {a : α} : (l : List (Str × α)) → (∀ e ∈ l, p e.1 e.2) → l.lookup x = some a → p x a
  | [], _, h => by cases h
  | (k, v) :: l, H, h => by
    rw [List.lookup_cons] at h
    cases q : x == k with
    | true => rw [q] at h; cases h; rw [beq_iff_eq.mp q]; exact H _ (.head _)
    | false => rw [q] at h; exact lookup_all l (fun e he => H e (.tail _ he)) h
theorem defTab_ok {g : GC} (h : G0 g) {x : Str} {f : Addr} (ht : defTab.lookup x = some f) : nsIn g.K mainGlobals x = some (some (.ref f)) ∧ keepIn g.K (.ref f) = true ∧ (x == ("__debug__" : Str)) = false := by
  refine lookup_all (p := fun x f => nsIn g.K mainGlobals x = some (some (.ref f)) ∧ keepIn g.K (.ref f) = true ∧ (x == ("__debug__" : Str)) = false) defTab (fun e he => ?_) ht
  simp only [defTab, List.mem_cons, List.not_mem_nil, or_false] at he
  rcases he with rfl | rfl | rfl | rfl | rfl | rfl | rfl | rfl | rfl | rfl | rfl | rfl | rfl | rfl | rfl | rfl | rfl | rfl | rfl | rfl | rfl | rfl | rfl | rfl
  · exact ⟨gk_hex_value h, gf_hex_value h, by decide⟩
  · exact ⟨gk_code_of_hex h, gf_code_of_hex h, by decide⟩
  · exact ⟨gk_ucd_lines h, gf_ucd_lines h, by decide⟩
  · exact ⟨gk_rows_of h, gf_rows_of h, by decide⟩
  · exact ⟨gk_missing_rows h, gf_missing_rows h, by decide⟩
  · exact ⟨gk_code_of_field h, gf_code_of_field h, by decide⟩
  · exact ⟨gk_range_of h, gf_range_of h, by decide⟩
  · exact ⟨gk_word_of_field h, gf_word_of_field h, by decide⟩
  · exact ⟨gk_ascii_of h, gf_ascii_of h, by decide⟩
  · exact ⟨gk_ucd_value h, gf_ucd_value h, by decide⟩
  · exact ⟨gk_ucd_check_apart h, gf_ucd_check_apart h, by decide⟩
  · exact ⟨gk_ucd_ranged h, gf_ucd_ranged h, by decide⟩
  · exact ⟨gk_ucd_missing_puts h, gf_ucd_missing_puts h, by decide⟩
  · exact ⟨gk_ucd_worded h, gf_ucd_worded h, by decide⟩
  · exact ⟨gk__law_tape h, gf__law_tape h, by decide⟩
  · exact ⟨gk__law_next h, gf__law_next h, by decide⟩
  · exact ⟨gk__law_fields h, gf__law_fields h, by decide⟩
  · exact ⟨gk__law_line h, gf__law_line h, by decide⟩
  · exact ⟨gk__law_missing h, gf__law_missing h, by decide⟩
  · exact ⟨gk__law_ranged h, gf__law_ranged h, by decide⟩
  · exact ⟨gk__law_worded h, gf__law_worded h, by decide⟩
  · exact ⟨gk__law_text h, gf__law_text h, by decide⟩
  · exact ⟨gk__law_told h, gf__law_told h, by decide⟩
  · exact ⟨gk__law_plain h, gf__law_plain h, by decide⟩
theorem funTab_ok {g : GC} (h : G0 g) {x : Str} {f : String} (ht : funTab.lookup x = some f) : nsIn g.K mainGlobals x = some none ∧ bootBuiltins x = some (.builtin f) ∧ x ≠ "__name__" ∧ (x == ("__debug__" : Str)) = false := by
  refine lookup_all (p := fun x f => nsIn g.K mainGlobals x = some none ∧ bootBuiltins x = some (.builtin f) ∧ x ≠ "__name__" ∧ (x == ("__debug__" : Str)) = false) funTab (fun e he => ?_) ht
  simp only [funTab, List.mem_cons, List.not_mem_nil, or_false] at he
  rcases he with rfl | rfl | rfl | rfl | rfl | rfl
  · exact ⟨gn_len h, bb_len, by decide, by decide⟩
  · exact ⟨gn_chr h, bb_chr, by decide, by decide⟩
  · exact ⟨gn_sorted h, bb_sorted, by decide, by decide⟩
  · exact ⟨gn_max h, bb_max, by decide, by decide⟩
  · exact ⟨gn_isinstance h, bb_isinstance, by decide, by decide⟩
  · exact ⟨gn_ord h, bb_ord, by decide, by decide⟩
theorem typTab_ok {g : GC} (h : G0 g) {x : Str} {f : String} (ht : typTab.lookup x = some f) : nsIn g.K mainGlobals x = some none ∧ bootBuiltins x = some (.type f) ∧ x ≠ "__name__" ∧ (x == ("__debug__" : Str)) = false := by
  refine lookup_all (p := fun x f => nsIn g.K mainGlobals x = some none ∧ bootBuiltins x = some (.type f) ∧ x ≠ "__name__" ∧ (x == ("__debug__" : Str)) = false) typTab (fun e he => ?_) ht
  simp only [typTab, List.mem_cons, List.not_mem_nil, or_false] at he
  rcases he with rfl | rfl | rfl | rfl | rfl
  · exact ⟨gn_int h, bb_int, by decide, by decide⟩
  · exact ⟨gn_bytes h, bb_bytes, by decide, by decide⟩
  · exact ⟨gn_tuple h, bb_tuple, by decide, by decide⟩
  · exact ⟨gn_list h, bb_list, by decide, by decide⟩
  · exact ⟨gn_str h, bb_str, by decide, by decide⟩
section
variable {n : Nat} {cx : Cx} {ρ : Rho} {μ : Mu} {X : Ex → Rho → Mu → Prop} {Q : D → Rho → Mu → Prop} {pos : Pos} {x : Str} {p : Pos} {e : Expr} {rest : List Expr}
theorem e_callK {f : Addr} (C : CxOk n cx) (hk : cx.env.scope.names.lookup x = some .globalImplicit) (ht : defTab.lookup x = some f) (G : G0 cx.g) (h : OkA cx pos (e :: rest) ρ μ (kCall cx (.ref f) Q X) X)
    (he : starEach (e :: rest) cx.env = (false, eval e cx.env) :: starEach rest cx.env := by rfl) (hplain : (backTo pos (starEach rest cx.env)).any (·.1) = false := by rfl) : OkE cx (.Call (.Name x p) (e :: rest) [] pos) ρ μ Q X :=
  e_call C hk (defTab_ok G ht).1 (defTab_ok G ht).2.1 h (defTab_ok G ht).2.2 he hplain
theorem e_callF {f : String} (C : CxOk n cx) (hk : cx.env.scope.names.lookup x = some .globalImplicit) (ht : funTab.lookup x = some f) (G : G0 cx.g) (h : OkA cx pos (e :: rest) ρ μ (kCall cx (.builtin f) Q X) X)
    (he : starEach (e :: rest) cx.env = (false, eval e cx.env) :: starEach rest cx.env := by rfl) (hplain : (backTo pos (starEach rest cx.env)).any (·.1) = false := by rfl) : OkE cx (.Call (.Name x p) (e :: rest) [] pos) ρ μ Q X :=
  e_callB C hk (funTab_ok G ht).1 (funTab_ok G ht).2.1 h (funTab_ok G ht).2.2.1 (funTab_ok G ht).2.2.2 he hplain
theorem e_callY {f : String} (C : CxOk n cx) (hk : cx.env.scope.names.lookup x = some .globalImplicit) (ht : typTab.lookup x = some f) (G : G0 cx.g) (h : OkA cx pos (e :: rest) ρ μ (kCall cx (.type f) Q X) X)
    (he : starEach (e :: rest) cx.env = (false, eval e cx.env) :: starEach rest cx.env := by rfl) (hplain : (backTo pos (starEach rest cx.env)).any (·.1) = false := by rfl) : OkE cx (.Call (.Name x p) (e :: rest) [] pos) ρ μ Q X :=
  e_callT C hk (typTab_ok G ht).1 (typTab_ok G ht).2.1 h (typTab_ok G ht).2.2.1 (typTab_ok G ht).2.2.2 he hplain
theorem ok_typeY {f : String} (C : CxOk n cx) (hk : cx.env.scope.names.lookup x = some .globalImplicit) (ht : typTab.lookup x = some f) (G : G0 cx.g) (h : Q (.typ f) ρ μ) : OkE cx (.Name x p) ρ μ Q X :=
  ok_type C hk (typTab_ok G ht).1 (typTab_ok G ht).2.1 h (typTab_ok G ht).2.2.1 (typTab_ok G ht).2.2.2
end
end Mine
end

open PySem PySem.W PySem.Calls PyProof.Rows
namespace Mine
section
variable {g : GC}
theorem gv_most (h : G0 g) : nsIn g.K mainGlobals "MOST_HEX" = some (some (.int 6 191)) := by rw [show g.K = _ from h]; kernel_rfl
theorem gv_max (h : G0 g) : nsIn g.K mainGlobals "MAX_CODE" = some (some (.int 1114111 189)) := by rw [show g.K = _ from h]; kernel_rfl
theorem gv_blanks (h : G0 g) : nsIn g.K mainGlobals "UCD_BLANKS" = some (some (.bytes #[32, 9, 13] 279)) := by rw [show g.K = _ from h]; kernel_rfl
theorem gv_mark (h : G0 g) : nsIn g.K mainGlobals "UCD_MARK" = some (some (.bytes #[239, 187, 191] 281)) := by rw [show g.K = _ from h]; kernel_rfl
theorem gv_missing (h : G0 g) : nsIn g.K mainGlobals "UCD_MISSING" = some (some (.bytes #[64, 109, 105, 115, 115, 105, 110, 103, 58] 283)) := by rw [show g.K = _ from h]; kernel_rfl
end
section
variable {n : Nat} {cx : Cx} {ρ : Rho} {μ : Mu} {P P' : Know} {s s' : Shared} {X : Ex → Rho → Mu → Prop} {Q : D → Rho → Mu → Prop} {QF : FlowD → Rho → Mu → Prop} {pos : Pos}
theorem ok_most (hg : G0 cx.g) (C : CxOk n cx) (hk : cx.env.scope.names.lookup ("MOST_HEX" : Str) = some .globalImplicit) (h : Q (.int 6) ρ μ) : OkE cx (.Name "MOST_HEX" pos) ρ μ Q X := ok_global C hk (gv_most hg) (fun _ _ _ => .int _ _) h
theorem ok_max (hg : G0 cx.g) (C : CxOk n cx) (hk : cx.env.scope.names.lookup ("MAX_CODE" : Str) = some .globalImplicit) (h : Q (.int 1114111) ρ μ) : OkE cx (.Name "MAX_CODE" pos) ρ μ Q X := ok_global C hk (gv_max hg) (fun _ _ _ => .int _ _) h
theorem ok_blanks (hg : G0 cx.g) (C : CxOk n cx) (hk : cx.env.scope.names.lookup ("UCD_BLANKS" : Str) = some .globalImplicit) (h : Q (.bytes #[32, 9, 13]) ρ μ) : OkE cx (.Name "UCD_BLANKS" pos) ρ μ Q X := ok_global C hk (gv_blanks hg) (fun _ _ _ => .bytes _ _) h
theorem ok_mark (hg : G0 cx.g) (C : CxOk n cx) (hk : cx.env.scope.names.lookup ("UCD_MARK" : Str) = some .globalImplicit) (h : Q (.bytes #[239, 187, 191]) ρ μ) : OkE cx (.Name "UCD_MARK" pos) ρ μ Q X := ok_global C hk (gv_mark hg) (fun _ _ _ => .bytes _ _) h
theorem ok_missing (hg : G0 cx.g) (C : CxOk n cx) (hk : cx.env.scope.names.lookup ("UCD_MISSING" : Str) = some .globalImplicit) (h : Q (.bytes #[64, 109, 105, 115, 115, 105, 110, 103, 58]) ρ μ) : OkE cx (.Name "UCD_MISSING" pos) ρ μ Q X := ok_global C hk (gv_missing hg) (fun _ _ _ => .bytes _ _) h
theorem ok_words (hg : G0 cx.g) (C : CxOk n cx) (hk : cx.env.scope.names.lookup ("_law_words" : Str) = some .globalImplicit) (h : Q (.addr 158) ρ μ) : OkE cx (.Name "_law_words" pos) ρ μ Q X := ok_global C hk (gk__law_words hg) (fun _ _ _ => .addr _) h
theorem sw_scope {t : List Expr} {v : Expr} {env env' : Env} (h : env.scope = env'.scope) : swappedStores t v env = swappedStores t v env' := by
  cases env; cases env'
  dsimp only at h
  subst h; rfl
theorem n2 {x y : Str} {d e : D} {QU : Unit → Rho → Mu → Prop} (h : Ok1 cx In RU (storeName cx.env y) e ρ μ (fun _ ρ₁ μ₁ => Ok1 cx In RU (storeName cx.env x) d ρ₁ μ₁ QU X) X) : ∃ ds, D.tuple [d, e] = .tuple ds ∧ ds.length = [x, y].length ∧ OkN cx [x, y].reverse ds.reverse ρ μ QU X := ⟨_, rfl, rfl, h⟩
theorem relabel_scope {sc : Scope} {env env' : Env} (h : env.scope = env'.scope) : relabel sc env = relabel sc env' := by
  cases env; cases env'
  dsimp only at h
  subst h; rfl
theorem swaps_scope {v : Expr} {t : Option Expr} {k : Nat} {env env' : Env} (h : env.scope = env'.scope) : swapsWith v t k env = swapsWith v t k env' := by
  cases env; cases env'
  dsimp only at h
  subst h; rfl
end

local macro_rules | `(tactic| walk_at "nm") => `(tactic| first | (refine' Eq.trans (congrArg (fun sc : Scope => List.lookup _ sc.names) ?k1) ?k2; (case k1 => with_reducible assumption); (case k2 => rfl)) | (refine' Eq.trans (congrArg (fun sc : List (Str × NameKind) => List.lookup _ sc) ?k1) ?k2; (case k1 => with_reducible assumption); (case k2 => rfl)))
local macro_rules | `(tactic| walk_at "sw") => `(tactic| (refine' (sw_scope (env' := ⟨_, 0, 0, [], Str.empty, none, .none, none, 0⟩) ?k1).trans ?k2; (case k1 => with_reducible assumption); (case k2 => rfl)))
local macro_rules | `(tactic| walk_at "rl") => `(tactic| (refine' (congrArg Scope.names (relabel_scope (env' := ⟨_, 0, 0, [], Str.empty, none, .none, none, 0⟩) ?k1)).trans ?k2; (case k1 => with_reducible assumption); (case k2 => rfl)))
local macro_rules | `(tactic| walk_at "s2") => `(tactic| (refine' (swaps_scope (env' := ⟨_, 0, 0, [], Str.empty, none, .none, none, 0⟩) ?k1).trans ?k2; (case k1 => with_reducible assumption); (case k2 => rfl)))
local macro_rules | `(tactic| walk_at "cl") => `(tactic| (refine' Eq.trans (congrArg (List.lookup _) ?k1) ?k2; (case k1 => with_reducible assumption); (case k2 => rfl)))
local macro_rules | `(tactic| walk_at "mm") => `(tactic| first | with_reducible assumption | exact List.Mem.head _ | (refine List.Mem.tail _ ?_; walk_at "mm"))
local macro_rules | `(tactic| walk_at "up") => `(tactic| first | exact Upd.head | (apply Upd.tail; walk_at "up"))
local macro_rules | `(tactic| walk_at "ok1") => `(tactic| first
  | ((with_reducible refine (?_ : OkE _ (.Name _ _) _ _ _ _)); first
    | ((with_reducible refine (?_ : OkE _ (.Name "_law_words" _) _ _ _ _)); (refine' ok_words ?k1 ?k2 ?k3 ?_; (case k1 => with_reducible assumption); (case k2 => with_reducible assumption); (case k3 => walk_at "nm")))
    | ((with_reducible refine (?_ : OkE _ (.Name "UCD_MISSING" _) _ _ _ _)); (refine' ok_missing ?k1 ?k2 ?k3 ?_; (case k1 => with_reducible assumption); (case k2 => with_reducible assumption); (case k3 => walk_at "nm")))
    | ((with_reducible refine (?_ : OkE _ (.Name "UCD_MARK" _) _ _ _ _)); (refine' ok_mark ?k1 ?k2 ?k3 ?_; (case k1 => with_reducible assumption); (case k2 => with_reducible assumption); (case k3 => walk_at "nm")))
    | ((with_reducible refine (?_ : OkE _ (.Name "UCD_BLANKS" _) _ _ _ _)); (refine' ok_blanks ?k1 ?k2 ?k3 ?_; (case k1 => with_reducible assumption); (case k2 => with_reducible assumption); (case k3 => walk_at "nm")))
    | ((with_reducible refine (?_ : OkE _ (.Name "MAX_CODE" _) _ _ _ _)); (refine' ok_max ?k1 ?k2 ?k3 ?_; (case k1 => with_reducible assumption); (case k2 => with_reducible assumption); (case k3 => walk_at "nm")))
    | ((with_reducible refine (?_ : OkE _ (.Name "MOST_HEX" _) _ _ _ _)); (refine' ok_most ?k1 ?k2 ?k3 ?_; (case k1 => with_reducible assumption); (case k2 => with_reducible assumption); (case k3 => walk_at "nm")))
    | ((refine' ok_typeY ?k1 ?k2 ?k3 ?k4 ?_; (case k1 => with_reducible assumption); (case k2 => walk_at "nm"); (case k3 => rfl); (case k4 => with_reducible assumption)))
    | ((refine' ok_local ?k1 ?k2 ?k3 ?_; (case k1 => with_reducible assumption); (case k2 => walk_at "nm"); (case k3 => rfl)))
    | ((refine' ok_cell ?k1 ?k2 ?k3 ?k4 ?_; (case k1 => with_reducible assumption); (case k2 => walk_at "nm"); (case k3 => walk_at "cl"); (case k4 => walk_at "mm")))
    | ((refine' ok_free ?k1 ?k2 ?k3 ?k4 ?_; (case k1 => with_reducible assumption); (case k2 => walk_at "nm"); (case k3 => walk_at "cl"); (case k4 => walk_at "mm"))))
  | ((with_reducible refine (?_ : OkE _ (.Constant _ _ _) _ _ _ _)); first
    | with_reducible refine ok_int ?_
    | with_reducible refine ok_str ?_
    | with_reducible refine ok_none ?_
    | with_reducible refine ok_bool ?_
    | with_reducible refine ok_bytes ?_)
  | ((with_reducible refine (?_ : OkE _ (.Call (.Name _ _) _ _ _) _ _ _ _)); first
    | ((with_reducible refine (?_ : OkE _ (.Call (.Name _ _) (_ :: _) [] _) _ _ _ _)); (refine' e_callK ?k1 ?k2 ?k3 ?k4 ?_; (case k1 => with_reducible assumption); (case k2 => walk_at "nm"); (case k3 => rfl); (case k4 => with_reducible assumption)))
    | ((with_reducible refine (?_ : OkE _ (.Call (.Name _ _) (_ :: _) [] _) _ _ _ _)); (refine' e_callF ?k1 ?k2 ?k3 ?k4 ?_; (case k1 => with_reducible assumption); (case k2 => walk_at "nm"); (case k3 => rfl); (case k4 => with_reducible assumption)))
    | ((with_reducible refine (?_ : OkE _ (.Call (.Name _ _) (_ :: _) [] _) _ _ _ _)); (refine' e_callY ?k1 ?k2 ?k3 ?k4 ?_; (case k1 => with_reducible assumption); (case k2 => walk_at "nm"); (case k3 => rfl); (case k4 => with_reducible assumption)))
    | ((with_reducible refine (?_ : OkE _ (.Call (.Name "_law_ranges" _) [] [] _) _ _ _ _)); (refine' e_call0 ?k1 ?k2 ?k3 ?k4 ?_; (case k1 => with_reducible assumption); (case k2 => walk_at "nm"); (case k3 => exact gk__law_ranges (by with_reducible assumption)); (case k4 => exact gf__law_ranges (by with_reducible assumption)))))
  | ((with_reducible refine (?_ : OkE _ (.Call (.Attribute _ _ _) _ _ _) _ _ _ _)); first
    | ((with_reducible refine (?_ : OkE _ (.Call (.Attribute _ "split" _) (_ :: _) [] _) _ _ _ _)); refine' e_meth (id := "bytes.split") ?_)
    | ((with_reducible refine (?_ : OkE _ (.Call (.Attribute _ "strip" _) (_ :: _) [] _) _ _ _ _)); refine' e_meth (id := "bytes.strip") ?_)
    | ((with_reducible refine (?_ : OkE _ (.Call (.Attribute _ "find" _) (_ :: _) [] _) _ _ _ _)); refine' e_meth (id := "bytes.find") ?_)
    | ((with_reducible refine (?_ : OkE _ (.Call (.Attribute _ "startswith" _) (_ :: _) [] _) _ _ _ _)); refine' e_meth (id := "bytes.startswith") ?_)
    | ((with_reducible refine (?_ : OkE _ (.Call (.Attribute _ "append" _) (_ :: _) [] _) _ _ _ _)); refine' e_meth (id := "list.append") ?_)
    | ((with_reducible refine (?_ : OkE _ (.Call (.Attribute _ "join" _) (_ :: _) [] _) _ _ _ _)); refine' e_meth (id := "str.join") ?_))
  | ((with_reducible refine (?_ : OkE _ _ _ _ _ _)); first
    | with_reducible refine e_BinOp ?_
    | ((with_reducible refine (?_ : OkE _ (.Compare _ [_] [_] _) _ _ _ _)); refine e_Compare1 ?_)
    | with_reducible refine e_if ?_
    | with_reducible refine e_neg ?_
    | with_reducible refine e_tuple ?_
    | with_reducible refine e_list ?_
    | with_reducible refine e_slice ?_
    | with_reducible refine e_sub ?_
    | with_reducible refine e_bool1 ?_
    | with_reducible refine e_and ?_
    | with_reducible refine e_or ?_)
  | ((with_reducible refine (?_ : OkA _ _ _ _ _ _ _)); first
    | with_reducible refine a_nil ?_
    | ((with_reducible refine (?_ : OkA _ _ (_ :: _) _ _ _ _)); refine a_cons ?_))
  | ((with_reducible refine (?_ : Ok2 _ _ _ _ _ _ _ _ _)); first
    | with_reducible refine o_add ?_
    | with_reducible refine o_sub ?_
    | with_reducible refine c_eq ?_
    | with_reducible refine c_ne ?_
    | with_reducible refine c_lt ?_
    | with_reducible refine c_le ?_
    | with_reducible refine c_gt ?_
    | with_reducible refine c_ge ?_
    | with_reducible refine c_eqS ?_
    | with_reducible refine c_eqB ?_
    | with_reducible refine c_neB ?_
    | with_reducible refine c_is ?_
    | with_reducible refine c_isNot ?_
    | ((with_reducible refine (?_ : Ok2 _ _ (binaryOp .Mult) (.int _) (.int _) _ _ _ _)); refine o_mul (by first | exact IntMulOk.of_left (by decide) | exact IntMulOk.of_right (by decide)) ?_)
    | ((with_reducible refine (?_ : Ok2 _ _ (binaryOp .Mod) (.int _) (.int _) _ _ _ _)); refine o_mod (by decide) ?_)
    | ((with_reducible refine (?_ : Ok2 _ _ (binaryOp .FloorDiv) (.int _) (.int _) _ _ _ _)); refine o_div (by decide) (by decide) ?_))
  | ((with_reducible refine (?_ : Ok _ _ (isTrue _ _ _) _ _ _ _)); first
    | ((with_reducible refine (?_ : OkT _ (.Compare _ [_] [_] _) _ _ _ _)); refine t_Compare1 ?_)
    | ((with_reducible refine (?_ : OkT _ (.Compare _ [_, _] [_, _] _) _ _ _ _)); refine t_Compare2 ?_)
    | with_reducible refine t_not ?_
    | with_reducible refine t_and_nil ?_
    | with_reducible refine t_or_nil ?_
    | with_reducible refine t_and ?_
    | with_reducible refine t_or ?_
    | ((with_reducible refine (?_ : OkT _ (.Call _ _ _ _) _ _ _ _)); refine t_plain ?_)
    | ((with_reducible refine (?_ : OkT _ (.Name _ _) _ _ _ _)); refine t_plain ?_))
  | ((with_reducible refine (?_ : Ok1 _ _ _ truthy _ _ _ _ _)); first
    | with_reducible refine truthy_bool ?_
    | with_reducible refine truthy_none ?_)
  | ((with_reducible refine (?_ : IteB _ _ _)); first
    | ((with_reducible refine (?_ : IteB true _ _)); refine ifT ?_)
    | ((with_reducible refine (?_ : IteB (D.isNone _) _ _)); first | (refine ifP rfl ?_) | (refine ifN rfl ?_) | (refine ifP (by with_reducible assumption) ?_) | (refine ifN (by with_reducible assumption) ?_) | (refine ifB (fun _ => ?_) (fun _ => ?_)))
    | ((with_reducible refine (?_ : IteB (!(D.isNone _)) _ _)); first | (refine ifP rfl ?_) | (refine ifN rfl ?_) | (refine ifP (by with_reducible assumption) ?_) | (refine ifN (by with_reducible assumption) ?_) | (refine ifB (fun _ => ?_) (fun _ => ?_)))
    | ((with_reducible refine (?_ : IteB false _ _)); refine ifF ?_)
    | (first | (refine ifP (by with_reducible assumption) ?_) | (refine ifN (by with_reducible assumption) ?_) | (refine ifB (fun _ => ?_) (fun _ => ?_))))
  | ((with_reducible refine (?_ : OkS _ _ _ _ _ _)); first
    | ((with_reducible refine (?_ : OkS _ (.Try _ [.ExceptHandler (some (.Name "BadCode" _)) none [.Raise (some (.Call (.Name "BadRow" _) [.Name _ _] [] _)) none _] _] [] [] _) _ _ _ _)); (refine' s_tryRaise ?k1 ?k2 (uk_code (by with_reducible assumption)) (uk_row (by with_reducible assumption)) (uk_init (by with_reducible assumption)) (gf_BadRow (by with_reducible assumption)) ?k3 (gk_BadCode (by with_reducible assumption)) ?k4 (gk_BadRow (by with_reducible assumption)) ?k5 ?_; (case k1 => with_reducible assumption); (case k2 => with_reducible assumption); (case k3 => walk_at "nm"); (case k4 => walk_at "nm"); (case k5 => walk_at "nm")))
    | ((with_reducible refine (?_ : OkS _ (.Raise (some (.Call (.Name "BadRow" _) [_] [] _)) none _) _ _ _ _)); (refine' s_raise (K := []) ?k1 (uk_row (by with_reducible assumption)) (uk_init (by with_reducible assumption)) (gf_BadRow (by with_reducible assumption)) ?k2 (gk_BadRow (by with_reducible assumption)) ?_; (case k1 => with_reducible assumption); (case k2 => walk_at "nm")))
    | ((with_reducible refine (?_ : OkS _ (.Raise (some (.Call (.Name "BadCode" _) [_] [] _)) none _) _ _ _ _)); (refine' s_raise (K := []) ?k1 (uk_code (by with_reducible assumption)) (uk_init (by with_reducible assumption)) (gf_BadCode (by with_reducible assumption)) ?k2 (gk_BadCode (by with_reducible assumption)) ?_; (case k1 => with_reducible assumption); (case k2 => walk_at "nm")))
    | with_reducible refine s_if ?_
    | with_reducible refine s_return ?_
    | ((with_reducible refine (?_ : OkS _ (.Expr _ _) _ _ _ _)); refine s_expr (by with_reducible assumption) ?_)
    | ((with_reducible refine (?_ : OkS _ (.Assign [.Name _ _] _ _) _ _ _ _)); refine s_assign ?_)
    | ((with_reducible refine (?_ : OkS _ (.Assign [.Tuple _ _ _] (.Tuple [_, _] _ _) _) _ _ _ _)); (refine' s_assignW (names := [_, _]) ?k1 ?_ ?k2; (case k1 => with_reducible assumption); (case k2 => walk_at "sw")))
    | ((with_reducible refine (?_ : OkS _ (.Assign [.Tuple _ _ _] _ _) _ _ _ _)); refine s_assignT ?_))
  | ((with_reducible refine (?_ : OkX _ _ _ _ _ _)); first
    | with_reducible refine x_nil ?_
    | with_reducible refine x_cons ?_)
  | ((with_reducible refine (?_ : OkC _ _ _ _ _ _ _)); first
    | ((with_reducible refine (?_ : OkC _ (.builtin "len") [.bytes _] _ _ _ _)); (refine' b_lenB ?k1 ?_; (case k1 => first | with_reducible assumption | (simp; omega))))
    | ((with_reducible refine (?_ : OkC _ (.builtin "len") [.list _] _ _ _ _)); (refine' b_lenL ?k1 ?_; (case k1 => first | with_reducible assumption | (rw [List.length_map]; omega) | (simp; omega))))
    | with_reducible refine b_int ?_
    | ((with_reducible refine (?_ : OkC _ (.builtin "max") [.int _, .int _] _ _ _ _)); refine b_max (by with_reducible assumption) ?_)
    | with_reducible refine i_int_int ?_
    | with_reducible refine i_str_str ?_
    | with_reducible refine i_bytes_bytes ?_
    | with_reducible refine i_bytes_str ?_
    | ((with_reducible refine (?_ : OkC _ (.builtin "isinstance") [.list _, .typ "int"] _ _ _ _)); refine i_list (.inl rfl) ?_)
    | ((with_reducible refine (?_ : OkC _ (.builtin "isinstance") [.list _, .typ "str"] _ _ _ _)); refine i_list (.inr (.inl rfl)) ?_)
    | ((with_reducible refine (?_ : OkC _ (.builtin "isinstance") [.list _, .typ "bytes"] _ _ _ _)); refine i_list (.inr (.inr rfl)) ?_)
    | with_reducible refine b_tupleT ?_
    | with_reducible refine m_find ?_
    | with_reducible refine m_startswith ?_
    | ((with_reducible refine (?_ : OkC _ (.builtin "bytes.split") [.bytes _, .bytes _] _ _ _ _)); (refine' m_split ?k1 ?k2 ?_; (case k1 => rfl); (case k2 => first | with_reducible assumption | omega)))
    | ((with_reducible refine (?_ : OkC _ (.builtin "bytes.strip") [.bytes _, .bytes _] _ _ _ _)); (refine' m_strip ?k1 ?_; (case k1 => first | with_reducible assumption | omega))))
  | ((with_reducible refine (?_ : OkSub _ _ _ _ _ _ _)); first
    | ((with_reducible refine (?_ : OkSub _ (.tuple _) (.int _) _ _ _ _)); (refine' sub_tuple ?k1 ?k2 ?k3 ?_; (case k1 => decide); (case k2 => decide); (case k3 => first | with_reducible assumption | rfl | assumption)))
    | ((with_reducible refine (?_ : OkSub _ (.list _) (.int (-1)) _ _ _ _)); fail)
    | ((with_reducible refine (?_ : OkSub _ (.list _) (.int _) _ _ _ _)); (refine' sub_list ?k1 ?k2 ?k3 ?_; (case k1 => decide); (case k2 => decide); (case k3 => first | with_reducible assumption | rfl | assumption))))
  | ((with_reducible refine (?_ : And _ _)); first
    | ((with_reducible refine (?_ : And (MethOf _ (.bytes _) "split" _ _ _) _)); refine ⟨meth_bytes slot_b_split type_b_split, ?_⟩)
    | ((with_reducible refine (?_ : And (MethOf _ (.bytes _) "strip" _ _ _) _)); refine ⟨meth_bytes slot_b_strip type_b_strip, ?_⟩)
    | ((with_reducible refine (?_ : And (MethOf _ (.bytes _) "find" _ _ _) _)); refine ⟨meth_bytes slot_b_find type_b_find, ?_⟩)
    | ((with_reducible refine (?_ : And (MethOf _ (.bytes _) "startswith" _ _ _) _)); refine ⟨meth_bytes slot_b_startswith FB.type_bytes_startswith, ?_⟩)
    | ((with_reducible refine (?_ : And (MethOf _ (.addr _) "append" _ _ _) _)); refine ⟨meth_list (by first | exact List.Mem.head _ | with_reducible assumption) F.slot_list_append F.type_list_append, ?_⟩)
    | ((with_reducible refine (?_ : And (MethOf _ (.str _) "join" _ _ _) _)); refine ⟨meth_str F.slot_str_join F.type_str_join, ?_⟩)
    | ((with_reducible refine (?_ : And (LE.le (List.length (_ :: _)) 1000) _)); refine ⟨Nat.le_of_ble_eq_true rfl, ?_⟩)
    | ((with_reducible refine (?_ : And (LE.le (List.length []) 1000) _)); refine ⟨Nat.zero_le _, ?_⟩))
  | with_reducible refine p_none ?_
  | with_reducible refine p_some ?_
  | ((with_reducible refine (?_ : OkG _ (.Name _ _) _ _ _ _ _)); (refine' g_name ?k1 ?k2 ?_; (case k1 => with_reducible assumption); (case k2 => walk_at "nm")))
  | ((with_reducible refine (?_ : Ok1 _ _ _ (storeName _ _) _ _ _ _ _)); (refine' store_local ?k1 ?k2 ?_; (case k1 => with_reducible assumption); (case k2 => walk_at "nm")))
  | with_reducible refine n2 ?_
  | with_reducible refine o_neg ?_
  | ((with_reducible refine (?_ : OkG _ (.Tuple _ _ _) (.tuple _) _ _ _ _)); (refine' g_tuple ?k1 ?k2 ?k3 ?_; (case k1 => with_reducible assumption); (case k2 => rfl); (case k3 => rfl)))
  | with_reducible refine i_nil ?_
  | ((with_reducible refine (?_ : OkI _ (_ :: _) (_ :: _) _ _ _ _)); refine i_cons ?_)
  | ((with_reducible refine (?_ : OkSl _ (.bytes _) _ _ none _ _ _ _)); (refine' sl_bytes ?k1 ?_; (case k1 => first | with_reducible assumption | omega)))
  | ((with_reducible refine (?_ : Ok1 _ In RU (storeName _ _) _ _ _ _ _)); (refine' store_cell ?k1 ?k2 ?k3 ?k4 ?_; (case k1 => with_reducible assumption); (case k2 => walk_at "nm"); (case k3 => walk_at "cl"); (case k4 => walk_at "up"))))
local macro_rules | `(tactic| walk_at "ok") => `(tactic| repeat' (walk_at "ok1"))

section
variable {n : Nat} {cx : Cx} {ρ : Rho} {μ : Mu} {P P' : Know} {s s' : Shared} {X : Ex → Rho → Mu → Prop} {Q : D → Rho → Mu → Prop} {QF : FlowD → Rho → Mu → Prop} {pos : Pos}
theorem bt1 {s : Shared} {fd : FuncData} {xs : List Str} (h : ∀ a, BindsTo s fd ⟨[a], []⟩ (xs.zip [a])) : ∀ vs : List Value, vs.length = 1 → BindsTo s fd ⟨vs, []⟩ (xs.zip vs)
  | [a], _ => h a
theorem bt2 {s : Shared} {fd : FuncData} {xs : List Str} (h : ∀ a b, BindsTo s fd ⟨[a, b], []⟩ (xs.zip [a, b])) : ∀ vs : List Value, vs.length = 2 → BindsTo s fd ⟨vs, []⟩ (xs.zip vs)
  | [a, b], _ => h a b
theorem bt3 {s : Shared} {fd : FuncData} {xs : List Str} (h : ∀ a b c, BindsTo s fd ⟨[a, b, c], []⟩ (xs.zip [a, b, c])) : ∀ vs : List Value, vs.length = 3 → BindsTo s fd ⟨vs, []⟩ (xs.zip vs)
  | [a, b, c], _ => h a b c
def optD : Option Int → D
  | some i => .int i
  | none => .none
def hexV (i : Int) : Option Int := if 48 ≤ i ∧ i ≤ 57 then some (i - 48) else if 65 ≤ i ∧ i ≤ 70 then some (i - 55) else if 97 ≤ i ∧ i ≤ 102 then some (i - 87) else none

theorem ct_hex {i : Int} (hg : G0 cx.g) (C : CxOk (n + 1) cx) (h : Q (optD (hexV i)) ρ μ) : OkC cx (.ref 71) [.int i] ρ μ Q X := by
  refine enter ["octet"] C (by rw [show cx.g.K = _ from hg]; rfl) (by rw [show cx.g.K = _ from hg]; kernel_rfl) (fun s vs _ => bt1 (fun a => BindsTo.of_eq rfl) vs) ?_ ?_ rfl rfl rfl fun cx' hg' C' F' hsc hcl => ?_
  · decide
  · decide
  walk_at "ok"
  all_goals
    simp only [decide_eq_true_eq, decide_eq_false_iff_not] at *
    unfold hexV at h
    (repeat' (split at h)) <;> first | exact h | (exfalso; omega)

/-- code_of_hex: a number, or nothing -/
def hexFold : List Int → Int → Option Int
  | [], k => some k
  | i :: r, k => match hexV i with
    | some d => hexFold r (16 * k + d)
    | none => none
def codeHex (b : Array UInt8) : Option Int := if 1 ≤ b.size ∧ b.size ≤ 6 then (match hexFold ((b.toList.map fun x => ((x.toNat : Nat) : Int))) 0 with
  | some k => if 1114111 < k then none else some k
  | none => none) else none
end

section
variable {n : Nat} {cx : Cx} {ρ : Rho} {μ : Mu} {P P' : Know} {s s' : Shared} {X : Ex → Rho → Mu → Prop} {Q : D → Rho → Mu → Prop} {QF : FlowD → Rho → Mu → Prop} {pos : Pos}
theorem Ok1.sub {α β γ δ : Type} {cx : Cx} {rin : Know → α → β → Prop} {rep : Know → γ → δ → Prop} {f : α → Sem γ} {b : β} {ρ ρ' : Rho} {μ : Mu} {Q : δ → Rho → Mu → Prop} {X : Ex → Rho → Mu → Prop} (h : Ok1 cx rin rep f b ρ' μ Q X) (hs : Sub ρ' ρ) : Ok1 cx rin rep f b ρ μ Q X := fun P s a S hv => h P s a (S.sub hs) hv

theorem ct_hexN {i : Int} (hv : hexV i = none) (hg : G0 cx.g) (C : CxOk (n + 1) cx) (h : Q .none ρ μ) : OkC cx (.ref 71) [.int i] ρ μ Q X := ct_hex hg C (by rw [hv]; exact h)
theorem ct_hexS {i k : Int} (hv : hexV i = some k) (hg : G0 cx.g) (C : CxOk (n + 1) cx) (h : Q (.int k) ρ μ) : OkC cx (.ref 71) [.int i] ρ μ Q X := ct_hex hg C (by rw [hv]; exact h)
theorem hexFold_none {i : Int} {r : List Int} {k : Int} (hv : hexV i = none) : hexFold (i :: r) k = none := by rw [hexFold, hv]
theorem hexFold_some {i d : Int} {r : List Int} {k : Int} (hv : hexV i = some d) : hexFold (i :: r) k = hexFold r (16 * k + d) := by rw [hexFold, hv]
theorem codeHex_out {b : Array UInt8} (h : ¬ (1 ≤ b.size ∧ b.size ≤ 6)) : codeHex b = none := by unfold codeHex; rw [if_neg h]
theorem codeHex_none {b : Array UInt8} (hv : hexFold (b.toList.map fun x => ((x.toNat : Nat) : Int)) 0 = none) : codeHex b = none := by unfold codeHex; rw [hv]; split <;> rfl
theorem codeHex_some {b : Array UInt8} {k : Int} (h : 1 ≤ b.size ∧ b.size ≤ 6) (hv : hexFold (b.toList.map fun x => ((x.toNat : Nat) : Int)) 0 = some k) : codeHex b = if 1114111 < k then none else some k := by unfold codeHex; rw [if_pos h, hv]

abbrev invHex (b : Array UInt8) (μ : Mu) : List D → Rho → Mu → Prop := fun ds ρ' μ' => ∃ k r, ds = List.map D.int r ∧ hexFold (b.toList.map fun x => ((x.toNat : Nat) : Int)) 0 = hexFold r k ∧ Sub [("number", .int k), ("octets", .bytes b)] ρ' ∧ μ' = μ
theorem ct_codeHex {b : Array UInt8} (hz : b.size ≤ 1000000) (hg : G0 cx.g) (C : CxOk (n + 2) cx) (h : ∀ k, codeHex b = some k → Q (.int k) ρ μ) (hx : codeHex b = none → X ⟨45, .bytes b, true⟩ ρ μ) : OkC cx (.ref 78) [.bytes b] ρ μ Q X := by
  refine enter ["octets"] C (by rw [show cx.g.K = _ from hg]; rfl) (by rw [show cx.g.K = _ from hg]; kernel_rfl) (fun s vs _ => bt1 (fun a => BindsTo.of_eq rfl) vs) ?_ ?_ rfl rfl rfl fun cx' hg' C' F' hsc hcl => ?_
  · decide
  · decide
  have hG : G0 cx'.g := hg' ▸ hg
  obtain ⟨outer, hfs⟩ := F'.hfs
  walk_at "ok"
  all_goals simp only [decide_eq_true_eq, decide_eq_false_iff_not, Bool.not_eq_true', Bool.not_eq_false', Bool.not_true, Bool.not_false] at *
  all_goals try exact hx (codeHex_out (by omega))
  all_goals try (exfalso; simp at *; done)
  have hsz : 1 ≤ b.size ∧ b.size ≤ 6 := by omega
  refine s_for (T := fun _ => True) C' hfs F'.hf (invHex b μ) trivial (it_bytes ?_) ?_ ?_
  · walk_at "ok"
    exact ⟨b, rfl, 0, _, by unfold bInts; rw [List.map_map]; rfl, rfl, Sub.cons rfl (Sub.cons rfl Sub.nil), rfl⟩
  · rintro own d ds ρ' μ' ⟨k, r, e, hk, hs, rfl⟩
    cases r with
    | nil => cases e
    | cons i r =>
      rw [List.map_cons] at e
      cases e
      have C'' := C'.hold own
      have hG' : G0 (cx'.hold own).g := hG
      have hsc' : (cx'.hold own).env.scope = _ := hsc
      refine Ok1.sub ?_ hs
      walk_at "ok"
      cases hv : hexV i with
      | none =>
        rw [hexFold_none hv] at hk
        refine ct_hexN hv hG' C'' ?_
        walk_at "ok"
        exact hx (codeHex_none hk)
      | some dg =>
        rw [hexFold_some hv] at hk
        refine ct_hexS hv hG' C'' ?_
        walk_at "ok"
        exact ⟨_, r, rfl, hk, Sub.cons rfl (Sub.cons rfl Sub.nil), rfl⟩
  · rintro ρ' μ' ⟨k, r, e, hk, hs, rfl⟩
    cases r with
    | cons => cases e
    | nil =>
      have hdef := codeHex_some hsz (k := k) hk
      refine Ok.sub ?_ hs
      walk_at "ok"
      · rename_i q
        rw [if_pos (by simpa using q)] at hdef
        exact hx hdef
      · rename_i q
        rw [if_neg (by simpa using q)] at hdef
        exact h k hdef
end

section
variable {n : Nat} {cx : Cx} {ρ : Rho} {μ : Mu} {P P' : Know} {s s' : Shared} {X : Ex → Rho → Mu → Prop} {Q : D → Rho → Mu → Prop} {QF : FlowD → Rho → Mu → Prop} {pos : Pos}
def codeField (b : Array UInt8) : Option Int := if b.size < 4 then none else codeHex b
theorem ct_codeField {b : Array UInt8} {k : Int} (hz : b.size ≤ 1000000) (hg : G0 cx.g) (C : CxOk (n + 3) cx) (h : ∀ k, codeField b = some k → Q (.int k) ρ μ) (hx : codeField b = none → ∀ f, X ⟨57, .int k, f⟩ ρ μ) : OkC cx (.ref 102) [.bytes b, .int k] ρ μ Q X := by
  refine enter ["field", "number"] C (by rw [show cx.g.K = _ from hg]; rfl) (by rw [show cx.g.K = _ from hg]; kernel_rfl) (fun s vs _ => bt2 (fun a b => BindsTo.of_eq rfl) vs) ?_ ?_ rfl rfl rfl fun cx' hg' C' F' hsc hcl => ?_
  · decide
  · decide
  have hG : G0 cx'.g := hg' ▸ hg
  walk_at "ok"
  · rename_i q
    have q : (b.size : Int) < 4 := by simpa using q
    exact hx (by unfold codeField; rw [if_pos (by omega)]) true
  · rename_i q
    have q : ¬ (b.size : Int) < 4 := by simpa using q
    have e : codeField b = codeHex b := by unfold codeField; rw [if_neg (by omega)]
    refine ct_codeHex hz hG C' (fun k hk => h k (e.trans hk)) fun hn => ⟨rfl, rfl, _, rfl, hx (e.trans hn) false⟩
def partsB (b : Array UInt8) : List (Array UInt8) := splitB b #[46, 46]
def rangeFin : Option Int → Option Int → Option (Int × Int)
  | some x, some y => if y < x then none else some (x, y)
  | _, _ => none
def rangeOf (b : Array UInt8) : Option (Int × Int) := if 2 < (partsB b).length then none else rangeFin (codeField ((partsB b).getD 0 #[])) (codeField ((partsB b).getD ((partsB b).length - 1) #[]))
theorem splitB_length (b c : Array UInt8) : 1 ≤ (splitB b c).length ∧ (splitB b c).length ≤ b.size + 2 := by
  unfold splitB
  rw [between_eq, betw_length]
  have := List.length_take_le (b.size + 1) (PySem.Builtin.Bytes.occurrences b c 0 b.size)
  omega
theorem splitB_size {b c x : Array UInt8} (h : x ∈ splitB b c) : x.size ≤ b.size := by
  unfold splitB at h
  rw [between_eq] at h
  exact betw_len _ _ _ _ _ h
theorem getD_bytes (l : List (Array UInt8)) {i : Nat} (h : i < l.length) : (l.map D.bytes)[i]? = some (D.bytes (l.getD i #[])) := by
  rw [List.getElem?_map, List.getD_eq_getElem?_getD, List.getElem?_eq_getElem h]; rfl
theorem getD_mem {l : List (Array UInt8)} {i : Nat} (h : i < l.length) : l.getD i #[] ∈ l := by
  rw [List.getD_eq_getElem?_getD, List.getElem?_eq_getElem h]; exact List.getElem_mem _
end

section
variable {n : Nat} {cx : Cx} {ρ : Rho} {μ : Mu} {P P' : Know} {s s' : Shared} {X : Ex → Rho → Mu → Prop} {Q : D → Rho → Mu → Prop} {QF : FlowD → Rho → Mu → Prop} {pos : Pos}
theorem ct_range {b : Array UInt8} {k : Int} (hz : b.size ≤ 100000) (hg : G0 cx.g) (C : CxOk (n + 4) cx) (h : ∀ x y, rangeOf b = some (x, y) → Q (.tuple [.int x, .int y]) ρ μ) (hx : rangeOf b = none → ∀ f, X ⟨57, .int k, f⟩ ρ μ) : OkC cx (.ref 110) [.bytes b, .int k] ρ μ Q X := by
  refine enter ["field", "number"] C (by rw [show cx.g.K = _ from hg]; rfl) (by rw [show cx.g.K = _ from hg]; kernel_rfl) (fun s vs X => bt2 (fun a b => by rw [show cx.g.K = _ from hg] at X; exact BindsTo.of_defaults (T := 103) rfl (X _ _ rfl) rfl rfl rfl) vs) ?_ ?_ rfl rfl rfl fun cx' hg' C' F' hsc hcl => ?_
  · decide
  · decide
  have hG : G0 cx'.g := hg' ▸ hg
  have hp := splitB_length b #[46, 46]
  walk_at "ok"
  · rename_i q
    have q : 2 < (splitB b #[46, 46]).length := by
      rw [decide_eq_true_eq, List.length_map] at q; omega
    exact hx (by unfold rangeOf partsB; rw [if_pos q]) true
  · rename_i q
    have q : ¬ 2 < (splitB b #[46, 46]).length := by
      rw [decide_eq_false_iff_not, List.length_map] at q; omega
    have e : rangeOf b = rangeFin (codeField ((partsB b).getD 0 #[])) (codeField ((partsB b).getD ((partsB b).length - 1) #[])) := if_neg q
    generalize hL : splitB b #[46, 46] = L at *
    have eL : partsB b = L := hL
    rw [eL] at e
    have m0 := getD_mem (l := L) (i := 0) (by omega)
    have m1 := getD_mem (l := L) (i := L.length - 1) (by omega)
    have z0 : (L.getD 0 #[]).size ≤ b.size := splitB_size (b := b) (c := #[46, 46]) (by rw [hL]; exact m0)
    have z1 : (L.getD (L.length - 1) #[]).size ≤ b.size := splitB_size (b := b) (c := #[46, 46]) (by rw [hL]; exact m1)
    have g0 := getD_bytes L (i := 0) (by omega)
    have g1 := getD_bytes L (i := L.length - 1) (by omega)
    generalize L.getD 0 #[] = x0 at *
    generalize L.getD (L.length - 1) #[] = x1 at *
    walk_at "ok"
    refine ct_codeField (by omega) hG C' (fun kx hkx => ?_) fun hn f => ?_
    · walk_at "ok"
      refine sub_last (ds := L.map D.bytes) (d := .bytes x1) (by rw [List.length_map]; omega) (by rw [List.length_map]; exact g1) ?_
      walk_at "ok"
      refine ct_codeField (by omega) hG C' (fun ky hky => ?_) fun hn f => ?_
      · rw [hkx, hky] at e
        have e : rangeOf b = if ky < kx then none else some (kx, ky) := e
        walk_at "ok"
        · rename_i q
          rw [if_pos (by simpa using q)] at e
          exact hx e true
        · rename_i q
          rw [if_neg (by simpa using q)] at e
          exact h _ _ e
      · rw [hkx, hn] at e
        exact hx e f
    · rw [hn] at e
      exact hx e f
end

section
variable {n : Nat} {cx : Cx} {ρ : Rho} {μ : Mu} {P P' : Know} {s s' : Shared} {X : Ex → Rho → Mu → Prop} {Q : D → Rho → Mu → Prop} {QF : FlowD → Rho → Mu → Prop} {pos : Pos}
/-- a comprehension that maps a list, its context unchanged -/
theorem e_compMap {α : Type} {T : Expr → Prop} {elt target iter : Expr} {scope : Scope} {cl : List (Str × Addr)} {names : List (Str × NameKind)} (l : List α) (g f : α → D) (C : CxOk n cx) (hT : T target) (hclos : closureFor scope cx.env = pure cl)
    (hcell : ∀ x ∈ scope.names, x.2 ≠ .cell) (hkind : scope.kind = .function) (hnames : ∀ x ∈ scope.names, x.2 = .local → scope.names.lookup x.1 = some .local) (hnm : (relabel scope cx.env).names = names)
    (hl : l.length ≤ 1000000)
    (turn : ∀ cx', cx'.g = cx.g → CxOk n cx' → cx'.env.scope.names = names → cx'.env.cells = cl → ∀ A acc a, a ∈ l → OkG cx' target (g a) [] ((A, .list acc) :: μ) (fun _ ρ₁ μ₁ => OkE cx' elt ρ₁ μ₁ (fun y _ μ₃ => y = f a ∧ μ₃ = (A, .list acc) :: μ) XF) XF)
    (h : OkIt cx T iter ρ μ (fun ds ρ₁ μ₁ => ds = l.map g ∧ μ₁ = μ ∧ Q (.list (l.map f)) ρ₁ μ) X) (hs : ∀ x, foldedSetIterable iter cx.env x = pure x := by intro _; rfl) :
    OkE cx (.ListComp elt [⟨target, iter, [], 0⟩] scope pos) ρ μ Q X := by
  refine e_comp (T := T) C hT hclos hcell hkind hnames hnm (fun ds acc μ' => ∃ l₁ l₂, l = l₁ ++ l₂ ∧ ds = l₂.map g ∧ acc = l₁.map f ∧ μ' = μ) (fun ds acc μ' ⟨l₁, l₂, e, _, e', _⟩ => ?_) (fun cx' hg' C' hn' hc' A d ds acc μ' ⟨l₁, l₂, e, e1, e2, e3⟩ => ?_) ?_ hs
  · rw [e', List.length_map]
    rw [e, List.length_append] at hl
    omega
  · subst e3
    cases l₂ with
    | nil => cases e1
    | cons a l₂ =>
      rw [List.map_cons] at e1
      cases e1
      have := turn cx' hg' C' hn' hc' A acc a (by rw [e]; exact List.mem_append_right _ (.head _))
      refine fun P s v S hv => wpAny_mono (this P s v S hv) (fun _ s₁ ⟨u, ρ₁, μ₁, P₁, l₁', S₁, r₁, q₁⟩ => ⟨u, ρ₁, μ₁, P₁, l₁', S₁, r₁, ?_⟩) fun _ _ e => e
      dsimp only [OkTs]
      rw [if_pos rfl]
      exact (Ok.mono q₁ (fun y ρ₂ μ₂ ⟨hy, hm⟩ => ⟨μ', hm, l₁ ++ [a], l₂, by rw [e]; simp, rfl, by rw [e2, hy]; simp, rfl⟩) fun _ _ _ x => x)
  · refine fun P s S => wpAny_mono (h P s S) (fun xv s₁ h₁ => wpAny_mono h₁ (fun it s₂ ⟨I, J, ds, own, ρ', μ', P', a1, a2, a3, a4, a5, a6, a7, a8, a9⟩ => ⟨I, J, ds, own, ρ', μ', P', a1, a2, a3, a4, a5, a6, ⟨[], l, rfl, a7, rfl, a8⟩, ?_⟩) fun _ _ e => e) fun _ _ e => e
    rintro acc μ'' ⟨l₁, l₂, e, e1, e2, e3⟩
    cases l₂ with
    | cons => cases e1
    | nil =>
      rw [List.append_nil] at e
      subst e e2 e3
      exact a9
/-- the same, stored to a local name -/
theorem s_compMap {α : Type} {x : Str} {px cpos : Pos} {T : Expr → Prop} {elt target iter : Expr} {scope : Scope} {cl : List (Str × Addr)} {names : List (Str × NameKind)} (l : List α) (g f : α → D) (C : CxOk n cx) (hT : T target)
    (hsw : swapsWith (.ListComp elt [⟨target, iter, [], 0⟩] scope cpos) (some (.Name x px)) pos.line cx.env = pure true) (hclos : closureFor scope cx.env = pure cl)
    (hcell : ∀ x ∈ scope.names, x.2 ≠ .cell) (hkind : scope.kind = .function) (hnames : ∀ x ∈ scope.names, x.2 = .local → scope.names.lookup x.1 = some .local) (hnm : (relabel scope cx.env).names = names)
    (hl : l.length ≤ 1000000) (hk : cx.env.scope.names.lookup x = some .local)
    (turn : ∀ cx', cx'.g = cx.g → CxOk n cx' → cx'.env.scope.names = names → cx'.env.cells = cl → ∀ A acc a, a ∈ l → OkG cx' target (g a) [] ((A, .list acc) :: μ) (fun _ ρ₁ μ₁ => OkE cx' elt ρ₁ μ₁ (fun y _ μ₃ => y = f a ∧ μ₃ = (A, .list acc) :: μ) XF) XF)
    (h : OkIt cx T iter ρ μ (fun ds ρ₁ μ₁ => ds = l.map g ∧ μ₁ = μ ∧ QF .next ((x, .list (l.map f)) :: ρ₁) μ) X) (hs : ∀ x, foldedSetIterable iter cx.env x = pure x := by intro _; rfl) :
    OkS cx (.Assign [.Name x px] (.ListComp elt [⟨target, iter, [], 0⟩] scope cpos) pos) ρ μ QF X := by
  refine s_comp (T := T) C hT hsw hclos hcell hkind hnames hnm (fun ds acc μ' => ∃ l₁ l₂, l = l₁ ++ l₂ ∧ ds = l₂.map g ∧ acc = l₁.map f ∧ μ' = μ) (fun ds acc μ' ⟨l₁, l₂, e, _, e', _⟩ => ?_) (fun cx' hg' C' hn' hc' A d ds acc μ' ⟨l₁, l₂, e, e1, e2, e3⟩ => ?_) hk ?_ hs
  · rw [e', List.length_map]
    rw [e, List.length_append] at hl
    omega
  · subst e3
    cases l₂ with
    | nil => cases e1
    | cons a l₂ =>
      rw [List.map_cons] at e1
      cases e1
      have := turn cx' hg' C' hn' hc' A acc a (by rw [e]; exact List.mem_append_right _ (.head _))
      refine fun P s v S hv => wpAny_mono (this P s v S hv) (fun _ s₁ ⟨u, ρ₁, μ₁, P₁, l₁', S₁, r₁, q₁⟩ => ⟨u, ρ₁, μ₁, P₁, l₁', S₁, r₁, ?_⟩) fun _ _ e => e
      dsimp only [OkTs]
      rw [if_pos rfl]
      exact (Ok.mono q₁ (fun y ρ₂ μ₂ ⟨hy, hm⟩ => ⟨μ', hm, l₁ ++ [a], l₂, by rw [e]; simp, rfl, by rw [e2, hy]; simp, rfl⟩) fun _ _ _ x => x)
  · refine fun P s S => wpAny_mono (h P s S) (fun xv s₁ h₁ => wpAny_mono h₁ (fun it s₂ ⟨I, J, ds, own, ρ', μ', P', a1, a2, a3, a4, a5, a6, a7, a8, a9⟩ => ⟨I, J, ds, own, ρ', μ', P', a1, a2, a3, a4, a5, a6, ⟨[], l, rfl, a7, rfl, a8⟩, ?_⟩) fun _ _ e => e) fun _ _ e => e
    rintro acc μ'' ⟨l₁, l₂, e, e1, e2, e3⟩
    cases l₂ with
    | cons => cases e1
    | nil =>
      rw [List.append_nil] at e
      subst e e2 e3
      exact a9
theorem foldMap_nil {α β : Type} {f : α → β} : List.map f [] = [] := rfl
end

section
variable {n : Nat} {cx : Cx} {ρ : Rho} {μ : Mu} {P P' : Know} {s s' : Shared} {X : Ex → Rho → Mu → Prop} {Q : D → Rho → Mu → Prop} {QF : FlowD → Rho → Mu → Prop} {pos : Pos}
def signB (b : Array UInt8) : List Str := b.toList.map fun c => ⟨#[c.toNat]⟩
def asciiS (b : Array UInt8) : Str := Txt.join "" (signB b)
theorem signB_sum (b : Array UInt8) : ((signB b).map (·.length)).sum = b.size := by
  unfold signB
  rw [List.map_map, show ((fun x : Str => x.length) ∘ fun c : UInt8 => (⟨#[c.toNat]⟩ : Str)) = fun _ => 1 from rfl]
  rw [← Array.length_toList]
  induction b.toList with
  | nil => rfl
  | cons a l ih => rw [List.map_cons, List.sum_cons, ih, List.length_cons]; omega
abbrev invAsc (b : Array UInt8) (μ : Mu) : List D → Rho → Mu → Prop := fun ds ρ' μ' => ∃ r : List UInt8, ds = r.map (fun c => D.int (c.toNat : Int)) ∧ (∀ c ∈ r, c.toNat ≤ 127) ∧ Sub [("octets", .bytes b)] ρ' ∧ μ' = μ
theorem ct_ascii {b : Array UInt8} (hb : ∀ c ∈ b.toList, c.toNat ≤ 127) (hz : b.size ≤ 100000) (hg : G0 cx.g) (C : CxOk (n + 1) cx) (h : Q (.str (asciiS b)) ρ μ) : OkC cx (.ref 64) [.bytes b] ρ μ Q X := by
  refine enter ["octets"] C (by rw [show cx.g.K = _ from hg]; rfl) (by rw [show cx.g.K = _ from hg]; kernel_rfl) (fun s vs _ => bt1 (fun a => BindsTo.of_eq rfl) vs) ?_ ?_ rfl rfl rfl fun cx' hg' C' F' hsc hcl => ?_
  · decide
  · decide
  have hG : G0 cx'.g := hg' ▸ hg
  obtain ⟨outer, hfs⟩ := F'.hfs
  walk_at "ok"
  refine s_for (T := fun _ => True) C' hfs F'.hf (invAsc b μ) trivial (it_bytes ?_) ?_ ?_
  · walk_at "ok"
    exact ⟨b, rfl, b.toList, rfl, hb, Sub.cons rfl Sub.nil, rfl⟩
  · rintro own d ds ρ' μ' ⟨r, e, hr, hs, rfl⟩
    cases r with
    | nil => cases e
    | cons c r =>
      rw [List.map_cons] at e
      cases e
      have C'' := C'.hold own
      have hG' : G0 (cx'.hold own).g := hG
      have hsc' : (cx'.hold own).env.scope = _ := hsc
      have hc := hr c (.head _)
      refine Ok1.sub ?_ hs
      walk_at "ok"
      · rename_i q
        exfalso
        rw [decide_eq_true_eq] at q
        omega
      · exact ⟨r, rfl, fun c h => hr c (.tail _ h), Sub.cons rfl Sub.nil, rfl⟩
  · rintro ρ' μ' ⟨r, e, hr, hs, rfl⟩
    refine Ok.sub ?_ hs
    walk_at "ok"
    refine e_compMap (T := fun _ => True) b.toList (fun c => D.int (c.toNat : Int)) (fun c => D.str ⟨#[c.toNat]⟩) C' trivial (cl := []) rfl (by decide) rfl (by decide) (by walk_at "rl") (by rw [Array.length_toList]; omega) ?_ (it_bytes ?_)
    · intro cx₂ hg₂ C₂ hn₂ hc₂ A acc c hc
      have hG₂ : G0 cx₂.g := hg₂ ▸ hG
      walk_at "ok"
      refine b_chr (by omega) (by have := hb c hc; omega) ?_
      exact ⟨by simp, rfl⟩
    · walk_at "ok"
      refine ⟨b, rfl, rfl, rfl, ?_⟩
      walk_at "ok"
      have e : b.toList.map (fun c => D.str ⟨#[c.toNat]⟩) = (signB b).map D.str := by unfold signB; rw [List.map_map]; rfl
      rw [e]
      refine m_join (xs := signB b) ?_ ?_
      · rw [signB_sum]; show b.size + _ * 0 ≤ _; omega
      · walk_at "ok"
        exact h
end

section
variable {n : Nat} {cx : Cx} {ρ : Rho} {μ : Mu} {P P' : Know} {s s' : Shared} {X : Ex → Rho → Mu → Prop} {Q : D → Rho → Mu → Prop} {QF : FlowD → Rho → Mu → Prop} {pos : Pos}
theorem ct_word {b : Array UInt8} {k : Int} (hb : ∀ c ∈ b.toList, c.toNat ≤ 127) (hz : b.size ≤ 100000) (hg : G0 cx.g) (C : CxOk (n + 2) cx) (h : Q (.str (asciiS b)) ρ μ) : OkC cx (.ref 117) [.bytes b, .int k] ρ μ Q X := by
  refine enter ["field", "number"] C (by rw [show cx.g.K = _ from hg]; rfl) (by rw [show cx.g.K = _ from hg]; kernel_rfl) (fun s vs _ => bt2 (fun a b => BindsTo.of_eq rfl) vs) ?_ ?_ rfl rfl rfl fun cx' hg' C' F' hsc hcl => ?_
  · decide
  · decide
  have hG : G0 cx'.g := hg' ▸ hg
  walk_at "ok"
  refine ct_ascii hb hz hG C' ?_
  walk_at "ok"
  exact h
theorem ct_valueN {b : Array UInt8} {k : Int} (hb : ∀ c ∈ b.toList, c.toNat ≤ 127) (hz : b.size ≤ 100000) (hg : G0 cx.g) (C : CxOk (n + 3) cx) (h : Q (.str (asciiS b)) ρ μ) : OkC cx (.ref 124) [.bytes b, .none, .int k] ρ μ Q X := by
  refine enter ["field", "values", "number"] C (by rw [show cx.g.K = _ from hg]; rfl) (by rw [show cx.g.K = _ from hg]; kernel_rfl) (fun s vs _ => bt3 (fun a b c => BindsTo.of_eq rfl) vs) ?_ ?_ rfl rfl rfl fun cx' hg' C' F' hsc hcl => ?_
  · decide
  · decide
  have hG : G0 cx'.g := hg' ▸ hg
  walk_at "ok"
  refine ct_word hb hz hG C' ?_
  walk_at "ok"
  exact h
theorem ct_valueD {b : Array UInt8} {k : Int} {va : Addr} {es : List (Str × D)} (hm : (va, MO.dict es) ∈ μ) (hv : va ≠ sysModules) (hb : ∀ c ∈ b.toList, c.toNat ≤ 127) (hz : b.size ≤ 100000) (hg : G0 cx.g) (C : CxOk (n + 3) cx)
    (h : ∀ d, es.lookup (asciiS b) = some d → Q d ρ μ) (hx : es.lookup (asciiS b) = none → X ⟨57, .int k, true⟩ ρ μ) : OkC cx (.ref 124) [.bytes b, .addr va, .int k] ρ μ Q X := by
  refine enter ["field", "values", "number"] C (by rw [show cx.g.K = _ from hg]; rfl) (by rw [show cx.g.K = _ from hg]; kernel_rfl) (fun s vs _ => bt3 (fun a b c => BindsTo.of_eq rfl) vs) ?_ ?_ rfl rfl rfl fun cx' hg' C' F' hsc hcl => ?_
  · decide
  · decide
  have hG : G0 cx'.g := hg' ▸ hg
  walk_at "ok"
  refine ct_word hb hz hG C' ?_
  walk_at "ok"
  refine c_notInDict hm hv ?_
  walk_at "ok"
  · rename_i q
    refine hx ?_
    cases e : List.lookup (asciiS b) es with
    | none => rfl
    | some d => rw [e] at q; cases q
  · rename_i q
    cases e : List.lookup (asciiS b) es with
    | none => rw [e] at q; cases q
    | some d =>
      refine sub_dict hm e ?_
      walk_at "ok"
      exact h d e
def linesB (b : Array UInt8) : List (Array UInt8) := splitB b #[10]
theorem ct_lines {b : Array UInt8} (hs : startsB b #[239, 187, 191] = false) (hz : b.size ≤ 100000) (hg : G0 cx.g) (C : CxOk (n + 1) cx) (h : Q (.list ((linesB b).map D.bytes)) ρ μ) : OkC cx (.ref 85) [.bytes b] ρ μ Q X := by
  refine enter ["octets"] C (by rw [show cx.g.K = _ from hg]; rfl) (by rw [show cx.g.K = _ from hg]; kernel_rfl) (fun s vs _ => bt1 (fun a => BindsTo.of_eq rfl) vs) ?_ ?_ rfl rfl rfl fun cx' hg' C' F' hsc hcl => ?_
  · decide
  · decide
  have hG : G0 cx'.g := hg' ▸ hg
  walk_at "ok"
  exact h
end

section
variable {n : Nat} {cx : Cx} {ρ : Rho} {μ : Mu} {P P' : Know} {s s' : Shared} {X : Ex → Rho → Mu → Prop} {Q : D → Rho → Mu → Prop} {QF : FlowD → Rho → Mu → Prop} {pos : Pos}
/-- a list of the frame's own is known from now on -/
theorem Ok.freeze {α β : Type} {rep : Know → α → β → Prop} {t : Sem α} {x : Str} {A : Addr} {ds : List D} {μ' : Mu} {QQ : β → Rho → Mu → Prop} (hx : ρ.lookup x = some (.addr A)) (u : Rem A (.list ds) μ μ') (h : Ok cx rep t ((x, .list ds) :: ρ) μ' QQ X) : Ok cx rep t ρ μ QQ X := fun P s S => by
  obtain ⟨P', l, S', hin, _⟩ := S.freeze u
  obtain ⟨m, hm, hv⟩ := S'.ns
  have S'' : Sat cx ((x, .list ds) :: ρ) μ' P' s := by
    refine ⟨S'.same, ⟨m, hm, fun y d hy => ?_⟩, S'.fz, S'.mu, S'.nd, S'.dj, S'.stays, S'.mb, S'.fr, S'.kp, S'.sp, S'.lb, S'.lk⟩
    rw [List.lookup_cons] at hy
    by_cases q : y = x
    · subst q
      rw [beq_self_eq_true] at hy
      cases hy
      obtain ⟨v, h1, h2⟩ := hv y _ hx
      cases h2
      exact ⟨_, h1, hin⟩
    · rw [beq_eq_false_iff_ne.mpr q] at hy
      exact hv y d hy
  exact wpLe l (h P' s S'')

abbrev Row := Int × List (Array UInt8) × Array UInt8
def stripA (b : Array UInt8) : Array UInt8 := (stripL b.toList [32, 9, 13]).toArray
def cutA (line : Array UInt8) : Int := findB line #[35]
def bodyA (line : Array UInt8) : Array UInt8 := if cutA line < 0 then line else (cutD line.toList none (some (cutA line))).toArray
def remarkA (line : Array UInt8) : Array UInt8 := if cutA line < 0 then #[] else (cutD line.toList (some (cutA line + 1)) none).toArray
def fieldsA (body : Array UInt8) : List (Array UInt8) := (splitB body #[59]).map stripA
def rowsA : Nat → List (Array UInt8) → List Row
  | _, [] => []
  | i, line :: r => if (stripA (bodyA line)).toList != [] then ((i : Int) + 1, fieldsA (bodyA line), stripA (remarkA line)) :: rowsA (i + 1) r else rowsA (i + 1) r
def rowD (r : Row) : D := .tuple [.int r.1, .list (r.2.1.map D.bytes), .bytes r.2.2]
theorem rowsA_length : ∀ (l : List (Array UInt8)) (i : Nat), (rowsA i l).length ≤ l.length
  | [], _ => Nat.le_refl _
  | line :: r, i => by
    rw [rowsA]
    have := rowsA_length r (i + 1)
    split
    · rw [List.length_cons, List.length_cons]; omega
    · rw [List.length_cons]; omega
theorem cutD_length {α : Type} (l : List α) (lo hi : Option Int) : (cutD l lo hi).length ≤ l.length := by
  unfold cutD
  rw [List.length_take, List.length_drop]; omega
theorem bodyA_size (l : Array UInt8) : (bodyA l).size ≤ l.size := by
  unfold bodyA
  split
  · exact Nat.le_refl _
  · have := cutD_length l.toList none (some (cutA l))
    rw [Array.length_toList] at this
    simpa using this
theorem remarkA_size (l : Array UInt8) : (remarkA l).size ≤ l.size := by
  unfold remarkA
  split
  · exact Nat.zero_le _
  · have := cutD_length l.toList (some (cutA l + 1)) none
    rw [Array.length_toList] at this
    simpa using this
theorem linesB_size {b x : Array UInt8} (h : x ∈ linesB b) : x.size ≤ b.size := splitB_size h
theorem bodyA_neg {l : Array UInt8} (h : findB l #[35] < 0) : bodyA l = l ∧ remarkA l = #[] := by unfold bodyA remarkA cutA; rw [if_pos h, if_pos h]; exact ⟨rfl, rfl⟩
theorem bodyA_pos {l : Array UInt8} (h : ¬ findB l #[35] < 0) : (cutD l.toList none (some (findB l #[35]))).toArray = bodyA l ∧ (cutD l.toList (some (findB l #[35] + 1)) none).toArray = remarkA l := by unfold bodyA remarkA cutA; rw [if_neg h, if_neg h]; exact ⟨rfl, rfl⟩
theorem rowsA_in {i : Nat} {l : Array UInt8} {r : List (Array UInt8)} (h : (stripA (bodyA l)).toList != []) : rowsA i (l :: r) = ((i : Int) + 1, fieldsA (bodyA l), stripA (remarkA l)) :: rowsA (i + 1) r := by rw [rowsA, if_pos h]
theorem rowsA_out {i : Nat} {l : Array UInt8} {r : List (Array UInt8)} (h : ((stripA (bodyA l)).toList != []) = false) : rowsA i (l :: r) = rowsA (i + 1) r := by rw [rowsA, if_neg (by rw [h]; exact Bool.false_ne_true)]
theorem fieldsA_D (b : Array UInt8) : ((fieldsA b).map D.bytes) = (splitB b #[59]).map fun f => D.bytes (stripL f.toList #[32, 9, 13].toList).toArray := by unfold fieldsA; rw [List.map_map]; rfl
abbrev invRows (b : Array UInt8) (A : Addr) (μ : Mu) : List D → Rho → Mu → Prop := fun ds ρ' μ' => ∃ i r acc, ds = enumD i (List.map D.bytes r) ∧ (∀ x ∈ r, x.size ≤ 10000) ∧ rowsA 0 (linesB b) = acc ++ rowsA i r ∧ Sub [("found", .addr A)] ρ' ∧ μ' = (A, .list (acc.map rowD)) :: μ
theorem ct_rows {b : Array UInt8} (hs : startsB b #[239, 187, 191] = false) (hz : b.size ≤ 10000) (hg : G0 cx.g) (C : CxOk (n + 2) cx) (h : Q (.list ((rowsA 0 (linesB b)).map rowD)) ρ μ) : OkC cx (.ref 90) [.bytes b] ρ μ Q X := by
  refine enter ["octets"] C (by rw [show cx.g.K = _ from hg]; rfl) (by rw [show cx.g.K = _ from hg]; kernel_rfl) (fun s vs _ => bt1 (fun a => BindsTo.of_eq rfl) vs) ?_ ?_ rfl rfl rfl fun cx' hg' C' F' hsc hcl => ?_
  · decide
  · decide
  have hG : G0 cx'.g := hg' ▸ hg
  obtain ⟨outer, hfs⟩ := F'.hfs
  refine x_cons (s_assign (e_listM ?_))
  walk_at "ok"
  intro A
  walk_at "ok"
  have hlen := (splitB_length b #[10]).2
  refine s_for (T := IsTupleT) C' hfs F'.hf (invRows b A μ) ?_ (it_enum C' rfl (by walk_at "nm") (gn_enumerate hG) ?_) ?_ ?_
  · exact ⟨_, _, _, rfl⟩
  · walk_at "ok"
    refine ct_lines hs (by omega) hG C' ?_
    exact ⟨_, rfl, 0, linesB b, [], rfl, fun x hx => Nat.le_trans (linesB_size hx) hz, rfl, Sub.cons rfl Sub.nil, rfl⟩
  · rintro own d ds ρ' μ' ⟨i, r, acc, e, hr, ha, hsb, rfl⟩
    cases r with
    | nil => cases e
    | cons line r =>
      rw [List.map_cons, enumD] at e
      cases e
      have C'' := C'.hold own
      have hG' : G0 (cx'.hold own).g := hG
      have hsc' : (cx'.hold own).env.scope = _ := hsc
      have hlz := hr line (.head _)
      have hbz := bodyA_size line
      have hrz := remarkA_size line
      have hacc : acc.length ≤ 20000 := by
        have := rowsA_length (linesB b) 0
        rw [ha, List.length_append] at this
        have h2 : (linesB b).length ≤ b.size + 2 := hlen
        omega
      refine Ok1.sub ?_ hsb
      by_cases hq : findB line #[35] < 0
      · have hd := decide_eq_true hq
        obtain ⟨e1, e2⟩ := bodyA_neg hq
        have h0 : (#[] : Array UInt8).size ≤ 10000 := Nat.zero_le _
        walk_at "ok"
        · refine s_compMap (T := fun _ => True) (splitB line #[59]) D.bytes (fun f => D.bytes (stripL f.toList #[32, 9, 13].toList).toArray) C'' trivial (by walk_at "s2") (cl := []) rfl (by decide) rfl (by decide) (by walk_at "rl") (by have := (splitB_length line #[59]).2; omega) (by walk_at "nm") ?_ (it_list ?_)
          · intro cx₂ hg₂ C₂ hn₂ hc₂ A₂ acc₂ f hf
            have hG₂ : G0 cx₂.g := hg₂ ▸ hG'
            have hfz := splitB_size hf
            walk_at "ok"
            exact ⟨rfl, rfl⟩
          · walk_at "ok"
            refine ⟨_, rfl, rfl, rfl, ?_⟩
            walk_at "ok"
            refine m_append (ds := acc.map rowD) .head (by rw [List.length_map]; omega) ?_
            rename_i q
            rw [rowsA_in (by rw [e1]; exact q)] at ha
            walk_at "ok"
            refine ⟨i + 1, r, acc ++ [((i : Int) + 1, fieldsA (bodyA line), stripA (remarkA line))], rfl, fun x h => hr x (.tail _ h), by rw [ha, List.append_assoc]; rfl, Sub.cons rfl Sub.nil, ?_⟩
            rw [List.map_append]
            unfold rowD
            rw [List.map_cons, List.map_nil]
            dsimp only
            rw [fieldsA_D, e1, e2]
            rfl
        · rename_i q
          rw [rowsA_out (by rw [e1]; exact q)] at ha
          exact ⟨i + 1, r, acc, rfl, fun x h => hr x (.tail _ h), ha, Sub.cons rfl Sub.nil, rfl⟩
      · have hd := decide_eq_false hq
        obtain ⟨e1, e2⟩ := bodyA_pos hq
        have hb2 : (cutD line.toList none (some (findB line #[35]))).toArray.size ≤ 10000 := by rw [e1]; omega
        have hr2 : (cutD line.toList (some (findB line #[35] + 1)) none).toArray.size ≤ 10000 := by rw [e2]; omega
        walk_at "ok"
        refine ⟨_, rfl, ?_⟩
        walk_at "ok"
        refine ⟨_, rfl, ?_⟩
        walk_at "ok"
        · refine s_compMap (T := fun _ => True) (splitB (cutD line.toList none (some (findB line #[35]))).toArray #[59]) D.bytes (fun f => D.bytes (stripL f.toList #[32, 9, 13].toList).toArray) C'' trivial (by walk_at "s2") (cl := []) rfl (by decide) rfl (by decide) (by walk_at "rl") (by have := (splitB_length (cutD line.toList none (some (findB line #[35]))).toArray #[59]).2; omega) (by walk_at "nm") ?_ (it_list ?_)
          · intro cx₂ hg₂ C₂ hn₂ hc₂ A₂ acc₂ f hf
            have hG₂ : G0 cx₂.g := hg₂ ▸ hG'
            have hfz := splitB_size hf
            walk_at "ok"
            exact ⟨rfl, rfl⟩
          · walk_at "ok"
            refine ⟨_, rfl, rfl, rfl, ?_⟩
            walk_at "ok"
            refine m_append (ds := acc.map rowD) .head (by rw [List.length_map]; omega) ?_
            rename_i q
            rw [rowsA_in (by rw [← e1]; exact q)] at ha
            walk_at "ok"
            refine ⟨i + 1, r, acc ++ [((i : Int) + 1, fieldsA (bodyA line), stripA (remarkA line))], rfl, fun x h => hr x (.tail _ h), by rw [ha, List.append_assoc]; rfl, Sub.cons rfl Sub.nil, ?_⟩
            rw [List.map_append]
            unfold rowD
            rw [List.map_cons, List.map_nil]
            dsimp only
            rw [fieldsA_D, ← e1, ← e2]
            rfl
        · rename_i q
          rw [rowsA_out (by rw [← e1]; exact q)] at ha
          exact ⟨i + 1, r, acc, rfl, fun x h => hr x (.tail _ h), ha, Sub.cons rfl Sub.nil, rfl⟩
  · rintro ρ' μ' ⟨i, r, acc, e, hr, ha, hsb, rfl⟩
    cases r with
    | cons => cases e
    | nil =>
      rw [rowsA, List.append_nil] at ha
      refine Ok.sub ?_ hsb
      refine Ok.freeze (x := "found") rfl .head ?_
      walk_at "ok"
      rw [← ha]; exact h
end

section
variable {n : Nat} {cx : Cx} {ρ : Rho} {μ : Mu} {P P' : Know} {s s' : Shared} {X : Ex → Rho → Mu → Prop} {Q : D → Rho → Mu → Prop} {QF : FlowD → Rho → Mu → Prop} {pos : Pos}
def headA (line : Array UInt8) : Array UInt8 := (cutD (stripA (remarkA line)).toList (some 9) none).toArray
def isMiss (line : Array UInt8) : Bool := decide (0 ≤ cutA line) && ((stripA (bodyA line)).toList == [] && startsB (stripA (remarkA line)) #[64, 109, 105, 115, 115, 105, 110, 103, 58])
abbrev MRow := Int × List (Array UInt8)
def missA : Nat → List (Array UInt8) → List MRow
  | _, [] => []
  | i, line :: r => if isMiss line then ((i : Int) + 1, fieldsA (bodyA (headA line))) :: missA (i + 1) r else missA (i + 1) r
def mrowD (r : MRow) : D := .tuple [.int r.1, .list (r.2.map D.bytes)]
theorem missA_length : ∀ (l : List (Array UInt8)) (i : Nat), (missA i l).length ≤ l.length
  | [], _ => Nat.le_refl _
  | line :: r, i => by
    rw [missA]
    have := missA_length r (i + 1)
    split
    · rw [List.length_cons, List.length_cons]; omega
    · rw [List.length_cons]; omega
theorem missA_in {i : Nat} {l : Array UInt8} {r : List (Array UInt8)} (h : isMiss l = true) : missA i (l :: r) = ((i : Int) + 1, fieldsA (bodyA (headA l))) :: missA (i + 1) r := by rw [missA, if_pos h]
theorem missA_out {i : Nat} {l : Array UInt8} {r : List (Array UInt8)} (h : isMiss l = false) : missA i (l :: r) = missA (i + 1) r := by rw [missA, if_neg (by rw [h]; exact Bool.false_ne_true)]
theorem stripA_size (b : Array UInt8) : (stripA b).size ≤ b.size := by
  unfold stripA
  have := (strip_sub b.toList [32, 9, 13]).length_le
  rw [Array.length_toList] at this
  rw [← Array.length_toList]
  exact this
theorem headA_size (l : Array UInt8) : (headA l).size ≤ l.size := by
  unfold headA
  have h1 := cutD_length (stripA (remarkA l)).toList (some 9) none
  rw [Array.length_toList] at h1
  have h2 := stripA_size (remarkA l)
  have h3 := remarkA_size l
  rw [← Array.length_toList (xs := (cutD (stripA (remarkA l)).toList (some 9) none).toArray)]
  exact Nat.le_trans h1 (Nat.le_trans h2 h3)
abbrev invMiss (b : Array UInt8) (A : Addr) (μ : Mu) : List D → Rho → Mu → Prop := fun ds ρ' μ' => ∃ i r acc, ds = enumD i (List.map D.bytes r) ∧ (∀ x ∈ r, x.size ≤ 10000) ∧ missA 0 (linesB b) = acc ++ missA i r ∧ Sub [("found", .addr A)] ρ' ∧ μ' = (A, .list (acc.map mrowD)) :: μ
theorem ct_missing {b : Array UInt8} (hs : startsB b #[239, 187, 191] = false) (hz : b.size ≤ 10000) (hg : G0 cx.g) (C : CxOk (n + 2) cx) (h : Q (.list ((missA 0 (linesB b)).map mrowD)) ρ μ) : OkC cx (.ref 95) [.bytes b] ρ μ Q X := by
  refine enter ["octets"] C (by rw [show cx.g.K = _ from hg]; rfl) (by rw [show cx.g.K = _ from hg]; kernel_rfl) (fun s vs _ => bt1 (fun a => BindsTo.of_eq rfl) vs) ?_ ?_ rfl rfl rfl fun cx' hg' C' F' hsc hcl => ?_
  · decide
  · decide
  have hG : G0 cx'.g := hg' ▸ hg
  obtain ⟨outer, hfs⟩ := F'.hfs
  refine x_cons (s_assign (e_listM ?_))
  walk_at "ok"
  intro A
  walk_at "ok"
  have hlen := (splitB_length b #[10]).2
  refine s_for (T := IsTupleT) C' hfs F'.hf (invMiss b A μ) ?_ (it_enum C' rfl (by walk_at "nm") (gn_enumerate hG) ?_) ?_ ?_
  · exact ⟨_, _, _, rfl⟩
  · walk_at "ok"
    refine ct_lines hs (by omega) hG C' ?_
    exact ⟨_, rfl, 0, linesB b, [], rfl, fun x hx => Nat.le_trans (linesB_size hx) hz, rfl, Sub.cons rfl Sub.nil, rfl⟩
  · rintro own d ds ρ' μ' ⟨i, r, acc, e, hr, ha, hsb, rfl⟩
    cases r with
    | nil => cases e
    | cons line r =>
      rw [List.map_cons, enumD] at e
      cases e
      have C'' := C'.hold own
      have hG' : G0 (cx'.hold own).g := hG
      have hsc' : (cx'.hold own).env.scope = _ := hsc
      have hlz := hr line (.head _)
      have hbz := bodyA_size line
      have hrz := remarkA_size line
      have hacc : acc.length ≤ 20000 := by
        have := missA_length (linesB b) 0
        rw [ha, List.length_append] at this
        have h2 : (linesB b).length ≤ b.size + 2 := hlen
        omega
      refine Ok1.sub ?_ hsb
      by_cases hq : findB line #[35] < 0
      · have hd := decide_eq_true hq
        obtain ⟨e1, e2⟩ := bodyA_neg hq
        have h0 : (#[] : Array UInt8).size ≤ 10000 := Nat.zero_le _
        walk_at "ok"
        · rename_i q
          exfalso
          rw [decide_eq_true_eq] at q
          omega
        · rename_i q
          rw [missA_out (by unfold isMiss cutA; rw [q, Bool.false_and])] at ha
          exact ⟨i + 1, r, acc, rfl, fun x h => hr x (.tail _ h), ha, Sub.cons rfl Sub.nil, rfl⟩
      · have hd := decide_eq_false hq
        obtain ⟨e1, e2⟩ := bodyA_pos hq
        have hb2 : (cutD line.toList none (some (findB line #[35]))).toArray.size ≤ 10000 := by rw [e1]; omega
        have hr2 : (cutD line.toList (some (findB line #[35] + 1)) none).toArray.size ≤ 10000 := by rw [e2]; omega
        walk_at "ok"
        refine ⟨_, rfl, ?_⟩
        walk_at "ok"
        · refine ⟨_, rfl, ?_⟩
          walk_at "ok"
          · rename_i q1 q2 q3
            have hm : isMiss line = true := by
              unfold isMiss cutA
              rw [e1] at q2
              rw [e2] at q3
              rw [q1, Bool.true_and, Bool.and_eq_true]
              exact ⟨q2, q3⟩
            have hh := headA_size line
            have eH : (cutD (stripL (cutD line.toList (some (findB line #[35] + 1)) none).toArray.toList #[32, 9, 13].toList).toArray.toList (some 9) none).toArray = headA line := by unfold headA; rw [e2]; rfl
            have hh2 : (cutD (stripL (cutD line.toList (some (findB line #[35] + 1)) none).toArray.toList #[32, 9, 13].toList).toArray.toList (some 9) none).toArray.size ≤ 10000 := by rw [eH]; omega
            have hs9 := stripA_size (cutD line.toList (some (findB line #[35] + 1)) none).toArray
            have hs9 : (stripL (cutD line.toList (some (findB line #[35] + 1)) none).toArray.toList #[32, 9, 13].toList).toArray.size ≤ 10000 := Nat.le_trans hs9 hr2
            rw [missA_in hm] at ha
            refine b_lenB (by decide) ?_
            refine ⟨9, rfl, ?_⟩
            by_cases hf : findB (cutD (stripL (cutD line.toList (some (findB line #[35] + 1)) none).toArray.toList #[32, 9, 13].toList).toArray.toList (some 9) none).toArray #[35] < 0
            · have hdf := decide_eq_true hf
              obtain ⟨e3, -⟩ := bodyA_neg hf
              walk_at "ok"
              refine e_compMap (T := fun _ => True) (splitB (cutD (stripL (cutD line.toList (some (findB line #[35] + 1)) none).toArray.toList #[32, 9, 13].toList).toArray.toList (some 9) none).toArray #[59]) D.bytes (fun f => D.bytes (stripL f.toList #[32, 9, 13].toList).toArray) C'' trivial (cl := []) rfl (by decide) rfl (by decide) (by walk_at "rl") (by have := (splitB_length (cutD (stripL (cutD line.toList (some (findB line #[35] + 1)) none).toArray.toList #[32, 9, 13].toList).toArray.toList (some 9) none).toArray #[59]).2; omega) ?_ (it_list ?_)
              · intro cx₂ hg₂ C₂ hn₂ hc₂ A₂ acc₂ f hf
                have hG₂ : G0 cx₂.g := hg₂ ▸ hG'
                have hfz := splitB_size hf
                walk_at "ok"
                exact ⟨by simp, rfl⟩
              · walk_at "ok"
                refine ⟨_, rfl, rfl, rfl, ?_⟩
                walk_at "ok"
                refine m_append (ds := acc.map mrowD) .head (by rw [List.length_map]; omega) ?_
                walk_at "ok"
                refine ⟨i + 1, r, acc ++ [((i : Int) + 1, fieldsA (bodyA (headA line)))], rfl, fun x h => hr x (.tail _ h), by rw [ha, List.append_assoc]; rfl, Sub.cons rfl Sub.nil, ?_⟩
                rw [List.map_append]
                unfold mrowD
                rw [List.map_cons, List.map_nil]
                dsimp only
                rw [fieldsA_D, ← eH, e3]
            · have hdf := decide_eq_false hf
              obtain ⟨e3, -⟩ := bodyA_pos hf
              have hz3 := bodyA_size (cutD (stripL (cutD line.toList (some (findB line #[35] + 1)) none).toArray.toList #[32, 9, 13].toList).toArray.toList (some 9) none).toArray
              have hb3 : (cutD (cutD (stripL (cutD line.toList (some (findB line #[35] + 1)) none).toArray.toList #[32, 9, 13].toList).toArray.toList (some 9) none).toArray.toList none (some (findB (cutD (stripL (cutD line.toList (some (findB line #[35] + 1)) none).toArray.toList #[32, 9, 13].toList).toArray.toList (some 9) none).toArray #[35]))).toArray.size ≤ 10000 := by rw [e3]; omega
              walk_at "ok"
              refine ⟨_, rfl, ?_⟩
              walk_at "ok"
              refine e_compMap (T := fun _ => True) (splitB (cutD (cutD (stripL (cutD line.toList (some (findB line #[35] + 1)) none).toArray.toList #[32, 9, 13].toList).toArray.toList (some 9) none).toArray.toList none (some (findB (cutD (stripL (cutD line.toList (some (findB line #[35] + 1)) none).toArray.toList #[32, 9, 13].toList).toArray.toList (some 9) none).toArray #[35]))).toArray #[59]) D.bytes (fun f => D.bytes (stripL f.toList #[32, 9, 13].toList).toArray) C'' trivial (cl := []) rfl (by decide) rfl (by decide) (by walk_at "rl") (by have := (splitB_length (cutD (cutD (stripL (cutD line.toList (some (findB line #[35] + 1)) none).toArray.toList #[32, 9, 13].toList).toArray.toList (some 9) none).toArray.toList none (some (findB (cutD (stripL (cutD line.toList (some (findB line #[35] + 1)) none).toArray.toList #[32, 9, 13].toList).toArray.toList (some 9) none).toArray #[35]))).toArray #[59]).2; omega) ?_ (it_list ?_)
              · intro cx₂ hg₂ C₂ hn₂ hc₂ A₂ acc₂ f hf
                have hG₂ : G0 cx₂.g := hg₂ ▸ hG'
                have hfz := splitB_size hf
                walk_at "ok"
                exact ⟨by simp, rfl⟩
              · walk_at "ok"
                refine ⟨_, rfl, rfl, rfl, ?_⟩
                walk_at "ok"
                refine m_append (ds := acc.map mrowD) .head (by rw [List.length_map]; omega) ?_
                walk_at "ok"
                refine ⟨i + 1, r, acc ++ [((i : Int) + 1, fieldsA (bodyA (headA line)))], rfl, fun x h => hr x (.tail _ h), by rw [ha, List.append_assoc]; rfl, Sub.cons rfl Sub.nil, ?_⟩
                rw [List.map_append]
                unfold mrowD
                rw [List.map_cons, List.map_nil]
                dsimp only
                rw [fieldsA_D, ← eH, ← e3]
          · rename_i q1 q2 q3
            have hm : isMiss line = false := by
              unfold isMiss
              rw [e2] at q3
              unfold stripA
              rw [show startsB _ _ = false from q3, Bool.and_false, Bool.and_false]
            rw [missA_out hm] at ha
            exact ⟨i + 1, r, acc, rfl, fun x h => hr x (.tail _ h), ha, Sub.cons rfl Sub.nil, rfl⟩
          · rename_i q1 q2
            have hm : isMiss line = false := by
              unfold isMiss
              rw [e1] at q2
              unfold stripA
              rw [show ((stripL _ _).toArray.toList == []) = false from q2, Bool.false_and, Bool.and_false]
            rw [missA_out hm] at ha
            exact ⟨i + 1, r, acc, rfl, fun x h => hr x (.tail _ h), ha, Sub.cons rfl Sub.nil, rfl⟩
        · rename_i q
          rw [missA_out (by unfold isMiss cutA; rw [q, Bool.false_and])] at ha
          exact ⟨i + 1, r, acc, rfl, fun x h => hr x (.tail _ h), ha, Sub.cons rfl Sub.nil, rfl⟩
  · rintro ρ' μ' ⟨i, r, acc, e, hr, ha, hsb, rfl⟩
    cases r with
    | cons => cases e
    | nil =>
      rw [missA, List.append_nil] at ha
      refine Ok.sub ?_ hsb
      refine Ok.freeze (x := "found") rfl .head ?_
      walk_at "ok"
      rw [← ha]; exact h
end

section
variable {n : Nat} {cx : Cx} {ρ : Rho} {μ : Mu} {P P' : Know} {s s' : Shared} {X : Ex → Rho → Mu → Prop} {Q : D → Rho → Mu → Prop} {QF : FlowD → Rho → Mu → Prop} {pos : Pos}
def apart : Option Tri → List Tri → Option Int
  | _, [] => none
  | none, t :: r => apart (some t) r
  | some a, t :: r => if t.1 ≤ a.2.1 then some (max t.2.2 a.2.2) else apart (some (if a.2.1 < t.2.1 then t else a)) r
def ahD : Option Tri → D
  | none => .none
  | some t => triD t
theorem apart_none {t : Tri} {r : List Tri} : apart none (t :: r) = apart (some t) r := rfl
theorem apart_hit {a t : Tri} {r : List Tri} (h : t.1 ≤ a.2.1) : apart (some a) (t :: r) = some (max t.2.2 a.2.2) := by rw [apart, if_pos h]
theorem apart_new {a t : Tri} {r : List Tri} (h : ¬ t.1 ≤ a.2.1) (h2 : a.2.1 < t.2.1) : apart (some a) (t :: r) = apart (some t) r := by rw [apart, if_neg h, if_pos h2]
theorem apart_old {a t : Tri} {r : List Tri} (h : ¬ t.1 ≤ a.2.1) (h2 : ¬ a.2.1 < t.2.1) : apart (some a) (t :: r) = apart (some a) r := by rw [apart, if_neg h, if_neg h2]
abbrev invApart (ts : List Tri) (μ : Mu) : List D → Rho → Mu → Prop := fun ds ρ' μ' => ∃ ah r, ds = List.map triD r ∧ apart none (sort3 ts) = apart ah r ∧ Sub [("ahead", ahD ah)] ρ' ∧ μ' = μ
theorem ct_apart {ts : List Tri} (hz : ts.length < 64) (hg : G0 cx.g) (C : CxOk (n + 1) cx) (h : apart none (sort3 ts) = none → Q .none ρ μ) (hx : ∀ k, apart none (sort3 ts) = some k → ∀ f, X ⟨57, .int k, f⟩ ρ μ) : OkC cx (.ref 131) [.list (ts.map triD)] ρ μ Q X := by
  refine enter ["lots"] C (by rw [show cx.g.K = _ from hg]; rfl) (by rw [show cx.g.K = _ from hg]; kernel_rfl) (fun s vs _ => bt1 (fun a => BindsTo.of_eq rfl) vs) ?_ ?_ rfl rfl rfl fun cx' hg' C' F' hsc hcl => ?_
  · decide
  · decide
  have hG : G0 cx'.g := hg' ▸ hg
  obtain ⟨outer, hfs⟩ := F'.hfs
  walk_at "ok"
  refine s_for (T := IsTupleT) C' hfs F'.hf (invApart ts μ) ?_ (it_list ?_) ?_ ?_
  · exact ⟨_, _, _, rfl⟩
  · walk_at "ok"
    refine b_sorted hz ?_
    exact ⟨_, rfl, none, _, rfl, rfl, Sub.cons rfl Sub.nil, rfl⟩
  · rintro own d ds ρ' μ' ⟨ah, r, e, ha, hsb, rfl⟩
    cases r with
    | nil => cases e
    | cons t r =>
      obtain ⟨x, y, z⟩ := t
      rw [List.map_cons] at e
      cases e
      have C'' := C'.hold own
      have hG' : G0 (cx'.hold own).g := hG
      have hsc' : (cx'.hold own).env.scope = _ := hsc
      refine Ok1.sub ?_ hsb
      dsimp only [triD]
      cases ah with
      | none =>
        dsimp only [ahD]
        rw [apart_none] at ha
        walk_at "ok"
        exact ⟨some (x, y, z), r, rfl, ha, Sub.cons rfl Sub.nil, rfl⟩
      | some a =>
        obtain ⟨x', y', z'⟩ := a
        dsimp only [ahD, triD]
        walk_at "ok"
        · rename_i q
          rw [decide_eq_true_eq] at q
          rw [apart_hit q] at ha
          exact hx _ ha true
        · rename_i q1 q2
          rw [decide_eq_false_iff_not] at q1
          rw [decide_eq_true_eq] at q2
          rw [apart_new q1 q2] at ha
          exact ⟨some (x, y, z), r, rfl, ha, Sub.cons rfl Sub.nil, rfl⟩
        · rename_i q1 q2
          rw [decide_eq_false_iff_not] at q1 q2
          rw [apart_old q1 q2] at ha
          exact ⟨some (x', y', z'), r, rfl, ha, Sub.cons rfl Sub.nil, rfl⟩
  · rintro ρ' μ' ⟨ah, r, e, ha, hsb, rfl⟩
    cases r with
    | cons => cases e
    | nil =>
      refine Ok.sub ?_ hsb
      walk_at "ok"
      exact h ha
end

section
variable {n : Nat} {cx : Cx} {ρ : Rho} {μ : Mu} {P P' : Know} {s s' : Shared} {X : Ex → Rho → Mu → Prop} {Q : D → Rho → Mu → Prop} {QF : FlowD → Rho → Mu → Prop} {pos : Pos}
theorem Apart.drop {P : Know} {μ' : Mu} {a A : Addr} {o : MO} (u : Rem A o μ μ') (h : Apart cx μ P a) : Apart cx μ' P a :=
  ⟨fun q => h.1 (by obtain ⟨e, he, q⟩ := List.mem_map.mp q; exact q ▸ List.mem_map_of_mem (u.sub e he)), h.2⟩
theorem ExIn.drop {P : Know} {s : Shared} {μ' : Mu} {A : Addr} {o : MO} {v : Value} {x : Ex} {st : Tr} (u : Rem A o μ μ') (h : ExIn cx μ P s v x st) : ExIn cx μ' P s v x st := by
  obtain ⟨e', dd, oe, vs, t, h1, h2, h3, h4, h5, h6, h7, h8, h9, h10, h11⟩ := h.ex
  refine ⟨e', dd, oe, vs, t, h1, h2, h3, h4, h5, h6, h7, h8, h9.drop u, h10.drop u, ?_⟩
  cases st with
  | raw => exact h11
  | out =>
    obtain ⟨T, oT, ts, a1, a2, a3, a4, r⟩ := h11
    exact ⟨T, oT, ts, a1, a2, a3, a4.drop u, r⟩
  | noted =>
    obtain ⟨T, oT, ts, Lf, a1, a2, a3, a4, r⟩ := h11
    exact ⟨T, oT, ts, Lf, a1, a2, a3, a4.drop u, r⟩
/-- who raises leaves its own list behind -/
abbrev kDropX (X : Ex → Rho → Mu → Prop) (x : Ex) (ρ : Rho) (μ : Mu) : Prop := ∃ A o μ'', Rem A o μ μ'' ∧ X x ρ μ''
theorem Ok.dropX {α β : Type} {rep : Know → α → β → Prop} {t : Sem α} {QQ : β → Rho → Mu → Prop} {X : Ex → Rho → Mu → Prop} (h : Ok cx rep t ρ μ QQ (kDropX X)) : Ok cx rep t ρ μ QQ X := fun P s S =>
  wpAny_mono (h P s S) (fun _ _ h => h) fun _ _ ⟨x, st, ρ', μ', P', a1, a2, a3, A, o, μ'', u, a4⟩ => ⟨x, st, ρ', μ'', P', a1, a2.drop u, a3.drop u, a4⟩

abbrev Quad := Int × Int × List (Array UInt8) × Int
def quadD (q : Quad) : D := .tuple [.int q.1, .int q.2.1, .list (q.2.2.1.map D.bytes), .int q.2.2.2]
def rangedGo (many : Int) : List Quad → List Row → Except Int (List Quad)
  | acc, [] => .ok acc
  | acc, row :: r => if (row.2.1.length : Int) != many then .error row.1 else
    match rangeOf (row.2.1.getD 0 #[]) with
    | none => .error row.1
    | some p => rangedGo many (acc ++ [(p.1, p.2, row.2.1, row.1)]) r
section
variable {many : Int} {acc : List Quad} {row : Row} {r : List Row}
theorem ranged_ne (h : ((row.2.1.length : Int) != many) = true) : rangedGo many acc (row :: r) = .error row.1 := by rw [rangedGo, if_pos h]
theorem ranged_bad (h : ((row.2.1.length : Int) != many) = false) (h2 : rangeOf (row.2.1.getD 0 #[]) = none) : rangedGo many acc (row :: r) = .error row.1 := by rw [rangedGo, if_neg (by rw [h]; exact Bool.false_ne_true), h2]
theorem ranged_in {x y : Int} (h : ((row.2.1.length : Int) != many) = false) (h2 : rangeOf (row.2.1.getD 0 #[]) = some (x, y)) : rangedGo many acc (row :: r) = rangedGo many (acc ++ [(x, y, row.2.1, row.1)]) r := by rw [rangedGo, if_neg (by rw [h]; exact Bool.false_ne_true), h2]
end
def FieldsOk (l : List (Array UInt8)) : Prop := 1 ≤ l.length ∧ l.length ≤ 20000 ∧ ∀ f ∈ l, f.size ≤ 10000
theorem fieldsA_ok {b : Array UInt8} (h : b.size ≤ 10000) : FieldsOk (fieldsA b) := by
  have := splitB_length b #[59]
  refine ⟨?_, ?_, fun f hf => ?_⟩
  · unfold fieldsA; rw [List.length_map]; omega
  · unfold fieldsA; rw [List.length_map]; omega
  · unfold fieldsA at hf
    obtain ⟨x, hx, rfl⟩ := List.mem_map.mp hf
    have := splitB_size hx
    have := stripA_size x
    omega
theorem rowsA_ok : ∀ (l : List (Array UInt8)) (i : Nat), (∀ x ∈ l, x.size ≤ 10000) → ∀ row ∈ rowsA i l, FieldsOk row.2.1
  | [], _, _, row, h => by rw [rowsA] at h; cases h
  | line :: r, i, hl, row, h => by
    rw [rowsA] at h
    split at h
    · cases h with
      | head => exact fieldsA_ok (Nat.le_trans (bodyA_size _) (hl _ (.head _)))
      | tail _ h => exact rowsA_ok r (i + 1) (fun x hx => hl x (.tail _ hx)) row h
    · exact rowsA_ok r (i + 1) (fun x hx => hl x (.tail _ hx)) row h
abbrev invRanged (many : Int) (b : Array UInt8) (A : Addr) (μ : Mu) : List D → Rho → Mu → Prop := fun ds ρ' μ' => ∃ r acc, ds = List.map rowD r ∧ (∀ x ∈ r, FieldsOk x.2.1) ∧ acc.length + r.length ≤ 20000 ∧ rangedGo many [] (rowsA 0 (linesB b)) = rangedGo many acc r ∧ Sub [("found", .addr A), ("many", .int many)] ρ' ∧ μ' = (A, .list (acc.map quadD)) :: μ
theorem ct_ranged {b : Array UInt8} {many : Int} (hs : startsB b #[239, 187, 191] = false) (hz : b.size ≤ 10000) (hg : G0 cx.g) (C : CxOk (n + 5) cx)
    (h : ∀ l, rangedGo many [] (rowsA 0 (linesB b)) = .ok l → Q (.list (l.map quadD)) ρ μ) (hx : ∀ k, rangedGo many [] (rowsA 0 (linesB b)) = .error k → ∀ f, X ⟨57, .int k, f⟩ ρ μ) : OkC cx (.ref 138) [.bytes b, .int many] ρ μ Q X := by
  refine enter ["octets", "many"] C (by rw [show cx.g.K = _ from hg]; rfl) (by rw [show cx.g.K = _ from hg]; kernel_rfl) (fun s vs _ => bt2 (fun a b => BindsTo.of_eq rfl) vs) ?_ ?_ rfl rfl rfl fun cx' hg' C' F' hsc hcl => ?_
  · decide
  · decide
  have hG : G0 cx'.g := hg' ▸ hg
  obtain ⟨outer, hfs⟩ := F'.hfs
  refine Ok.dropX ?_
  refine x_cons (s_assign (e_listM ?_))
  walk_at "ok"
  intro A
  walk_at "ok"
  have hrows := rowsA_ok (linesB b) 0 fun x hx => Nat.le_trans (linesB_size hx) hz
  have hlen : (rowsA 0 (linesB b)).length ≤ b.size + 2 := Nat.le_trans (rowsA_length _ _) (splitB_length b #[10]).2
  refine s_for (T := IsTupleT) C' hfs F'.hf (invRanged many b A μ) ?_ (it_list ?_) ?_ ?_
  · exact ⟨_, _, _, rfl⟩
  · walk_at "ok"
    refine ct_rows hs hz hG C' ?_
    exact ⟨_, rfl, rowsA 0 (linesB b), [], rfl, hrows, by rw [List.length_nil]; omega, rfl, Sub.cons rfl (Sub.cons rfl Sub.nil), rfl⟩
  · rintro own d ds ρ' μ' ⟨r, acc, e, hr, hlr, ha, hsb, rfl⟩
    cases r with
    | nil => cases e
    | cons row r =>
      obtain ⟨number, fields, remark⟩ := row
      rw [List.map_cons] at e
      cases e
      have C'' := C'.hold own
      have hG' : G0 (cx'.hold own).g := hG
      have hsc' : (cx'.hold own).env.scope = _ := hsc
      obtain ⟨f1, f2, f3⟩ := hr _ (.head _)
      dsimp only at f1 f2 f3
      have g0 := getD_bytes fields (i := 0) (by omega)
      have m0 := getD_mem (l := fields) (i := 0) (by omega)
      have z0 := f3 _ m0
      rw [List.length_cons] at hlr
      refine Ok1.sub ?_ hsb
      dsimp only [rowD]
      walk_at "ok"
      · rename_i q
        rw [List.length_map] at q
        rw [ranged_ne (row := (number, fields, remark)) q] at ha
        exact ⟨_, _, _, .head, hx _ ha true⟩
      · rename_i q
        rw [List.length_map] at q
        refine ct_range (by omega) hG' C'' (fun x y hxy => ?_) fun hn f => ?_
        · rw [ranged_in (row := (number, fields, remark)) q hxy] at ha
          walk_at "ok"
          refine m_append (ds := acc.map quadD) .head (by rw [List.length_map]; omega) ?_
          walk_at "ok"
          exact ⟨r, acc ++ [(x, y, fields, number)], rfl, fun x h => hr x (.tail _ h), by rw [List.length_append, List.length_singleton]; omega, ha, Sub.cons rfl (Sub.cons rfl Sub.nil), by rw [List.map_append]; rfl⟩
        · rw [ranged_bad (row := (number, fields, remark)) q hn] at ha
          exact ⟨_, _, _, .head, hx _ ha f⟩
  · rintro ρ' μ' ⟨r, acc, e, hr, hlr, ha, hsb, rfl⟩
    cases r with
    | cons => cases e
    | nil =>
      refine Ok.sub ?_ hsb
      refine Ok.freeze (x := "found") rfl .head ?_
      walk_at "ok"
      exact h _ ha
end

section
variable {n : Nat} {cx : Cx} {ρ : Rho} {μ : Mu} {P P' : Know} {s s' : Shared} {X : Ex → Rho → Mu → Prop} {Q : D → Rho → Mu → Prop} {QF : FlowD → Rho → Mu → Prop} {pos : Pos}
abbrev kDropXO (X : Ex → Rho → Mu → Prop) (x : Ex) (ρ : Rho) (μ : Mu) : Prop := X x ρ μ ∨ ∃ A o μ'', Rem A o μ μ'' ∧ X x ρ μ''
theorem Ok.dropXO {α β : Type} {rep : Know → α → β → Prop} {t : Sem α} {QQ : β → Rho → Mu → Prop} {X : Ex → Rho → Mu → Prop} (h : Ok cx rep t ρ μ QQ (kDropXO X)) : Ok cx rep t ρ μ QQ X := fun P s S =>
  wpAny_mono (h P s S) (fun _ _ h => h) fun _ _ ⟨x, st, ρ', μ', P', a1, a2, a3, o⟩ => by
    rcases o with a4 | ⟨A, o, μ'', u, a4⟩
    · exact ⟨x, st, ρ', μ', P', a1, a2, a3, a4⟩
    · exact ⟨x, st, ρ', μ'', P', a1, a2.drop u, a3.drop u, a4⟩
abbrev WQ := Int × Int × Array UInt8 × Int
def wqD (q : WQ) : D := .tuple [.int q.1, .int q.2.1, .bytes q.2.2.1, .int q.2.2.2]
def wqT (q : WQ) : Tri := (q.1, q.2.1, q.2.2.2)
def wordedGo (word : Array UInt8) : List WQ → List Row → Except Int (List WQ)
  | acc, [] => .ok acc
  | acc, row :: r => if decide ((row.2.1.length : Int) < 2) then .error row.1 else
    match rangeOf (row.2.1.getD 0 #[]) with
    | none => .error row.1
    | some p => if (row.2.1.getD 1 #[]).toList == word.toList then
        (if ((row.2.1.length : Int) != 3) then .error row.1 else wordedGo word (acc ++ [(p.1, p.2, row.2.1.getD 2 #[], row.1)]) r)
      else wordedGo word acc r
section
variable {word : Array UInt8} {acc : List WQ} {row : Row} {r : List Row}
theorem worded_lt (h : decide ((row.2.1.length : Int) < 2) = true) : wordedGo word acc (row :: r) = .error row.1 := by rw [wordedGo, if_pos h]
theorem worded_bad (h : decide ((row.2.1.length : Int) < 2) = false) (h2 : rangeOf (row.2.1.getD 0 #[]) = none) : wordedGo word acc (row :: r) = .error row.1 := by rw [wordedGo, if_neg (by rw [h]; exact Bool.false_ne_true), h2]
theorem worded_ne {p : Int × Int} (h : decide ((row.2.1.length : Int) < 2) = false) (h2 : rangeOf (row.2.1.getD 0 #[]) = some p) (h3 : ((row.2.1.getD 1 #[]).toList == word.toList) = false) : wordedGo word acc (row :: r) = wordedGo word acc r := by
  rw [wordedGo, if_neg (by rw [h]; exact Bool.false_ne_true), h2]
  dsimp only
  rw [if_neg (by rw [h3]; exact Bool.false_ne_true)]
theorem worded_odd {p : Int × Int} (h : decide ((row.2.1.length : Int) < 2) = false) (h2 : rangeOf (row.2.1.getD 0 #[]) = some p) (h3 : ((row.2.1.getD 1 #[]).toList == word.toList) = true) (h4 : ((row.2.1.length : Int) != 3) = true) : wordedGo word acc (row :: r) = .error row.1 := by
  rw [wordedGo, if_neg (by rw [h]; exact Bool.false_ne_true), h2]
  dsimp only
  rw [if_pos h3, if_pos h4]
theorem worded_in {x y : Int} (h : decide ((row.2.1.length : Int) < 2) = false) (h2 : rangeOf (row.2.1.getD 0 #[]) = some (x, y)) (h3 : ((row.2.1.getD 1 #[]).toList == word.toList) = true) (h4 : ((row.2.1.length : Int) != 3) = false) : wordedGo word acc (row :: r) = wordedGo word (acc ++ [(x, y, row.2.1.getD 2 #[], row.1)]) r := by
  rw [wordedGo, if_neg (by rw [h]; exact Bool.false_ne_true), h2]
  dsimp only
  rw [if_pos h3, if_neg (by rw [h4]; exact Bool.false_ne_true)]
end
abbrev invWorded (word b : Array UInt8) (A : Addr) (μ : Mu) : List D → Rho → Mu → Prop := fun ds ρ' μ' => ∃ r acc, ds = List.map rowD r ∧ (∀ x ∈ r, FieldsOk x.2.1) ∧ acc.length + r.length < 64 ∧ wordedGo word [] (rowsA 0 (linesB b)) = wordedGo word acc r ∧ Sub [("found", .addr A), ("word", .bytes word)] ρ' ∧ μ' = (A, .list (acc.map wqD)) :: μ
theorem ct_worded {b word : Array UInt8} (hs : startsB b #[239, 187, 191] = false) (hz : b.size ≤ 10000) (hwz : word.size ≤ 10000) (hll : (linesB b).length < 64) (hg : G0 cx.g) (C : CxOk (n + 5) cx)
    (h : ∀ l, wordedGo word [] (rowsA 0 (linesB b)) = .ok l → apart none (sort3 (l.map wqT)) = none → Q (.list (l.map wqD)) ρ μ) (hx : ∀ k, wordedGo word [] (rowsA 0 (linesB b)) = .error k → ∀ f, X ⟨57, .int k, f⟩ ρ μ)
    (hy : ∀ l k, wordedGo word [] (rowsA 0 (linesB b)) = .ok l → apart none (sort3 (l.map wqT)) = some k → ∀ f, X ⟨57, .int k, f⟩ ρ μ) : OkC cx (.ref 150) [.bytes b, .bytes word] ρ μ Q X := by
  refine enter ["octets", "word"] C (by rw [show cx.g.K = _ from hg]; rfl) (by rw [show cx.g.K = _ from hg]; kernel_rfl) (fun s vs _ => bt2 (fun a b => BindsTo.of_eq rfl) vs) ?_ ?_ rfl rfl rfl fun cx' hg' C' F' hsc hcl => ?_
  · decide
  · decide
  have hG : G0 cx'.g := hg' ▸ hg
  obtain ⟨outer, hfs⟩ := F'.hfs
  refine Ok.dropXO ?_
  refine x_cons (s_assign (e_listM ?_))
  walk_at "ok"
  intro A
  walk_at "ok"
  have hrows := rowsA_ok (linesB b) 0 fun x hx => Nat.le_trans (linesB_size hx) hz
  have hlen : (rowsA 0 (linesB b)).length ≤ (linesB b).length := rowsA_length _ _
  refine s_for (T := IsTupleT) C' hfs F'.hf (invWorded word b A μ) ?_ (it_list ?_) ?_ ?_
  · exact ⟨_, _, _, rfl⟩
  · walk_at "ok"
    refine ct_rows hs hz hG C' ?_
    exact ⟨_, rfl, rowsA 0 (linesB b), [], rfl, hrows, by rw [List.length_nil]; omega, rfl, Sub.cons rfl (Sub.cons rfl Sub.nil), rfl⟩
  · rintro own d ds ρ' μ' ⟨r, acc, e, hr, hlr, ha, hsb, rfl⟩
    cases r with
    | nil => cases e
    | cons row r =>
      obtain ⟨number, fields, remark⟩ := row
      rw [List.map_cons] at e
      cases e
      have C'' := C'.hold own
      have hG' : G0 (cx'.hold own).g := hG
      have hsc' : (cx'.hold own).env.scope = _ := hsc
      obtain ⟨f1, f2, f3⟩ := hr _ (.head _)
      dsimp only at f1 f2 f3
      have g0 := getD_bytes fields (i := 0) (by omega)
      have m0 := getD_mem (l := fields) (i := 0) (by omega)
      have z0 := f3 _ m0
      rw [List.length_cons] at hlr
      refine Ok1.sub ?_ hsb
      dsimp only [rowD]
      walk_at "ok"
      · rename_i q
        rw [List.length_map] at q
        rw [worded_lt (row := (number, fields, remark)) q] at ha
        exact .inr ⟨_, _, _, .head, hx _ ha true⟩
      · rename_i q
        rw [List.length_map] at q
        have hq : ¬ (fields.length : Int) < 2 := of_decide_eq_false q
        have g1 := getD_bytes fields (i := 1) (by omega)
        have m1 := getD_mem (l := fields) (i := 1) (by omega)
        have z1 := f3 _ m1
        refine ct_range (by omega) hG' C'' (fun x y hxy => ?_) fun hn f => ?_
        · walk_at "ok"
          · rename_i q1 q2
            rw [List.length_map] at q2
            rw [worded_odd (row := (number, fields, remark)) q hxy q1 q2] at ha
            exact .inr ⟨_, _, _, .head, hx _ ha true⟩
          · rename_i q1 q2
            rw [List.length_map] at q2
            rw [worded_in (row := (number, fields, remark)) q hxy q1 q2] at ha
            have hq2 : (fields.length : Int) = 3 := by simpa using q2
            have g2 := getD_bytes fields (i := 2) (by omega)
            walk_at "ok"
            refine m_append (ds := acc.map wqD) .head (by rw [List.length_map]; omega) ?_
            walk_at "ok"
            exact ⟨r, acc ++ [(x, y, fields.getD 2 #[], number)], rfl, fun x h => hr x (.tail _ h), by rw [List.length_append, List.length_singleton]; omega, ha, Sub.cons rfl (Sub.cons rfl Sub.nil), by rw [List.map_append]; rfl⟩
          · rename_i q1
            rw [worded_ne (row := (number, fields, remark)) q hxy q1] at ha
            exact ⟨r, acc, rfl, fun x h => hr x (.tail _ h), by omega, ha, Sub.cons rfl (Sub.cons rfl Sub.nil), rfl⟩
        · rw [worded_bad (row := (number, fields, remark)) q hn] at ha
          exact .inr ⟨_, _, _, .head, hx _ ha f⟩
  · rintro ρ' μ' ⟨r, acc, e, hr, hlr, ha, hsb, rfl⟩
    cases r with
    | cons => cases e
    | nil =>
      refine Ok.sub ?_ hsb
      refine Ok.freeze (x := "found") rfl .head ?_
      walk_at "ok"
      rw [wordedGo] at ha
      rw [List.length_nil] at hlr
      refine e_compMap (T := IsTupleT) acc wqD (fun q => triD (wqT q)) C' ⟨_, _, _, rfl⟩ (cl := []) rfl (by decide) rfl (by decide) (by walk_at "rl") (by omega) ?_ (it_list ?_)
      · intro cx₂ hg₂ C₂ hn₂ hc₂ A₂ acc₂ f hf
        have hG₂ : G0 cx₂.g := hg₂ ▸ hG
        obtain ⟨x, y, z, w⟩ := f
        dsimp only [wqD]
        walk_at "ok"
        exact ⟨rfl, rfl⟩
      · walk_at "ok"
        refine ⟨_, rfl, rfl, rfl, ?_⟩
        walk_at "ok"
        rw [show acc.map (fun q => triD (wqT q)) = (acc.map wqT).map triD by rw [List.map_map]; rfl]
        refine ct_apart (by rw [List.length_map]; omega) hG C' (fun hn => ?_) fun k hk f => .inl (hy _ k ha hk f)
        walk_at "ok"
        exact h _ ha hn
end

section
variable {n : Nat} {cx : Cx} {ρ : Rho} {μ : Mu} {P P' : Know} {s s' : Shared} {X : Ex → Rho → Mu → Prop} {Q : D → Rho → Mu → Prop} {QF : FlowD → Rho → Mu → Prop} {pos : Pos}
/-- every sign of it is plain -/
def AscB (b : Array UInt8) : Prop := ∀ c ∈ b.toList, c.toNat ≤ 127
theorem AscB.sub {a b : Array UInt8} (h : AscB b) (hs : ∀ c ∈ a.toList, c ∈ b.toList) : AscB a := fun c hc => h c (hs c hc)
theorem AscB.list {l : List UInt8} {b : Array UInt8} (h : AscB b) (hs : l.Sublist b.toList) : AscB l.toArray := fun c hc => h c (hs.subset (by simpa using hc))
theorem extract_sub (b : Array UInt8) (i j : Nat) : ∀ c ∈ (b.extract i j).toList, c ∈ b.toList := by
  intro c hc
  rw [Array.toList_extract, List.extract_eq_take_drop] at hc
  exact List.mem_of_mem_drop (List.mem_of_mem_take hc)
theorem betw_asc {b : Array UInt8} (hb : AscB b) (k : Nat) : ∀ (l : List Nat) (last : Nat), ∀ p ∈ betw b k last l, AscB p
  | [], last, p, h => by
    rw [betw, List.mem_singleton] at h
    subst h; exact hb.sub (extract_sub _ _ _)
  | q :: ps, last, p, h => by
    rw [betw] at h
    rcases List.mem_cons.mp h with h | h
    · subst h; exact hb.sub (extract_sub _ _ _)
    · exact betw_asc hb k ps _ p h
theorem splitB_asc {b c x : Array UInt8} (hb : AscB b) (h : x ∈ splitB b c) : AscB x := by
  unfold splitB at h
  rw [between_eq] at h
  exact betw_asc hb _ _ _ _ h
theorem cutD_sub {α : Type} (l : List α) (lo hi : Option Int) : (cutD l lo hi).Sublist l := by
  unfold cutD
  exact (List.take_sublist _ _).trans (List.drop_sublist _ _)
theorem stripA_asc {b : Array UInt8} (hb : AscB b) : AscB (stripA b) := hb.list (strip_sub _ _)
theorem bodyA_asc {b : Array UInt8} (hb : AscB b) : AscB (bodyA b) := by
  unfold bodyA
  split
  · exact hb
  · exact hb.list (cutD_sub _ _ _)
theorem remarkA_asc {b : Array UInt8} (hb : AscB b) : AscB (remarkA b) := by
  unfold remarkA
  split
  · intro c hc; cases hc
  · exact hb.list (cutD_sub _ _ _)
theorem headA_asc {b : Array UInt8} (hb : AscB b) : AscB (headA b) := (stripA_asc (remarkA_asc hb)).list (cutD_sub _ _ _)
theorem fieldsA_asc {b f : Array UInt8} (hb : AscB b) (h : f ∈ fieldsA b) : AscB f := by
  unfold fieldsA at h
  obtain ⟨x, hx, rfl⟩ := List.mem_map.mp h
  exact stripA_asc (splitB_asc hb hx)
theorem missA_mem (row : MRow) (l : List (Array UInt8)) : ∀ (i : Nat), row ∈ missA i l → ∃ line ∈ l, row.2 = fieldsA (bodyA (headA line)) := by
  induction l with
  | nil => intro i h; exact absurd h (List.not_mem_nil)
  | cons line r ih =>
    intro i h
    cases hm : isMiss line with
    | true =>
      rw [missA_in hm] at h
      rcases List.mem_cons.mp h with e | h
      · exact ⟨line, List.mem_cons_self, by rw [e]⟩
      · obtain ⟨x, hx, e⟩ := ih _ h
        exact ⟨x, List.mem_cons_of_mem _ hx, e⟩
    | false =>
      rw [missA_out hm] at h
      obtain ⟨x, hx, e⟩ := ih _ h
      exact ⟨x, List.mem_cons_of_mem _ hx, e⟩
theorem missA_ok {l : List (Array UInt8)} {i : Nat} (hl : ∀ x ∈ l, x.size ≤ 10000) (hb : ∀ x ∈ l, AscB x) (row : MRow) (h : row ∈ missA i l) : FieldsOk row.2 ∧ ∀ f ∈ row.2, AscB f := by
  obtain ⟨line, hm, e⟩ := missA_mem row l i h
  have h1 := bodyA_size (headA line)
  have h2 := headA_size line
  have h3 := hl line hm
  have h4 := bodyA_asc (headA_asc (hb line hm))
  rw [e]
  exact ⟨fieldsA_ok (by omega), fun f hf => fieldsA_asc h4 hf⟩
/-- the values asked for: none, or a dict of the law's -/
def ValOk (μ : Mu) (vd : D) (val : Str → Option D) : Prop := (vd = .none ∧ val = fun w => some (.str w)) ∨ ∃ va es, vd = .addr va ∧ (va, MO.dict es) ∈ μ ∧ va ≠ sysModules ∧ val = fun w => es.lookup w
theorem ValOk.cons {vd : D} {val : Str → Option D} {e : Addr × MO} (h : ValOk μ vd val) : ValOk (e :: μ) vd val := by
  rcases h with h | ⟨va, es, h1, h2, h3⟩
  · exact .inl h
  · exact .inr ⟨va, es, h1, .tail _ h2, h3⟩
theorem ct_value {b : Array UInt8} {k : Int} {vd : D} {val : Str → Option D} (hv : ValOk μ vd val) (hb : AscB b) (hz : b.size ≤ 100000) (hg : G0 cx.g) (C : CxOk (n + 3) cx) (h : ∀ d, val (asciiS b) = some d → Q d ρ μ) (hx : val (asciiS b) = none → ∀ f, X ⟨57, .int k, f⟩ ρ μ) : OkC cx (.ref 124) [.bytes b, vd, .int k] ρ μ Q X := by
  rcases hv with ⟨rfl, rfl⟩ | ⟨va, es, rfl, h2, h3, rfl⟩
  · exact ct_valueN hb hz hg C (h _ rfl)
  · exact ct_valueD h2 h3 hb hz hg C h fun hn => hx hn true
def isPut (w : D) (fields : List (Array UInt8)) : Bool := (((fields.length : Int) == 2) && (match w with | .none => true | _ => false)) || (((fields.length : Int) == 3) && inPair w (fields.getD 1 #[]))
abbrev MQ := Int × Int × D
def mqD (q : MQ) : D := .tuple [.int q.1, .int q.2.1, q.2.2]
def missGo (w : D) (val : Str → Option D) : List MQ → List MRow → Except Int (List MQ)
  | acc, [] => .ok acc
  | acc, row :: r => if isPut w row.2 then (match rangeOf (row.2.getD 0 #[]) with
      | none => .error row.1
      | some p => match val (asciiS (row.2.getD (row.2.length - 1) #[])) with
        | none => .error row.1
        | some d => missGo w val (acc ++ [(p.1, p.2, d)]) r) else missGo w val acc r
section
variable {w : D} {val : Str → Option D} {acc : List MQ} {row : MRow} {r : List MRow}
theorem miss_out (h : isPut w row.2 = false) : missGo w val acc (row :: r) = missGo w val acc r := by rw [missGo, if_neg (by rw [h]; exact Bool.false_ne_true)]
theorem miss_bad (h : isPut w row.2 = true) (h2 : rangeOf (row.2.getD 0 #[]) = none) : missGo w val acc (row :: r) = .error row.1 := by rw [missGo, if_pos h, h2]
theorem miss_val {p : Int × Int} (h : isPut w row.2 = true) (h2 : rangeOf (row.2.getD 0 #[]) = some p) (h3 : val (asciiS (row.2.getD (row.2.length - 1) #[])) = none) : missGo w val acc (row :: r) = .error row.1 := by
  rw [missGo, if_pos h, h2]
  dsimp only
  rw [h3]
theorem miss_in {x y : Int} {d : D} (h : isPut w row.2 = true) (h2 : rangeOf (row.2.getD 0 #[]) = some (x, y)) (h3 : val (asciiS (row.2.getD (row.2.length - 1) #[])) = some d) : missGo w val acc (row :: r) = missGo w val (acc ++ [(x, y, d)]) r := by
  rw [missGo, if_pos h, h2]
  dsimp only
  rw [h3]
end
abbrev invMissing (w : D) (vd : D) (val : Str → Option D) (b : Array UInt8) (A : Addr) (μ : Mu) : List D → Rho → Mu → Prop := fun ds ρ' μ' => ∃ r acc, ds = List.map mrowD r ∧ (∀ x ∈ r, FieldsOk x.2 ∧ ∀ f ∈ x.2, AscB f) ∧ acc.length + r.length ≤ 20000 ∧ missGo w val [] (missA 0 (linesB b)) = missGo w val acc r ∧ Sub [("found", .addr A), ("word", w), ("values", vd)] ρ' ∧ μ' = (A, .list (acc.map mqD)) :: μ
theorem ct_puts {b : Array UInt8} {w vd : D} {val : Str → Option D} (hw : w = .none ∨ ∃ b, w = .bytes b ∧ b.size ≤ 10000) (hv : ValOk μ vd val) (hb : AscB b) (hs : startsB b #[239, 187, 191] = false) (hz : b.size ≤ 10000) (hg : G0 cx.g) (C : CxOk (n + 5) cx)
    (h : ∀ l, missGo w val [] (missA 0 (linesB b)) = .ok l → Q (.list (l.map mqD)) ρ μ) (hx : ∀ k, missGo w val [] (missA 0 (linesB b)) = .error k → ∀ f, X ⟨57, .int k, f⟩ ρ μ) : OkC cx (.ref 145) [.bytes b, w, vd] ρ μ Q X := by
  refine enter ["octets", "word", "values"] C (by rw [show cx.g.K = _ from hg]; rfl) (by rw [show cx.g.K = _ from hg]; kernel_rfl) (fun s vs _ => bt3 (fun a b c => BindsTo.of_eq rfl) vs) ?_ ?_ rfl rfl rfl fun cx' hg' C' F' hsc hcl => ?_
  · decide
  · decide
  have hG : G0 cx'.g := hg' ▸ hg
  obtain ⟨outer, hfs⟩ := F'.hfs
  refine Ok.dropXO ?_
  refine x_cons (s_assign (e_listM ?_))
  walk_at "ok"
  intro A
  walk_at "ok"
  have hrows := missA_ok (l := linesB b) (i := 0) (fun x hx => Nat.le_trans (linesB_size hx) hz) fun x hx => splitB_asc hb hx
  have hlen : (missA 0 (linesB b)).length ≤ b.size + 2 := Nat.le_trans (missA_length _ _) (splitB_length b #[10]).2
  refine s_for (T := IsTupleT) C' hfs F'.hf (invMissing w vd val b A μ) ?_ (it_list ?_) ?_ ?_
  · exact ⟨_, _, _, rfl⟩
  · walk_at "ok"
    refine ct_missing hs hz hG C' ?_
    exact ⟨_, rfl, missA 0 (linesB b), [], rfl, hrows, by rw [List.length_nil]; omega, rfl, Sub.cons rfl (Sub.cons rfl (Sub.cons rfl Sub.nil)), rfl⟩
  · rintro own d ds ρ' μ' ⟨r, acc, e, hr, hlr, ha, hsb, rfl⟩
    cases r with
    | nil => cases e
    | cons row r =>
      obtain ⟨number, fields⟩ := row
      rw [List.map_cons] at e
      cases e
      have C'' := C'.hold own
      have hG' : G0 (cx'.hold own).g := hG
      have hsc' : (cx'.hold own).env.scope = _ := hsc
      obtain ⟨⟨f1, f2, f3⟩, f4⟩ := hr _ (.head _)
      dsimp only at f1 f2 f3 f4
      have g0 := getD_bytes fields (i := 0) (by omega)
      have m0 := getD_mem (l := fields) (i := 0) (by omega)
      have z0 := f3 _ m0
      have g1 := getD_bytes fields (i := fields.length - 1) (by omega)
      have m1 := getD_mem (l := fields) (i := fields.length - 1) (by omega)
      have z1 := f3 _ m1
      rw [List.length_cons] at hlr
      refine Ok1.sub ?_ hsb
      dsimp only [mrowD]
      rcases hw with rfl | ⟨wb, rfl, hwz⟩
      · walk_at "ok"
        · rename_i q1
          rw [List.length_map] at q1
          have hput : isPut .none fields = true := by unfold isPut; rw [q1]; rfl
          refine ct_range (by omega) hG' C'' (fun x y hxy => ?_) fun hn f => ?_
          · walk_at "ok"
            refine sub_last (ds := fields.map D.bytes) (d := .bytes (fields.getD (fields.length - 1) #[])) (by rw [List.length_map]; omega) (by rw [List.length_map]; exact g1) ?_
            walk_at "ok"
            refine ct_value (n := n + 1) hv.cons (f4 _ m1) (by omega) hG' C'' (fun d hd => ?_) fun hd f => ?_
            · rw [miss_in (row := (number, fields)) hput hxy hd] at ha
              walk_at "ok"
              refine m_append (ds := acc.map mqD) .head (by rw [List.length_map]; omega) ?_
              walk_at "ok"
              exact ⟨r, acc ++ [(x, y, d)], rfl, fun x h => hr x (.tail _ h), by rw [List.length_append, List.length_singleton]; omega, ha, Sub.cons rfl (Sub.cons rfl (Sub.cons rfl Sub.nil)), by rw [List.map_append]; rfl⟩
            · rw [miss_val (row := (number, fields)) hput hxy hd] at ha
              exact .inr ⟨_, _, _, .head, hx _ ha f⟩
          · rw [miss_bad (row := (number, fields)) hput hn] at ha
            exact .inr ⟨_, _, _, .head, hx _ ha f⟩
        · rename_i q1 q2
          rw [List.length_map] at q1 q2
          have hput : isPut .none fields = true := by unfold isPut; rw [q1, q2]; rfl
          have hq2 : (fields.length : Int) = 3 := by simpa using q2
          have gg1 := getD_bytes fields (i := 1) (by omega)
          walk_at "ok"
          refine c_inPair (.inl rfl) ?_
          dsimp only [inPair]
          walk_at "ok"
          refine ct_range (by omega) hG' C'' (fun x y hxy => ?_) fun hn f => ?_
          · walk_at "ok"
            refine sub_last (ds := fields.map D.bytes) (d := .bytes (fields.getD (fields.length - 1) #[])) (by rw [List.length_map]; omega) (by rw [List.length_map]; exact g1) ?_
            walk_at "ok"
            refine ct_value (n := n + 1) hv.cons (f4 _ m1) (by omega) hG' C'' (fun d hd => ?_) fun hd f => ?_
            · rw [miss_in (row := (number, fields)) hput hxy hd] at ha
              walk_at "ok"
              refine m_append (ds := acc.map mqD) .head (by rw [List.length_map]; omega) ?_
              walk_at "ok"
              exact ⟨r, acc ++ [(x, y, d)], rfl, fun x h => hr x (.tail _ h), by rw [List.length_append, List.length_singleton]; omega, ha, Sub.cons rfl (Sub.cons rfl (Sub.cons rfl Sub.nil)), by rw [List.map_append]; rfl⟩
            · rw [miss_val (row := (number, fields)) hput hxy hd] at ha
              exact .inr ⟨_, _, _, .head, hx _ ha f⟩
          · rw [miss_bad (row := (number, fields)) hput hn] at ha
            exact .inr ⟨_, _, _, .head, hx _ ha f⟩
        · rename_i q1 q2
          rw [List.length_map] at q1 q2
          have hput : isPut .none fields = false := by unfold isPut; rw [q1, q2]; rfl
          rw [miss_out (row := (number, fields)) hput] at ha
          exact ⟨r, acc, rfl, fun x h => hr x (.tail _ h), by omega, ha, Sub.cons rfl (Sub.cons rfl (Sub.cons rfl Sub.nil)), rfl⟩
      · walk_at "ok"
        · rename_i q1 q2
          exfalso
          rw [List.length_map] at q1 q2
          simp at q1 q2
          omega
        · rename_i q1 q2
          rw [List.length_map] at q1 q2
          have hput : isPut (.bytes wb) fields = false := by unfold isPut; rw [q1, q2]; rfl
          rw [miss_out (row := (number, fields)) hput] at ha
          exact ⟨r, acc, rfl, fun x h => hr x (.tail _ h), by omega, ha, Sub.cons rfl (Sub.cons rfl (Sub.cons rfl Sub.nil)), rfl⟩
        · rename_i q1 q2
          rw [List.length_map] at q1 q2
          have hq2 : (fields.length : Int) = 3 := by simpa using q2
          have gg1 := getD_bytes fields (i := 1) (by omega)
          walk_at "ok"
          refine c_inPair (.inr ⟨_, rfl⟩) ?_
          walk_at "ok"
          · rename_i q3
            have hput : isPut (.bytes wb) fields = true := by unfold isPut; rw [q1, q2, q3]; rfl
            refine ct_range (by omega) hG' C'' (fun x y hxy => ?_) fun hn f => ?_
            · walk_at "ok"
              refine sub_last (ds := fields.map D.bytes) (d := .bytes (fields.getD (fields.length - 1) #[])) (by rw [List.length_map]; omega) (by rw [List.length_map]; exact g1) ?_
              walk_at "ok"
              refine ct_value (n := n + 1) hv.cons (f4 _ m1) (by omega) hG' C'' (fun d hd => ?_) fun hd f => ?_
              · rw [miss_in (row := (number, fields)) hput hxy hd] at ha
                walk_at "ok"
                refine m_append (ds := acc.map mqD) .head (by rw [List.length_map]; omega) ?_
                walk_at "ok"
                exact ⟨r, acc ++ [(x, y, d)], rfl, fun x h => hr x (.tail _ h), by rw [List.length_append, List.length_singleton]; omega, ha, Sub.cons rfl (Sub.cons rfl (Sub.cons rfl Sub.nil)), by rw [List.map_append]; rfl⟩
              · rw [miss_val (row := (number, fields)) hput hxy hd] at ha
                exact .inr ⟨_, _, _, .head, hx _ ha f⟩
            · rw [miss_bad (row := (number, fields)) hput hn] at ha
              exact .inr ⟨_, _, _, .head, hx _ ha f⟩
          · rename_i q3
            have hput : isPut (.bytes wb) fields = false := by unfold isPut; rw [q1, q2, q3]; rfl
            rw [miss_out (row := (number, fields)) hput] at ha
            exact ⟨r, acc, rfl, fun x h => hr x (.tail _ h), by omega, ha, Sub.cons rfl (Sub.cons rfl (Sub.cons rfl Sub.nil)), rfl⟩
        · rename_i q1 q2
          rw [List.length_map] at q1 q2
          have hput : isPut (.bytes wb) fields = false := by unfold isPut; rw [q1, q2]; rfl
          rw [miss_out (row := (number, fields)) hput] at ha
          exact ⟨r, acc, rfl, fun x h => hr x (.tail _ h), by omega, ha, Sub.cons rfl (Sub.cons rfl (Sub.cons rfl Sub.nil)), rfl⟩
  · rintro ρ' μ' ⟨r, acc, e, hr, hlr, ha, hsb, rfl⟩
    cases r with
    | cons => cases e
    | nil =>
      refine Ok.sub ?_ hsb
      refine Ok.freeze (x := "found") rfl .head ?_
      walk_at "ok"
      exact h _ ha
end

section
variable {n : Nat} {cx : Cx} {ρ : Rho} {μ : Mu} {P P' : Know} {s s' : Shared} {X : Ex → Rho → Mu → Prop} {Q : D → Rho → Mu → Prop} {QF : FlowD → Rho → Mu → Prop} {pos : Pos}
theorem bt0 {s : Shared} {fd : FuncData} (h : BindsTo s fd ⟨[], []⟩ []) : ∀ vs : List Value, vs.length = 0 → BindsTo s fd ⟨vs, []⟩ (([] : List Str).zip vs)
  | [], _ => h
abbrev RQ := Str × Option Int × Option Int
def rqD (q : RQ) : D := .tuple [.str q.1, optD q.2.1, optD q.2.2]
def rangesL : List RQ := [("0041", some 65, some 65), ("0041..0043", some 65, some 67), ("1F600..1F64F", some 128512, some 128591), ("0044", some 68, some 68), ("0042..0050", some 66, some 80), ("10FFFF", some 1114111, some 1114111), ("41", none, none), ("0043..0041", none, none), ("110000", none, none), ("00G1", none, none)]
theorem ct_ranges (hg : G0 cx.g) (C : CxOk (n + 1) cx) (h : Q (.list (rangesL.map rqD)) ρ μ) : OkC cx (.ref 157) [] ρ μ Q X := by
  refine enter [] C (by rw [show cx.g.K = _ from hg]; rfl) (by rw [show cx.g.K = _ from hg]; kernel_rfl) (fun s vs _ => bt0 (BindsTo.of_eq rfl) vs) ?_ ?_ rfl rfl rfl fun cx' hg' C' F' hsc hcl => ?_
  · decide
  · decide
  have hG : G0 cx'.g := hg' ▸ hg
  walk_at "ok"
  exact h
end

section
variable {n : Nat} {cx : Cx} {ρ : Rho} {μ : Mu} {P P' : Know} {s s' : Shared} {X : Ex → Rho → Mu → Prop} {Q : D → Rho → Mu → Prop} {QF : FlowD → Rho → Mu → Prop} {pos : Pos}
theorem Sat.perm {P : Know} {s : Shared} {μ' : Mu} (S : Sat cx ρ μ P s) (h : μ.Perm μ') : Sat cx ρ μ' P s :=
  ⟨S.same, S.ns, S.fz, fun e he => S.mu e (h.mem_iff.mpr he), ((h.map Prod.fst).nodup_iff).mp S.nd, fun e he => S.dj e (h.mem_iff.mpr he), S.stays, fun e he => S.mb e (h.mem_iff.mpr he), S.fr, S.kp,
    fun b hb => ⟨fun q => (S.sp b hb).1 ((h.map Prod.fst).mem_iff.mpr q), (S.sp b hb).2⟩, S.lb, S.lk⟩
theorem Ok.perm {α β : Type} {rep : Know → α → β → Prop} {t : Sem α} {QQ : β → Rho → Mu → Prop} {X : Ex → Rho → Mu → Prop} (h : Ok cx rep t ρ μ (fun b ρ' μ' => ∃ μ'', μ'.Perm μ'' ∧ QQ b ρ' μ'') X) : Ok cx rep t ρ μ QQ X := fun P s S =>
  wpAny_mono (h P s S) (fun _ _ ⟨b, ρ', μ', P', a1, a2, a3, μ'', u, a4⟩ => ⟨b, ρ', μ'', P', a1, a2.perm u, a3, a4⟩) fun _ _ h => h
theorem e_dict2 {x1 x2 : Str} {p1 p2 : Pos} {k : Nat} {e1 e2 : Expr} (C : CxOk n cx) (hn : x1 ≠ x2)
    (h : ∀ a, a ≠ sysModules → OkE cx e1 ρ ((a, .dict []) :: μ) (fun d1 ρ₁ μ₁ => OkE cx e2 ρ₁ μ₁ (fun d2 ρ₂ μ₂ => ∃ μ₃, μ₂ = (a, .dict []) :: μ₃ ∧ Q (.addr a) ρ₂ ((a, .dict [(x1, d1), (x2, d2)]) :: μ₃)) X) X) :
    OkE cx (.Dict [some (.Constant (.str x1) k p1), some (.Constant (.str x2) k p2)] [e1, e2] pos) ρ μ Q X :=
  e_dict (k := k) [(x1, p1, e1), (x2, p2, e2)] C rfl (by simp) (by simp) (by simp [hn]) h
theorem e_dict3 {x1 x2 x3 : Str} {p1 p2 p3 : Pos} {k : Nat} {e1 e2 e3 : Expr} (C : CxOk n cx) (hn : x1 ≠ x2) (hn2 : x1 ≠ x3) (hn3 : x2 ≠ x3)
    (h : ∀ a, a ≠ sysModules → OkE cx e1 ρ ((a, .dict []) :: μ) (fun d1 ρ₁ μ₁ => OkE cx e2 ρ₁ μ₁ (fun d2 ρ₂ μ₂ => OkE cx e3 ρ₂ μ₂ (fun d3 ρ₃ μ₃ => ∃ μ₄, μ₃ = (a, .dict []) :: μ₄ ∧ Q (.addr a) ρ₃ ((a, .dict [(x1, d1), (x2, d2), (x3, d3)]) :: μ₄)) X) X) X) :
    OkE cx (.Dict [some (.Constant (.str x1) k p1), some (.Constant (.str x2) k p2), some (.Constant (.str x3) k p3)] [e1, e2, e3] pos) ρ μ Q X :=
  e_dict (k := k) [(x1, p1, e1), (x2, p2, e2), (x3, p3, e3)] C rfl (by simp) (by simp) (by simp [hn, hn2, hn3]) h
abbrev Tape := List Int × Int
def tm (T c : Addr) (t : Tape) (μ : Mu) : Mu := (T, MO.dict [("cells", .addr c), ("seed", .int t.2)]) :: (c, MO.list ((t.1.map D.int).reverse)) :: μ
def cellsA (ns : List Int) : List Int := (ns.take 48).map fun c => c.fmod 999907
def seedGo (s : Int) (l : List Int) : Int := l.foldl (fun s c => (s * 163 + c).fmod 999907) s
def tapeOf (ns : List Int) : Tape := (cellsA ns, seedGo 2940 (cellsA ns))
theorem cellsA_length (ns : List Int) : (cellsA ns).length ≤ 48 := by unfold cellsA; rw [List.length_map, List.length_take]; omega
abbrev invSeed (ns : List Int) (μ : Mu) : List D → Rho → Mu → Prop := fun ds ρ' μ' => ∃ k r, ds = List.map D.int r ∧ seedGo 2940 (cellsA ns) = seedGo k r ∧ Sub [("seed", .int k), ("cells", .list ((cellsA ns).map D.int))] ρ' ∧ μ' = μ
theorem ct_tape {sc : Addr} {vs : List Value} {ns : List Int} (hl : cx.g.base.IsList sc vs.toArray) (hi : IntsAre vs ns) (hz : ns.length ≤ 1000) (hg : G0 cx.g) (C : CxOk (n + 1) cx) (h : ∀ T c, T ≠ sysModules → Q (.addr T) ρ (tm T c (tapeOf ns) μ)) : OkC cx (.ref 163) [.addr sc] ρ μ Q X := by
  refine enter ["script"] C (by rw [show cx.g.K = _ from hg]; rfl) (by rw [show cx.g.K = _ from hg]; kernel_rfl) (fun s vs _ => bt1 (fun a => BindsTo.of_eq rfl) vs) ?_ ?_ rfl rfl rfl fun cx' hg' C' F' hsc hcl => ?_
  · decide
  · decide
  have hG : G0 cx'.g := hg' ▸ hg
  have hl' : cx'.g.base.IsList sc vs.toArray := by rw [hg']; exact hl
  obtain ⟨outer, hfs⟩ := F'.hfs
  walk_at "ok"
  refine e_compMap (T := fun _ => True) (ns.take 48) D.int (fun c => D.int (c.fmod 999907)) C' trivial (cl := []) rfl (by decide) rfl (by decide) (by walk_at "rl") (by rw [List.length_take]; omega) ?_ (it_list ?_)
  · intro cx₂ hg₂ C₂ hn₂ hc₂ A acc c hc
    have hG₂ : G0 cx₂.g := hg₂ ▸ hG
    walk_at "ok"
    exact ⟨rfl, rfl⟩
  · walk_at "ok"
    refine ⟨_, rfl, ?_⟩
    walk_at "ok"
    refine sl_base hl' hi hz ?_
    refine ⟨_, rfl, rfl, rfl, ?_⟩
    walk_at "ok"
    refine s_for (T := fun _ => True) C' hfs F'.hf (invSeed ns μ) trivial (it_list ?_) ?_ ?_
    · walk_at "ok"
      have e : (ns.take 48).map (fun c => D.int (c.fmod 999907)) = (cellsA ns).map D.int := by unfold cellsA; rw [List.map_map]; rfl
      rw [e]
      exact ⟨_, rfl, _, _, rfl, rfl, Sub.cons rfl (Sub.cons rfl Sub.nil), rfl⟩
    · rintro own d ds ρ' μ' ⟨k, r, e, ha, hsb, rfl⟩
      cases r with
      | nil => cases e
      | cons i r =>
        rw [List.map_cons] at e
        cases e
        have C'' := C'.hold own
        have hG' : G0 (cx'.hold own).g := hG
        have hsc' : (cx'.hold own).env.scope = _ := hsc
        refine Ok1.sub ?_ hsb
        walk_at "ok"
        exact ⟨_, r, rfl, ha, Sub.cons rfl (Sub.cons rfl Sub.nil), rfl⟩
    · rintro ρ' μ' ⟨k, r, e, ha, hsb, rfl⟩
      cases r with
      | cons => cases e
      | nil =>
        refine Ok.sub ?_ hsb
        walk_at "ok"
        refine e_dict2 C' (by decide) fun T hT => ?_
        refine Ok.perm ?_
        walk_at "ok"
        refine ⟨_, rfl, ?_⟩
        refine sl_revM (by rw [List.length_map]; exact Nat.le_trans (cellsA_length ns) (by decide)) fun c => ⟨_, .swap _ _ _, ?_⟩
        walk_at "ok"
        refine ⟨_, rfl, ?_⟩
        have hk : k = seedGo 2940 (cellsA ns) := ha.symm
        subst hk
        exact h T c hT
end

section
variable {n : Nat} {cx : Cx} {ρ : Rho} {μ : Mu} {P P' : Know} {s s' : Shared} {X : Ex → Rho → Mu → Prop} {Q : D → Rho → Mu → Prop} {QF : FlowD → Rho → Mu → Prop} {pos : Pos}
/-- the tape's next number -/
def stepT (t : Tape) : Int × Tape := match t.1 with
  | c :: r => (c, (r, t.2))
  | [] => (((t.2 * 3491 + 43).fmod 999907).fdiv 31, ([], (t.2 * 3491 + 43).fmod 999907))
def nextT (t : Tape) (below : Int) : Int × Tape := ((stepT t).1.fmod below, (stepT t).2)
def restT (t : Tape) : Tape := (stepT t).2
theorem upd_pre {a : Addr} {o o' : MO} {μ₁ μ₂ : Mu} (u : Upd a o o' μ₁ μ₂) : ∀ pre : Mu, Upd a o o' (pre ++ μ₁) (pre ++ μ₂)
  | [] => u
  | e :: pre => .tail (upd_pre u pre)
theorem mem_pre {e : Addr × MO} {μ₁ : Mu} (h : e ∈ μ₁) (pre : Mu) : e ∈ pre ++ μ₁ := List.mem_append_right _ h
theorem ct_next {T c : Addr} {t : Tape} {below : Int} {pre : Mu} (hb : below ≠ 0) (ht : t.1.length ≤ 1000) (hg : G0 cx.g) (C : CxOk (n + 1) cx) (h : Q (.int ((stepT t).1.fmod below)) ρ (pre ++ tm T c (stepT t).2 μ)) : OkC cx (.ref 170) [.addr T, .int below] ρ (pre ++ tm T c t μ) Q X := by
  refine enter ["tape", "below"] C (by rw [show cx.g.K = _ from hg]; rfl) (by rw [show cx.g.K = _ from hg]; kernel_rfl) (fun s vs _ => bt2 (fun a b => BindsTo.of_eq rfl) vs) ?_ ?_ rfl rfl rfl fun cx' hg' C' F' hsc hcl => ?_
  · decide
  · decide
  have hG : G0 cx'.g := hg' ▸ hg
  obtain ⟨l, seed⟩ := t
  dsimp only at ht
  have hmT : (T, MO.dict [("cells", .addr c), ("seed", .int seed)]) ∈ pre ++ tm T c (l, seed) μ := mem_pre (.head _) pre
  have hmc : (c, MO.list ((l.map D.int).reverse)) ∈ pre ++ tm T c (l, seed) μ := mem_pre (.tail _ (.head _)) pre
  cases l with
  | nil =>
    have hne : (!(List.map D.int ([] : List Int)).reverse.isEmpty) = false := rfl
    walk_at "ok"
    refine sub_dict hmT rfl ?_
    walk_at "ok"
    refine c_neNilM C' hmc ?_
    walk_at "ok"
    refine s_setItem ?_
    walk_at "ok"
    refine sub_dict hmT rfl ?_
    walk_at "ok"
    refine ⟨T, _, "seed", _, rfl, rfl, Nat.le_of_ble_eq_true rfl, upd_pre .head pre, ?_⟩
    have hmT' : (T, MO.dict [("cells", .addr c), ("seed", .int ((seed * 3491 + 43).fmod 999907))]) ∈ pre ++ tm T c ([], (seed * 3491 + 43).fmod 999907) μ := mem_pre (.head _) pre
    walk_at "ok"
    refine sub_dict hmT' rfl ?_
    walk_at "ok"
    refine o_mod hb ?_
    exact h
  | cons d r =>
    have hne : (!(List.map D.int (d :: r)).reverse.isEmpty) = true := by simp
    walk_at "ok"
    refine sub_dict hmT rfl ?_
    walk_at "ok"
    refine c_neNilM C' hmc ?_
    walk_at "ok"
    refine e_meth0 (id := "list.pop") ?_
    walk_at "ok"
    refine sub_dict hmT rfl ?_
    refine ⟨meth_list hmc F.slot_list_pop F.type_list_pop, ?_⟩
    refine m_pop (μ' := pre ++ tm T c (r, seed) μ) (ds := (r.map D.int).reverse) (d := .int d) (upd_pre (.tail ?_) pre) (by simp at ht ⊢; omega) ?_
    · rw [List.map_cons, List.reverse_cons]; exact .head
    walk_at "ok"
    refine o_mod hb ?_
    exact h
end

section
variable {n : Nat} {cx : Cx} {ρ : Rho} {μ : Mu} {P P' : Know} {s s' : Shared} {X : Ex → Rho → Mu → Prop} {Q : D → Rho → Mu → Prop} {QF : FlowD → Rho → Mu → Prop} {pos : Pos}
theorem closureFor_one {scope : Scope} {env : Env} {x : Str} {c : Addr} {l : List (Str × Addr)} (hcl : env.cells = l) (h : closureFor scope { (default : Env) with cells := l } = pure [(x, c)]) : closureFor scope env = pure [(x, c)] := by
  rw [← h]
  unfold closureFor cellOf
  rw [hcl]
/-- the law's own words -/
def wordsL : List Str := ["Word", "X", "Y", "word", ""]
theorem sub_words {k : Int} (hg : G0 cx.g) (C : CxOk n cx) (h0 : 0 ≤ k) (h1 : k < 5) (h : Q (.str (wordsL.getD k.toNat "")) ρ μ) : OkSub cx (.addr 158) (.int k) ρ μ Q X := by
  have hk : k = 0 ∨ k = 1 ∨ k = 2 ∨ k = 3 ∨ k = 4 := by omega
  rcases hk with rfl | rfl | rfl | rfl | rfl <;> exact sub_K C (by rw [show cx.g.K = _ from hg]; rfl) rfl rfl (by decide) (by decide) rfl (fun P => .str _ _) h
def drawW : Nat → Tape → List Str × Tape
  | 0, t => ([], t)
  | k + 1, t => (wordsL.getD ((stepT t).1.fmod 5).toNat "" :: (drawW k (stepT t).2).1, (drawW k (stepT t).2).2)
theorem stepT_le {t : Tape} {k : Nat} (h : t.1.length ≤ k) : (stepT t).2.1.length ≤ k := by
  obtain ⟨l, s⟩ := t
  cases l with
  | nil => exact Nat.zero_le _
  | cons c r => simp only [stepT, List.length_cons] at h ⊢; omega
def idx10 (k : Int) : Int := if k < 10 then k else k - 10
def fieldsW (number : Int) (ws : List Str) : List Str := if (!ws.isEmpty && number.fmod 2 == 0) then "Word" :: ws.drop 1 else ws
def fieldsT (many : Nat) (t : Tape) : RQ × List Str × Tape :=
  (rangesL.getD (idx10 ((stepT t).1.fmod 14)).toNat ("", none, none), fieldsW ((stepT t).1.fmod 14) (drawW (many - 1) (stepT t).2).1, (drawW (many - 1) (stepT t).2).2)
theorem fmod_range {a b : Int} (hb : 0 < b) : 0 ≤ a.fmod b ∧ a.fmod b < b := ⟨Int.fmod_nonneg_of_pos a hb, Int.fmod_lt_of_pos a hb⟩
theorem rInts_length (a : Int) (k : Nat) : (rInts a k).length = k := by unfold rInts; rw [List.length_map, List.length_range]
theorem okTs_nil {QB : Bool → Rho → Mu → Prop} (h : QB true ρ μ) : OkTs cx [] ρ μ QB X := h
theorem ct_fields {T c : Addr} {t : Tape} {many : Nat} {pre : Mu} (hm : 1 ≤ many) (hm2 : many ≤ 10) (ht : t.1.length ≤ 1000) (hg : G0 cx.g) (C : CxOk (n + 2) cx)
    (h : Q (.tuple [.list (.str (fieldsT many t).1.1 :: (fieldsT many t).2.1.map D.str), optD (fieldsT many t).1.2.1, optD (fieldsT many t).1.2.2]) ρ (pre ++ tm T c (fieldsT many t).2.2 μ)) :
    OkC cx (.ref 175) [.addr T, .int many] ρ (pre ++ tm T c t μ) Q X := by
  refine enterC "tape" "many" C (by rw [show cx.g.K = _ from hg]; rfl) (by rw [show cx.g.K = _ from hg]; kernel_rfl) (fun u v => rfl) (by decide) (by decide) (fun N => rfl) rfl rfl rfl fun cx' cc hg' C' F' hsc hcl => ?_
  have hG : G0 cx'.g := hg' ▸ hg
  walk_at "ok"
  have C0 : CxOk (n + 1) cx' := C'
  refine ct_next (n := n) (pre := (cc, .cell (some (.addr T))) :: pre) (by decide) ht hG C' ?_
  obtain ⟨k0, k1⟩ := fmod_range (a := (stepT t).1) (b := 14) (by decide)
  have hidx : 0 ≤ idx10 ((stepT t).1.fmod 14) ∧ idx10 ((stepT t).1.fmod 14) < 10 := by unfold idx10; split <;> omega
  have ht1 := stepT_le ht
  unfold fieldsT at h
  generalize (stepT t).1.fmod 14 = number at h k0 k1 hidx ⊢
  generalize (stepT t).2 = t1 at h ht1 ⊢
  walk_at "ok"
  refine ct_ranges (n := n) hG C' ?_
  have hq : ∃ q, rangesL[(idx10 number).toNat]? = some q ∧ rangesL.getD (idx10 number).toNat ("", none, none) = q := by
    have : (idx10 number).toNat < rangesL.length := by
      show _ < 10
      omega
    exact ⟨rangesL[(idx10 number).toNat], List.getElem?_eq_getElem this, by rw [List.getD_eq_getElem?_getD, List.getElem?_eq_getElem this]; rfl⟩
  obtain ⟨⟨tx, fi, la⟩, hq1, hq2⟩ := hq
  rw [hq2] at h
  have hq3 : (rangesL.map rqD)[(idx10 number).toNat]? = some (rqD (tx, fi, la)) := by rw [List.getElem?_map, hq1]; rfl
  walk_at "ok"
  · rename_i q
    rw [decide_eq_true_eq] at q
    have e : idx10 number = number := if_pos q
    rw [e] at hq3 hidx
    refine sub_list hidx.1 (by omega) hq3 ?_
    clear e hq3 hidx
    dsimp only [rqD]
    walk_at "ok"
    refine s_comp (T := fun _ => True) (cl := [("tape", cc)]) C' trivial (by walk_at "s2") (closureFor_one hcl rfl) (by decide) rfl (by decide) (by walk_at "rl")
      (fun ds acc μ' => ∃ t' ws, acc = List.map D.str ws ∧ t'.1.length ≤ 1000 ∧ ws.length + ds.length ≤ 10 ∧ drawW (many - 1) t1 = (ws ++ (drawW ds.length t').1, (drawW ds.length t').2) ∧ μ' = (cc, .cell (some (.addr T))) :: (pre ++ tm T c t' μ)) ?_ ?_ (by walk_at "nm") ?_
    · rintro ds acc μ' ⟨t', ws, rfl, h1, h2, h3, h4⟩
      rw [List.length_map]; omega
    · rintro cx₂ hg₂ C₂ hn₂ hc₂ A d ds acc μ' ⟨t', ws, rfl, h1, h2, h3, rfl⟩
      have hG₂ : G0 cx₂.g := hg₂ ▸ hG
      walk_at "ok"
      refine okTs_nil (ifT ?_)
      walk_at "ok"
      refine ct_next (n := n) (pre := (A, .list (ws.map D.str)) :: (cc, .cell (some (.addr T))) :: pre) (by decide) h1 hG₂ C₂ ?_
      obtain ⟨r0, r1⟩ := fmod_range (a := (stepT t').1) (b := 5) (by decide)
      refine sub_words hG₂ C₂ r0 r1 ?_
      refine ⟨_, rfl, (stepT t').2, ws ++ [wordsL.getD ((stepT t').1.fmod 5).toNat ""], by rw [List.map_append]; rfl, stepT_le h1, ?_, ?_, rfl⟩
      · rw [List.length_append, List.length_singleton]
        rw [List.length_cons] at h2
        omega
      · rw [h3, List.length_cons, drawW, List.append_assoc]; rfl
    refine it_range C' rfl (by walk_at "nm") (gn_range hG) ?_
    walk_at "ok"
    refine ⟨(many : Int) - 1, rfl, by omega, by omega, ⟨t1, [], rfl, ht1, ?_, ?_, rfl⟩, ?_⟩
    · rw [rInts_length, List.length_nil]; omega
    · rw [rInts_length, show ((many : Int) - 1).toNat = many - 1 by omega]; rfl
    rintro acc μ' ⟨t', ws, rfl, h1, h2, h3, rfl⟩
    rw [List.length_nil, drawW, List.append_nil] at h3
    rw [h3] at h
    dsimp only at h
    rw [List.length_nil] at h2
    unfold fieldsW at h
    walk_at "ok"
    refine c_neNil C' ?_
    walk_at "ok"
    · rename_i qe qn
      rw [List.isEmpty_map] at qe
      rw [if_pos (by rw [qe, qn]; rfl)] at h
      refine ⟨1, rfl, ?_⟩
      walk_at "ok"
      refine sl_from (k := 1) (by rw [List.length_map]; omega) ?_
      refine o_catL (ds := [_]) (by rw [List.length_drop, List.length_map, List.length_singleton]; omega) ?_
      walk_at "ok"
      refine o_catL (ds := [_]) (by simp; omega) ?_
      walk_at "ok"
      refine ⟨_, _, .head, ?_⟩
      rw [List.map_cons, List.map_drop] at h
      exact h
    · rename_i qe qn
      rw [List.isEmpty_map] at qe
      rw [if_neg (by rw [qe, qn]; exact Bool.false_ne_true)] at h
      refine o_catL (ds := [_]) (by simp; omega) ?_
      walk_at "ok"
      exact ⟨_, _, .head, h⟩
    · rename_i qe
      rw [List.isEmpty_map] at qe
      rw [if_neg (by rw [qe]; exact Bool.false_ne_true)] at h
      refine o_catL (ds := [_]) (by simp; omega) ?_
      walk_at "ok"
      exact ⟨_, _, .head, h⟩
  · rename_i q
    rw [decide_eq_false_iff_not] at q
    have e : idx10 number = number - 10 := if_neg q
    rw [e] at hq3 hidx
    refine sub_list hidx.1 (by omega) hq3 ?_
    clear e hq3 hidx
    dsimp only [rqD]
    walk_at "ok"
    refine s_comp (T := fun _ => True) (cl := [("tape", cc)]) C' trivial (by walk_at "s2") (closureFor_one hcl rfl) (by decide) rfl (by decide) (by walk_at "rl")
      (fun ds acc μ' => ∃ t' ws, acc = List.map D.str ws ∧ t'.1.length ≤ 1000 ∧ ws.length + ds.length ≤ 10 ∧ drawW (many - 1) t1 = (ws ++ (drawW ds.length t').1, (drawW ds.length t').2) ∧ μ' = (cc, .cell (some (.addr T))) :: (pre ++ tm T c t' μ)) ?_ ?_ (by walk_at "nm") ?_
    · rintro ds acc μ' ⟨t', ws, rfl, h1, h2, h3, h4⟩
      rw [List.length_map]; omega
    · rintro cx₂ hg₂ C₂ hn₂ hc₂ A d ds acc μ' ⟨t', ws, rfl, h1, h2, h3, rfl⟩
      have hG₂ : G0 cx₂.g := hg₂ ▸ hG
      walk_at "ok"
      refine okTs_nil (ifT ?_)
      walk_at "ok"
      refine ct_next (n := n) (pre := (A, .list (ws.map D.str)) :: (cc, .cell (some (.addr T))) :: pre) (by decide) h1 hG₂ C₂ ?_
      obtain ⟨r0, r1⟩ := fmod_range (a := (stepT t').1) (b := 5) (by decide)
      refine sub_words hG₂ C₂ r0 r1 ?_
      refine ⟨_, rfl, (stepT t').2, ws ++ [wordsL.getD ((stepT t').1.fmod 5).toNat ""], by rw [List.map_append]; rfl, stepT_le h1, ?_, ?_, rfl⟩
      · rw [List.length_append, List.length_singleton]
        rw [List.length_cons] at h2
        omega
      · rw [h3, List.length_cons, drawW, List.append_assoc]; rfl
    refine it_range C' rfl (by walk_at "nm") (gn_range hG) ?_
    walk_at "ok"
    refine ⟨(many : Int) - 1, rfl, by omega, by omega, ⟨t1, [], rfl, ht1, ?_, ?_, rfl⟩, ?_⟩
    · rw [rInts_length, List.length_nil]; omega
    · rw [rInts_length, show ((many : Int) - 1).toNat = many - 1 by omega]; rfl
    rintro acc μ' ⟨t', ws, rfl, h1, h2, h3, rfl⟩
    rw [List.length_nil, drawW, List.append_nil] at h3
    rw [h3] at h
    dsimp only at h
    rw [List.length_nil] at h2
    unfold fieldsW at h
    walk_at "ok"
    refine c_neNil C' ?_
    walk_at "ok"
    · rename_i qe qn
      rw [List.isEmpty_map] at qe
      rw [if_pos (by rw [qe, qn]; rfl)] at h
      refine ⟨1, rfl, ?_⟩
      walk_at "ok"
      refine sl_from (k := 1) (by rw [List.length_map]; omega) ?_
      refine o_catL (ds := [_]) (by rw [List.length_drop, List.length_map, List.length_singleton]; omega) ?_
      walk_at "ok"
      refine o_catL (ds := [_]) (by simp; omega) ?_
      walk_at "ok"
      refine ⟨_, _, .head, ?_⟩
      rw [List.map_cons, List.map_drop] at h
      exact h
    · rename_i qe qn
      rw [List.isEmpty_map] at qe
      rw [if_neg (by rw [qe, qn]; exact Bool.false_ne_true)] at h
      refine o_catL (ds := [_]) (by simp; omega) ?_
      walk_at "ok"
      exact ⟨_, _, .head, h⟩
    · rename_i qe
      rw [List.isEmpty_map] at qe
      rw [if_neg (by rw [qe]; exact Bool.false_ne_true)] at h
      refine o_catL (ds := [_]) (by simp; omega) ?_
      walk_at "ok"
      exact ⟨_, _, .head, h⟩
end

section
variable {n : Nat} {cx : Cx} {ρ : Rho} {μ : Mu} {P P' : Know} {s s' : Shared} {X : Ex → Rho → Mu → Prop} {Q : D → Rho → Mu → Prop} {QF : FlowD → Rho → Mu → Prop} {pos : Pos}
theorem ct_nextA {T c : Addr} {t : Tape} {below : Int} {pre : Mu} (hb : 0 < below) (ht : t.1.length ≤ 1000) (hg : G0 cx.g) (C : CxOk (n + 1) cx) (h : ∀ k t', 0 ≤ k → k < below → t'.1.length ≤ 1000 → Q (.int k) ρ (pre ++ tm T c t' μ)) : OkC cx (.ref 170) [.addr T, .int below] ρ (pre ++ tm T c t μ) Q X :=
  ct_next (by omega) ht hg C (h _ _ (fmod_range hb).1 (fmod_range hb).2 (stepT_le ht))
theorem drawW_ok : ∀ (k : Nat) (t : Tape), t.1.length ≤ 1000 → (drawW k t).1.length = k ∧ (∀ w ∈ (drawW k t).1, w ∈ wordsL) ∧ (drawW k t).2.1.length ≤ 1000
  | 0, t, h => ⟨rfl, fun w hw => (by cases hw), h⟩
  | k + 1, t, h => by
    obtain ⟨h1, h2, h3⟩ := drawW_ok k (stepT t).2 (stepT_le h)
    rw [drawW]
    refine ⟨by rw [List.length_cons, h1], fun w hw => ?_, h3⟩
    rcases List.mem_cons.mp hw with rfl | hw
    · obtain ⟨r0, r1⟩ := fmod_range (a := (stepT t).1) (b := 5) (by decide)
      have : ((stepT t).1.fmod 5).toNat < wordsL.length := by show _ < 5; omega
      rw [List.getD_eq_getElem?_getD, List.getElem?_eq_getElem this]
      exact List.getElem_mem this
    · exact h2 w hw
theorem fieldsW_ok {number : Int} {ws : List Str} (h : ∀ w ∈ ws, w ∈ wordsL) : (fieldsW number ws).length = ws.length ∧ ∀ w ∈ fieldsW number ws, w ∈ wordsL := by
  unfold fieldsW
  split
  · rename_i q
    cases ws with
    | nil => simp at q
    | cons w r =>
      refine ⟨rfl, fun v hv => ?_⟩
      rcases List.mem_cons.mp hv with rfl | hv
      · exact .head _
      · exact h v (.tail _ hv)
  · exact ⟨rfl, h⟩
theorem ct_fieldsA {T c : Addr} {t : Tape} {many : Nat} {pre : Mu} (hm : 1 ≤ many) (hm2 : many ≤ 10) (ht : t.1.length ≤ 1000) (hg : G0 cx.g) (C : CxOk (n + 2) cx)
    (h : ∀ (q : RQ) ws t', q ∈ rangesL → (∀ w ∈ ws, w ∈ wordsL) → ws.length + 1 = many → t'.1.length ≤ 1000 → Q (.tuple [.list ((q.1 :: ws).map D.str), optD q.2.1, optD q.2.2]) ρ (pre ++ tm T c t' μ)) :
    OkC cx (.ref 175) [.addr T, .int many] ρ (pre ++ tm T c t μ) Q X := by
  obtain ⟨h1, h2, h3⟩ := drawW_ok (many - 1) (stepT t).2 (stepT_le ht)
  obtain ⟨h4, h5⟩ := fieldsW_ok (number := (stepT t).1.fmod 14) h2
  obtain ⟨k0, k1⟩ := fmod_range (a := (stepT t).1) (b := 14) (by decide)
  have hq : rangesL.getD (idx10 ((stepT t).1.fmod 14)).toNat ("", none, none) ∈ rangesL := by
    have : (idx10 ((stepT t).1.fmod 14)).toNat < rangesL.length := by
      show _ < 10
      unfold idx10
      split <;> omega
    rw [List.getD_eq_getElem?_getD, List.getElem?_eq_getElem this]
    exact List.getElem_mem this
  exact ct_fields hm hm2 ht hg C (h _ _ _ hq h5 (by show (fieldsW _ _).length + 1 = many; rw [h4, h1]; omega) h3)
def noneL : List Str := ["", "# 0041 ; X", " \t", "# @Missing: 0041; X", "# @missing 0041; X"]
def gapL : List Str := [" ", "", "\t ", "  "]
def behL : List Str := ["", " # A", "\r", "# X; Y"]
def headL : List Str := ["# @missing: ", "#@missing:", "  #  @missing: "]
def manyL : List Int := [2, 3, 3, 4, 1, 2, 3]
abbrev LineQ := Str × Str × List Str × Option Int × Option Int
def lineD (l : LineQ) : D := .tuple [.str l.1, .str l.2.1, .list (l.2.2.1.map D.str), optD l.2.2.2.1, optD l.2.2.2.2]
def rowText (gap beh : Str) (fields : List Str) : Str := Str.join (gap ++ ";" ++ gap) fields ++ gap ++ beh
inductive LineOk : LineQ → Prop
  | none {x : Str} : x ∈ noneL → LineOk (x, "none", [], Option.none, Option.none)
  | row {q : RQ} {ws : List Str} {gap beh : Str} : q ∈ rangesL → (∀ w ∈ ws, w ∈ wordsL) → ws.length ≤ 3 → gap ∈ gapL → beh ∈ behL → LineOk (rowText gap beh (q.1 :: ws), "row", q.1 :: ws, q.2.1, q.2.2)
  | miss {q : RQ} {ws : List Str} {gap beh head : Str} : q ∈ rangesL → (∀ w ∈ ws, w ∈ wordsL) → 1 ≤ ws.length → ws.length ≤ 3 → gap ∈ gapL → beh ∈ behL → head ∈ headL → LineOk (head ++ rowText gap beh (q.1 :: ws), "missing", q.1 :: ws, q.2.1, q.2.2)
theorem joinS_eq (sep : Str) (l : List Str) : Txt.join sep l = Str.join sep l := eq_of_beq (join_plain_closes sep l)
theorem sub_strs {ds : List D} (L : List Str) {k : Int} (hL : ds = L.map D.str) (hl : L.length ≤ 1000) (h0 : 0 ≤ k) (h1 : k < L.length) (h : ∀ x, x ∈ L → Q (.str x) ρ μ) : OkSub cx (.list ds) (.int k) ρ μ Q X := by
  have : k.toNat < L.length := by omega
  exact sub_list (d := .str L[k.toNat]) h0 (by omega) (by rw [hL, List.getElem?_map, List.getElem?_eq_getElem this]; rfl) (h _ (List.getElem_mem this))
theorem sub_ints {ds : List D} (L : List Int) {k : Int} (hL : ds = L.map D.int) (hl : L.length ≤ 1000) (h0 : 0 ≤ k) (h1 : k < L.length) (h : ∀ x, x ∈ L → Q (.int x) ρ μ) : OkSub cx (.list ds) (.int k) ρ μ Q X := by
  have : k.toNat < L.length := by omega
  exact sub_list (d := .int L[k.toNat]) h0 (by omega) (by rw [hL, List.getElem?_map, List.getElem?_eq_getElem this]; rfl) (h _ (List.getElem_mem this))
theorem lenS_app (a b : Str) : (a ++ b).length = a.length + b.length := by
  show (a.cps ++ b.cps).size = _
  exact Array.size_append
theorem gap_len : ∀ g ∈ gapL, g.length ≤ 2 := by decide +kernel
theorem beh_len : ∀ g ∈ behL, g.length ≤ 6 := by decide +kernel
theorem head_len : ∀ g ∈ headL, g.length ≤ 20 := by decide +kernel
theorem word_len : ∀ g ∈ wordsL, g.length ≤ 4 := by decide +kernel
theorem range_len : ∀ q ∈ rangesL, q.1.length ≤ 12 := by decide +kernel
theorem sum_len {ws : List Str} (h : ∀ w ∈ ws, w.length ≤ 4) : (ws.map (·.length)).sum ≤ 4 * ws.length := by
  induction ws with
  | nil => exact Nat.le_refl _
  | cons w r ih =>
    have h1 := h w (.head _)
    have h2 := ih fun v hv => h v (.tail _ hv)
    rw [List.map_cons, List.sum_cons, List.length_cons]
    omega
theorem sep_len {gap : Str} (h : gap ∈ gapL) : (gap ++ ";" ++ gap).length ≤ 5 := by
  have := gap_len _ h
  rw [lenS_app, lenS_app, show (";" : Str).length = 1 from rfl]
  omega
theorem fields_sum {q : RQ} {ws : List Str} (hq : q ∈ rangesL) (hws : ∀ w ∈ ws, w ∈ wordsL) (hl : ws.length ≤ 3) : ((q.1 :: ws).map (·.length)).sum ≤ 24 := by
  have h1 := range_len _ hq
  have h2 := sum_len fun w hw => word_len _ (hws w hw)
  rw [List.map_cons, List.sum_cons]
  omega
theorem join_len {q : RQ} {ws : List Str} {gap : Str} (hg : gap ∈ gapL) (hq : q ∈ rangesL) (hws : ∀ w ∈ ws, w ∈ wordsL) (hl : ws.length ≤ 3) : ((q.1 :: ws).map (·.length)).sum + (q.1 :: ws).length * (gap ++ ";" ++ gap).length ≤ 50 := by
  have h1 := fields_sum hq hws hl
  have h2 : (q.1 :: ws).length * (gap ++ ";" ++ gap).length ≤ 4 * 5 := Nat.mul_le_mul (by rw [List.length_cons]; omega) (sep_len hg)
  omega
theorem join_len2 {q : RQ} {ws : List Str} {gap : Str} (hg : gap ∈ gapL) (hq : q ∈ rangesL) (hws : ∀ w ∈ ws, w ∈ wordsL) (hl : ws.length ≤ 3) : (Str.join (gap ++ ";" ++ gap) (q.1 :: ws)).length ≤ 50 :=
  Nat.le_trans (StrLaws.join_length_le _ _) (join_len hg hq hws hl)
theorem many_ok : ∀ x ∈ manyL, 1 ≤ x ∧ x ≤ 4 := by decide
theorem ct_line {T c : Addr} {t : Tape} {pre : Mu} (ht : t.1.length ≤ 1000) (hg : G0 cx.g) (C : CxOk (n + 3) cx) (h : ∀ l t', LineOk l → t'.1.length ≤ 1000 → Q (lineD l) ρ (pre ++ tm T c t' μ)) : OkC cx (.ref 182) [.addr T] ρ (pre ++ tm T c t μ) Q X := by
  refine enter ["tape"] C (by rw [show cx.g.K = _ from hg]; rfl) (by rw [show cx.g.K = _ from hg]; kernel_rfl) (fun s vs _ => bt1 (fun a => BindsTo.of_eq rfl) vs) ?_ ?_ rfl rfl rfl fun cx' hg' C' F' hsc hcl => ?_
  · decide
  · decide
  have hG : G0 cx'.g := hg' ▸ hg
  walk_at "ok"
  refine ct_nextA (by decide) ht hG C' fun way t1 w0 w1 ht1 => ?_
  walk_at "ok"
  · rename_i q
    refine ct_nextA (by decide) ht1 hG C' fun k t2 k0 k1 ht2 => ?_
    refine sub_strs noneL rfl (by decide) k0 k1 fun x hx => ?_
    walk_at "ok"
    exact h _ _ (.none hx) ht2
  · rename_i q
    refine ct_nextA (by decide) ht1 hG C' fun k t2 k0 k1 ht2 => ?_
    refine sub_ints manyL rfl (by decide) k0 k1 fun x hx => ?_
    obtain ⟨x1, x2⟩ := many_ok x hx
    walk_at "ok"
    · rename_i qw
      obtain ⟨m, m1, m2, e⟩ : ∃ m : Nat, 2 ≤ m ∧ m ≤ 4 ∧ max 2 x = (m : Int) := ⟨(max 2 x).toNat, by omega, by omega, by omega⟩
      rw [e]
      refine ct_fieldsA (many := m) (by omega) (by omega) ht2 hG C' fun q ws t3 hq hws hwl ht3 => ?_
      walk_at "ok"
      refine ct_nextA (by decide) ht3 hG C' fun k t4 k0 k1 ht4 => ?_
      refine sub_strs gapL rfl (by decide) k0 k1 fun gap hgap => ?_
      walk_at "ok"
      refine ct_nextA (by decide) ht4 hG C' fun k t5 k0 k1 ht5 => ?_
      refine sub_strs behL rfl (by decide) k0 k1 fun beh hbeh => ?_
      have l1 := gap_len _ hgap
      have l2 := beh_len _ hbeh
      have l3 := join_len hgap hq hws (by omega)
      have l4 := join_len2 hgap hq hws (by omega)
      walk_at "ok"
      refine o_cat (by rw [show (";" : Str).length = 1 from rfl]; omega) ?_
      walk_at "ok"
      refine o_cat (by rw [lenS_app, show (";" : Str).length = 1 from rfl]; omega) ?_
      walk_at "ok"
      refine m_join (xs := q.1 :: ws) (by omega) ?_
      rw [joinS_eq]
      walk_at "ok"
      refine o_cat (by omega) ?_
      walk_at "ok"
      refine o_cat (by rw [lenS_app]; omega) ?_
      walk_at "ok"
      rw [decide_eq_true_eq] at qw
      refine sub_strs headL rfl (by decide) (by omega) (by show way - 5 < 3; omega) fun head hhead => ?_
      have l5 := head_len _ hhead
      walk_at "ok"
      refine o_cat (by rw [lenS_app, lenS_app]; omega) ?_
      walk_at "ok"
      exact h _ _ (.miss hq hws (by omega) (by omega) hgap hbeh hhead) ht5
    · obtain ⟨m, m1, m2, e⟩ : ∃ m : Nat, 1 ≤ m ∧ m ≤ 4 ∧ x = (m : Int) := ⟨x.toNat, by omega, by omega, by omega⟩
      rw [e]
      refine ct_fieldsA (many := m) (by omega) (by omega) ht2 hG C' fun q ws t3 hq hws hwl ht3 => ?_
      walk_at "ok"
      refine ct_nextA (by decide) ht3 hG C' fun k t4 k0 k1 ht4 => ?_
      refine sub_strs gapL rfl (by decide) k0 k1 fun gap hgap => ?_
      walk_at "ok"
      refine ct_nextA (by decide) ht4 hG C' fun k t5 k0 k1 ht5 => ?_
      refine sub_strs behL rfl (by decide) k0 k1 fun beh hbeh => ?_
      have l1 := gap_len _ hgap
      have l2 := beh_len _ hbeh
      have l3 := join_len hgap hq hws (by omega)
      have l4 := join_len2 hgap hq hws (by omega)
      walk_at "ok"
      refine o_cat (by rw [show (";" : Str).length = 1 from rfl]; omega) ?_
      walk_at "ok"
      refine o_cat (by rw [lenS_app, show (";" : Str).length = 1 from rfl]; omega) ?_
      walk_at "ok"
      refine m_join (xs := q.1 :: ws) (by omega) ?_
      rw [joinS_eq]
      walk_at "ok"
      refine o_cat (by omega) ?_
      walk_at "ok"
      refine o_cat (by rw [lenS_app]; omega) ?_
      walk_at "ok"
      exact h _ _ (.row hq hws (by omega) hgap hbeh) ht5
end

section
variable {n : Nat} {cx : Cx} {ρ : Rho} {μ : Mu} {P P' : Know} {s s' : Shared} {X : Ex → Rho → Mu → Prop} {Q : D → Rho → Mu → Prop} {QF : FlowD → Rho → Mu → Prop} {pos : Pos}
abbrev kDropQ {β : Type} (QQ : β → Rho → Mu → Prop) (b : β) (ρ : Rho) (μ : Mu) : Prop := QQ b ρ μ ∨ ∃ A o μ'', Rem A o μ μ'' ∧ QQ b ρ μ''
theorem Ok.dropQ {α β : Type} {rep : Know → α → β → Prop} {t : Sem α} {QQ : β → Rho → Mu → Prop} {X : Ex → Rho → Mu → Prop} (h : Ok cx rep t ρ μ (kDropQ QQ) X) : Ok cx rep t ρ μ QQ X := fun P s S =>
  wpAny_mono (h P s S) (fun _ _ ⟨b, ρ', μ', P', a1, a2, a3, a4⟩ => by
    rcases a4 with a4 | ⟨A, o, μ'', u, a4⟩
    · exact ⟨b, ρ', μ', P', a1, a2, a3, a4⟩
    · exact ⟨b, ρ', μ'', P', a1, a2.drop u, a3, a4⟩) fun _ _ h => h
def optS : Option Str → D
  | some w => .str w
  | none => .none
def isDue (w : Option Str) (l : LineQ) : Bool := (l.2.1 == "missing") && (match w with
  | none => ([2, 3] : List Int).any fun k => k == (l.2.2.1.length : Int)
  | some w => ((l.2.2.1.length : Int) == 3) && (l.2.2.1.getD 1 "" == w))
def missDue (w : Option Str) (val : Str → Option D) : Nat → List MQ → List LineQ → Except Int (List MQ)
  | _, acc, [] => .ok acc
  | i, acc, l :: r => if isDue w l then (match l.2.2.2.1, l.2.2.2.2 with
      | some a, some b => (match val (l.2.2.1.getD (l.2.2.1.length - 1) "") with
        | some d => missDue w val (i + 1) (acc ++ [(a, b, d)]) r
        | none => .error ((i : Int) + 1))
      | _, _ => .error ((i : Int) + 1)) else missDue w val (i + 1) acc r
section
variable {w : Option Str} {val : Str → Option D} {i : Nat} {acc : List MQ} {l : LineQ} {r : List LineQ}
theorem due_out (h : isDue w l = false) : missDue w val i acc (l :: r) = missDue w val (i + 1) acc r := by rw [missDue, if_neg (by rw [h]; exact Bool.false_ne_true)]
theorem due_bad {t s : Str} {f : List Str} (h : isDue w (t, s, f, none, none) = true) : missDue w val i acc ((t, s, f, none, none) :: r) = .error ((i : Int) + 1) := by rw [missDue, if_pos h]
theorem due_val {t s : Str} {f : List Str} {a b : Int} (h : isDue w (t, s, f, some a, some b) = true) (h2 : val (f.getD (f.length - 1) "") = none) : missDue w val i acc ((t, s, f, some a, some b) :: r) = .error ((i : Int) + 1) := by
  rw [missDue, if_pos h]
  dsimp only
  rw [h2]
theorem due_in {t s : Str} {f : List Str} {a b : Int} {d : D} (h : isDue w (t, s, f, some a, some b) = true) (h2 : val (f.getD (f.length - 1) "") = some d) : missDue w val i acc ((t, s, f, some a, some b) :: r) = missDue w val (i + 1) (acc ++ [(a, b, d)]) r := by
  rw [missDue, if_pos h]
  dsimp only
  rw [h2]
end
theorem range_both : ∀ q ∈ rangesL, (q.2.1 = none ∧ q.2.2 = none) ∨ ∃ a b, q.2.1 = some a ∧ q.2.2 = some b := by
  intro q hq
  simp only [rangesL, List.mem_cons, List.not_mem_nil, or_false] at hq
  rcases hq with rfl | rfl | rfl | rfl | rfl | rfl | rfl | rfl | rfl | rfl <;> first | exact .inl ⟨rfl, rfl⟩ | exact .inr ⟨_, _, rfl, rfl⟩
theorem LineOk.both {l : LineQ} (h : LineOk l) : (l.2.2.2.1 = Option.none ∧ l.2.2.2.2 = Option.none) ∨ ∃ a b, l.2.2.2.1 = some a ∧ l.2.2.2.2 = some b := by
  cases h with
  | none h => exact .inl ⟨rfl, rfl⟩
  | row hq h1 h2 h3 h4 => exact range_both _ hq
  | miss hq h1 h2 h3 h4 => exact range_both _ hq
theorem LineOk.few {l : LineQ} (h : LineOk l) : l.2.2.1.length ≤ 4 := by
  cases h with
  | none h => exact Nat.zero_le _
  | row hq h1 h2 h3 h4 => show _ + 1 ≤ 4; omega
  | miss hq h1 h2 h3 h4 => show _ + 1 ≤ 4; omega
theorem getD_str (l : List Str) {i : Nat} (h : i < l.length) : (l.map D.str)[i]? = some (.str (l.getD i "")) := by
  rw [List.getElem?_map, List.getD_eq_getElem?_getD, List.getElem?_eq_getElem h]; rfl
abbrev invLm (w : Option Str) (vd : D) (val : Str → Option D) (ls : List LineQ) (A : Addr) (μ : Mu) : List D → Rho → Mu → Prop := fun ds ρ' μ' => ∃ i r acc, ds = enumD i (List.map lineD r) ∧ (∀ x ∈ r, LineOk x) ∧ acc.length + r.length ≤ 1000 ∧ missDue w val 0 [] ls = missDue w val i acc r ∧ Sub [("found", .addr A), ("word", optS w), ("values", vd)] ρ' ∧ μ' = (A, .list (acc.map mqD)) :: μ
theorem ct_lmissing {ls : List LineQ} {w : Option Str} {vd : D} {val : Str → Option D} (hls : ∀ l ∈ ls, LineOk l) (hll : ls.length ≤ 1000) (hv : ValOk μ vd val) (hg : G0 cx.g) (C : CxOk (n + 1) cx)
    (h : ∀ l, missDue w val 0 [] ls = .ok l → Q (.list (l.map mqD)) ρ μ) (hk : ∀ k, missDue w val 0 [] ls = .error k → Q (.int k) ρ μ) : OkC cx (.ref 189) [.list (ls.map lineD), optS w, vd] ρ μ Q X := by
  refine enter ["lines", "word", "values"] C (by rw [show cx.g.K = _ from hg]; rfl) (by rw [show cx.g.K = _ from hg]; kernel_rfl) (fun s vs _ => bt3 (fun a b c => BindsTo.of_eq rfl) vs) ?_ ?_ rfl rfl rfl fun cx' hg' C' F' hsc hcl => ?_
  · decide
  · decide
  have hG : G0 cx'.g := hg' ▸ hg
  obtain ⟨outer, hfs⟩ := F'.hfs
  refine Ok.dropQ ?_
  refine x_cons (s_assign (e_listM ?_))
  walk_at "ok"
  intro A
  walk_at "ok"
  refine s_for (T := IsTupleT) C' hfs F'.hf (invLm w vd val ls A μ) ?_ (it_enum C' rfl (by walk_at "nm") (gn_enumerate hG) ?_) ?_ ?_
  · exact ⟨_, _, _, rfl⟩
  · walk_at "ok"
    exact ⟨_, rfl, 0, ls, [], rfl, hls, by rw [List.length_nil]; omega, rfl, Sub.cons rfl (Sub.cons rfl (Sub.cons rfl Sub.nil)), rfl⟩
  · rintro own d ds ρ' μ' ⟨i, r, acc, e, hr, hlr, ha, hsb, rfl⟩
    cases r with
    | nil => cases e
    | cons l r =>
      rw [List.map_cons, enumD] at e
      cases e
      have C'' := C'.hold own
      have hG' : G0 (cx'.hold own).g := hG
      have hsc' : (cx'.hold own).env.scope = _ := hsc
      have hok := hr l (.head _)
      have hr' : ∀ x ∈ r, LineOk x := fun x hx => hr x (.tail _ hx)
      have hboth := hok.both
      have hfew := hok.few
      rw [List.length_cons] at hlr
      have hacc : acc.length ≤ 1000 := by omega
      obtain ⟨t, s, f, fi, la⟩ := l
      dsimp only at hboth hfew
      refine Ok1.sub ?_ hsb
      dsimp only [lineD]
      cases w with
      | none =>
        cases hdue : isDue none (t, s, f, fi, la) with
        | false =>
          rw [due_out hdue] at ha
          unfold isDue at hdue
          dsimp only at hdue
          cases q1 : (s == ("missing" : Str)) with
          | false =>
            dsimp only [optS]
            walk_at "ok"
            refine c_inInts (ns := [2, 3]) ?_
            rw [List.length_map]
            walk_at "ok"
            refine ⟨i + 1, r, acc, rfl, hr', by omega, ha, Sub.cons rfl (Sub.cons rfl (Sub.cons rfl Sub.nil)), rfl⟩
          | true =>
            rw [q1, Bool.true_and] at hdue
            dsimp only [optS]
            walk_at "ok"
            refine c_inInts (ns := [2, 3]) ?_
            rw [List.length_map]
            walk_at "ok"
            refine ⟨i + 1, r, acc, rfl, hr', by omega, ha, Sub.cons rfl (Sub.cons rfl (Sub.cons rfl Sub.nil)), rfl⟩
        | true =>
          have hd2 := hdue
          unfold isDue at hd2
          dsimp only at hd2
          rw [Bool.and_eq_true] at hd2
          obtain ⟨q1, q2⟩ := hd2
          have hf2 : 2 ≤ f.length := by
            simp only [List.any_cons, List.any_nil, Bool.or_false, Bool.or_eq_true, beq_iff_eq] at q2
            omega
          have g1 := getD_str f (i := f.length - 1) (by omega)
          rcases hboth with ⟨rfl, rfl⟩ | ⟨a, b, rfl, rfl⟩
          · rw [due_bad hdue] at ha
            dsimp only [optD]
            dsimp only [optS]
            walk_at "ok"
            refine c_inInts (ns := [2, 3]) ?_
            rw [List.length_map]
            walk_at "ok"
            exact .inr ⟨_, _, _, .head, hk _ ha⟩
          · rcases hv with ⟨rfl, rfl⟩ | ⟨va, es, rfl, h2, h3, rfl⟩
            · rw [due_in hdue rfl] at ha
              dsimp only [optD]
              dsimp only [optS]
              walk_at "ok"
              refine c_inInts (ns := [2, 3]) ?_
              rw [List.length_map]
              walk_at "ok"
              refine sub_last (ds := f.map D.str) (d := .str (f.getD (f.length - 1) "")) (by rw [List.length_map]; omega) (by rw [List.length_map]; exact g1) ?_
              walk_at "ok"
              refine m_append (ds := acc.map mqD) .head (by rw [List.length_map]; omega) ?_
              walk_at "ok"
              refine ⟨i + 1, r, acc ++ [(a, b, .str (f.getD (f.length - 1) ""))], rfl, hr', by rw [List.length_append, List.length_singleton]; omega, ha, Sub.cons rfl (Sub.cons rfl (Sub.cons rfl Sub.nil)), by rw [List.map_append]; rfl⟩
            · cases hlook : es.lookup (f.getD (f.length - 1) "") with
              | none =>
                rw [due_val hdue hlook] at ha
                dsimp only [optD]
                dsimp only [optS]
                walk_at "ok"
                refine c_inInts (ns := [2, 3]) ?_
                rw [List.length_map]
                walk_at "ok"
                refine sub_last (ds := f.map D.str) (d := .str (f.getD (f.length - 1) "")) (by rw [List.length_map]; omega) (by rw [List.length_map]; exact g1) ?_
                walk_at "ok"
                refine c_notInDict (a := va) (es := es) (.tail _ h2) h3 ?_
                rw [hlook]
                refine truthy_bool ?_
                refine ifP rfl ?_
                walk_at "ok"
                exact .inr ⟨_, _, _, .head, hk _ ha⟩
              | some d =>
                rw [due_in hdue hlook] at ha
                dsimp only [optD]
                dsimp only [optS]
                walk_at "ok"
                refine c_inInts (ns := [2, 3]) ?_
                rw [List.length_map]
                walk_at "ok"
                refine sub_last (ds := f.map D.str) (d := .str (f.getD (f.length - 1) "")) (by rw [List.length_map]; omega) (by rw [List.length_map]; exact g1) ?_
                walk_at "ok"
                refine c_notInDict (a := va) (es := es) (.tail _ h2) h3 ?_
                rw [hlook]
                refine truthy_bool ?_
                refine ifN rfl ?_
                walk_at "ok"
                refine sub_last (ds := f.map D.str) (d := .str (f.getD (f.length - 1) "")) (by rw [List.length_map]; omega) (by rw [List.length_map]; exact g1) ?_
                refine sub_dict (.tail _ h2) hlook ?_
                walk_at "ok"
                refine m_append (ds := acc.map mqD) .head (by rw [List.length_map]; omega) ?_
                walk_at "ok"
                refine ⟨i + 1, r, acc ++ [(a, b, d)], rfl, hr', by rw [List.length_append, List.length_singleton]; omega, ha, Sub.cons rfl (Sub.cons rfl (Sub.cons rfl Sub.nil)), by rw [List.map_append]; rfl⟩
      | some w =>
        cases hdue : isDue (some w) (t, s, f, fi, la) with
        | false =>
          rw [due_out hdue] at ha
          unfold isDue at hdue
          dsimp only at hdue
          cases q3 : ((f.length : Int) == 3) with
          | false =>
            have q4 : (((f.map D.str).length : Int) == 3) = false := by rw [List.length_map]; exact q3
            cases q1 : (s == ("missing" : Str)) with
            | false =>
              dsimp only [optS]
              walk_at "ok"
              refine ⟨i + 1, r, acc, rfl, hr', by omega, ha, Sub.cons rfl (Sub.cons rfl (Sub.cons rfl Sub.nil)), rfl⟩
            | true =>
              dsimp only [optS]
              walk_at "ok"
              refine ⟨i + 1, r, acc, rfl, hr', by omega, ha, Sub.cons rfl (Sub.cons rfl (Sub.cons rfl Sub.nil)), rfl⟩
          | true =>
            have q4 : (((f.map D.str).length : Int) == 3) = true := by rw [List.length_map]; exact q3
            have q5 : (f.length : Int) = 3 := by simpa using q3
            have gg := getD_str f (i := 1) (by omega)
            cases q1 : (s == ("missing" : Str)) with
            | false =>
              dsimp only [optS]
              walk_at "ok"
              refine ⟨i + 1, r, acc, rfl, hr', by omega, ha, Sub.cons rfl (Sub.cons rfl (Sub.cons rfl Sub.nil)), rfl⟩
            | true =>
              rw [q1, q3, Bool.true_and, Bool.true_and] at hdue
              dsimp only [optS]
              walk_at "ok"
              refine ⟨i + 1, r, acc, rfl, hr', by omega, ha, Sub.cons rfl (Sub.cons rfl (Sub.cons rfl Sub.nil)), rfl⟩
        | true =>
          have hd2 := hdue
          unfold isDue at hd2
          dsimp only at hd2
          rw [Bool.and_eq_true, Bool.and_eq_true] at hd2
          obtain ⟨q1, q3, q2⟩ := hd2
          have q4 : (((f.map D.str).length : Int) == 3) = true := by rw [List.length_map]; exact q3
          have q5 : (f.length : Int) = 3 := by simpa using q3
          have gg := getD_str f (i := 1) (by omega)
          have g1 := getD_str f (i := f.length - 1) (by omega)
          rcases hboth with ⟨rfl, rfl⟩ | ⟨a, b, rfl, rfl⟩
          · rw [due_bad hdue] at ha
            dsimp only [optD]
            dsimp only [optS]
            walk_at "ok"
            exact .inr ⟨_, _, _, .head, hk _ ha⟩
          · rcases hv with ⟨rfl, rfl⟩ | ⟨va, es, rfl, h2, h3, rfl⟩
            · rw [due_in hdue rfl] at ha
              dsimp only [optD]
              dsimp only [optS]
              walk_at "ok"
              refine sub_last (ds := f.map D.str) (d := .str (f.getD (f.length - 1) "")) (by rw [List.length_map]; omega) (by rw [List.length_map]; exact g1) ?_
              walk_at "ok"
              refine m_append (ds := acc.map mqD) .head (by rw [List.length_map]; omega) ?_
              walk_at "ok"
              refine ⟨i + 1, r, acc ++ [(a, b, .str (f.getD (f.length - 1) ""))], rfl, hr', by rw [List.length_append, List.length_singleton]; omega, ha, Sub.cons rfl (Sub.cons rfl (Sub.cons rfl Sub.nil)), by rw [List.map_append]; rfl⟩
            · cases hlook : es.lookup (f.getD (f.length - 1) "") with
              | none =>
                rw [due_val hdue hlook] at ha
                dsimp only [optD]
                dsimp only [optS]
                walk_at "ok"
                refine sub_last (ds := f.map D.str) (d := .str (f.getD (f.length - 1) "")) (by rw [List.length_map]; omega) (by rw [List.length_map]; exact g1) ?_
                walk_at "ok"
                refine c_notInDict (a := va) (es := es) (.tail _ h2) h3 ?_
                rw [hlook]
                refine truthy_bool ?_
                refine ifP rfl ?_
                walk_at "ok"
                exact .inr ⟨_, _, _, .head, hk _ ha⟩
              | some d =>
                rw [due_in hdue hlook] at ha
                dsimp only [optD]
                dsimp only [optS]
                walk_at "ok"
                refine sub_last (ds := f.map D.str) (d := .str (f.getD (f.length - 1) "")) (by rw [List.length_map]; omega) (by rw [List.length_map]; exact g1) ?_
                walk_at "ok"
                refine c_notInDict (a := va) (es := es) (.tail _ h2) h3 ?_
                rw [hlook]
                refine truthy_bool ?_
                refine ifN rfl ?_
                walk_at "ok"
                refine sub_last (ds := f.map D.str) (d := .str (f.getD (f.length - 1) "")) (by rw [List.length_map]; omega) (by rw [List.length_map]; exact g1) ?_
                refine sub_dict (.tail _ h2) hlook ?_
                walk_at "ok"
                refine m_append (ds := acc.map mqD) .head (by rw [List.length_map]; omega) ?_
                walk_at "ok"
                refine ⟨i + 1, r, acc ++ [(a, b, d)], rfl, hr', by rw [List.length_append, List.length_singleton]; omega, ha, Sub.cons rfl (Sub.cons rfl (Sub.cons rfl Sub.nil)), by rw [List.map_append]; rfl⟩
  · rintro ρ' μ' ⟨i, r, acc, e, hr, hlr, ha, hsb, rfl⟩
    cases r with
    | cons => cases e
    | nil =>
      rw [missDue] at ha
      refine Ok.sub ?_ hsb
      refine Ok.freeze (x := "found") rfl .head ?_
      walk_at "ok"
      exact .inl (h _ ha)
end

section
variable {n : Nat} {cx : Cx} {ρ : Rho} {μ : Mu} {P P' : Know} {s s' : Shared} {X : Ex → Rho → Mu → Prop} {Q : D → Rho → Mu → Prop} {QF : FlowD → Rho → Mu → Prop} {pos : Pos}
abbrev QS := Int × Int × List Str × Int
def qsD (q : QS) : D := .tuple [.int q.1, .int q.2.1, .list (q.2.2.1.map D.str), .int q.2.2.2]
def rangedDue (many : Int) : Nat → List QS → List LineQ → Except Int (List QS)
  | _, acc, [] => .ok acc
  | i, acc, l :: r => if l.2.1 == "row" then (if ((l.2.2.1.length : Int) != many) then .error ((i : Int) + 1) else match l.2.2.2.1, l.2.2.2.2 with
      | some a, some b => rangedDue many (i + 1) (acc ++ [(a, b, l.2.2.1, (i : Int) + 1)]) r
      | _, _ => .error ((i : Int) + 1)) else rangedDue many (i + 1) acc r
section
variable {many : Int} {i : Nat} {acc : List QS} {r : List LineQ} {t s : Str} {f : List Str} {fi la : Option Int}
theorem rdue_out (h : (s == ("row" : Str)) = false) : rangedDue many i acc ((t, s, f, fi, la) :: r) = rangedDue many (i + 1) acc r := by rw [rangedDue, if_neg (by rw [h]; exact Bool.false_ne_true)]
theorem rdue_ne (h : (s == ("row" : Str)) = true) (h2 : ((f.length : Int) != many) = true) : rangedDue many i acc ((t, s, f, fi, la) :: r) = .error ((i : Int) + 1) := by rw [rangedDue, if_pos h, if_pos h2]
theorem rdue_bad (h : (s == ("row" : Str)) = true) (h2 : ((f.length : Int) != many) = false) : rangedDue many i acc ((t, s, f, none, none) :: r) = .error ((i : Int) + 1) := by rw [rangedDue, if_pos h, if_neg (by rw [h2]; exact Bool.false_ne_true)]
theorem rdue_in {a b : Int} (h : (s == ("row" : Str)) = true) (h2 : ((f.length : Int) != many) = false) : rangedDue many i acc ((t, s, f, some a, some b) :: r) = rangedDue many (i + 1) (acc ++ [(a, b, f, (i : Int) + 1)]) r := by rw [rangedDue, if_pos h, if_neg (by rw [h2]; exact Bool.false_ne_true)]
end
abbrev invLr (many : Int) (ls : List LineQ) (A : Addr) (μ : Mu) : List D → Rho → Mu → Prop := fun ds ρ' μ' => ∃ i r acc, ds = enumD i (List.map lineD r) ∧ (∀ x ∈ r, LineOk x) ∧ acc.length + r.length ≤ 1000 ∧ rangedDue many 0 [] ls = rangedDue many i acc r ∧ Sub [("found", .addr A), ("many", .int many)] ρ' ∧ μ' = (A, .list (acc.map qsD)) :: μ
theorem ct_lranged {ls : List LineQ} {many : Int} (hls : ∀ l ∈ ls, LineOk l) (hll : ls.length ≤ 1000) (hg : G0 cx.g) (C : CxOk (n + 1) cx)
    (h : ∀ l, rangedDue many 0 [] ls = .ok l → Q (.list (l.map qsD)) ρ μ) (hk : ∀ k, rangedDue many 0 [] ls = .error k → Q (.int k) ρ μ) : OkC cx (.ref 196) [.list (ls.map lineD), .int many] ρ μ Q X := by
  refine enter ["lines", "many"] C (by rw [show cx.g.K = _ from hg]; rfl) (by rw [show cx.g.K = _ from hg]; kernel_rfl) (fun s vs _ => bt2 (fun a b => BindsTo.of_eq rfl) vs) ?_ ?_ rfl rfl rfl fun cx' hg' C' F' hsc hcl => ?_
  · decide
  · decide
  have hG : G0 cx'.g := hg' ▸ hg
  obtain ⟨outer, hfs⟩ := F'.hfs
  refine Ok.dropQ ?_
  refine x_cons (s_assign (e_listM ?_))
  walk_at "ok"
  intro A
  walk_at "ok"
  refine s_for (T := IsTupleT) C' hfs F'.hf (invLr many ls A μ) ?_ (it_enum C' rfl (by walk_at "nm") (gn_enumerate hG) ?_) ?_ ?_
  · exact ⟨_, _, _, rfl⟩
  · walk_at "ok"
    exact ⟨_, rfl, 0, ls, [], rfl, hls, by rw [List.length_nil]; omega, rfl, Sub.cons rfl (Sub.cons rfl Sub.nil), rfl⟩
  · rintro own d ds ρ' μ' ⟨i, r, acc, e, hr, hlr, ha, hsb, rfl⟩
    cases r with
    | nil => cases e
    | cons l r =>
      rw [List.map_cons, enumD] at e
      cases e
      have C'' := C'.hold own
      have hG' : G0 (cx'.hold own).g := hG
      have hsc' : (cx'.hold own).env.scope = _ := hsc
      have hok := hr l (.head _)
      have hr' : ∀ x ∈ r, LineOk x := fun x hx => hr x (.tail _ hx)
      have hboth := hok.both
      have hfew := hok.few
      rw [List.length_cons] at hlr
      have hacc : acc.length ≤ 1000 := by omega
      obtain ⟨t, s, f, fi, la⟩ := l
      dsimp only at hboth hfew
      refine Ok1.sub ?_ hsb
      dsimp only [lineD]
      cases q1 : (s == ("row" : Str)) with
      | false =>
        rw [rdue_out q1] at ha
        walk_at "ok"
        exact ⟨i + 1, r, acc, rfl, hr', by omega, ha, Sub.cons rfl (Sub.cons rfl Sub.nil), rfl⟩
      | true =>
        cases q2 : ((f.length : Int) != many) with
        | true =>
          have q3 : (((f.map D.str).length : Int) != many) = true := by rw [List.length_map]; exact q2
          rw [rdue_ne q1 q2] at ha
          walk_at "ok"
          exact .inr ⟨_, _, _, .head, hk _ ha⟩
        | false =>
          have q3 : (((f.map D.str).length : Int) != many) = false := by rw [List.length_map]; exact q2
          rcases hboth with ⟨rfl, rfl⟩ | ⟨a, b, rfl, rfl⟩
          · rw [rdue_bad q1 q2] at ha
            dsimp only [optD]
            walk_at "ok"
            exact .inr ⟨_, _, _, .head, hk _ ha⟩
          · rw [rdue_in q1 q2] at ha
            dsimp only [optD]
            walk_at "ok"
            refine m_append (ds := acc.map qsD) .head (by rw [List.length_map]; omega) ?_
            walk_at "ok"
            exact ⟨i + 1, r, acc ++ [(a, b, f, (i : Int) + 1)], rfl, hr', by rw [List.length_append, List.length_singleton]; omega, ha, Sub.cons rfl (Sub.cons rfl Sub.nil), by rw [List.map_append]; rfl⟩
  · rintro ρ' μ' ⟨i, r, acc, e, hr, hlr, ha, hsb, rfl⟩
    cases r with
    | cons => cases e
    | nil =>
      rw [rangedDue] at ha
      refine Ok.sub ?_ hsb
      refine Ok.freeze (x := "found") rfl .head ?_
      walk_at "ok"
      exact .inl (h _ ha)
end

section
variable {n : Nat} {cx : Cx} {ρ : Rho} {μ : Mu} {P P' : Know} {s s' : Shared} {X : Ex → Rho → Mu → Prop} {Q : D → Rho → Mu → Prop} {QF : FlowD → Rho → Mu → Prop} {pos : Pos}
abbrev WS := Int × Int × Str × Int
def wsD (q : WS) : D := .tuple [.int q.1, .int q.2.1, .str q.2.2.1, .int q.2.2.2]
def wsT (q : WS) : Tri := (q.1, q.2.1, q.2.2.2)
def wordedDue (w : Str) : Nat → List WS → List LineQ → Except Int (List WS)
  | _, acc, [] => .ok acc
  | i, acc, l :: r => if l.2.1 == "row" then (if decide ((l.2.2.1.length : Int) < 2) then .error ((i : Int) + 1) else match l.2.2.2.1, l.2.2.2.2 with
      | some a, some b => if l.2.2.1.getD 1 "" == w then (if ((l.2.2.1.length : Int) != 3) then .error ((i : Int) + 1) else wordedDue w (i + 1) (acc ++ [(a, b, l.2.2.1.getD 2 "", (i : Int) + 1)]) r) else wordedDue w (i + 1) acc r
      | _, _ => .error ((i : Int) + 1)) else wordedDue w (i + 1) acc r
section
variable {w : Str} {i : Nat} {acc : List WS} {r : List LineQ} {t s : Str} {f : List Str} {fi la : Option Int}
theorem wdue_out (h : (s == ("row" : Str)) = false) : wordedDue w i acc ((t, s, f, fi, la) :: r) = wordedDue w (i + 1) acc r := by rw [wordedDue, if_neg (by rw [h]; exact Bool.false_ne_true)]
theorem wdue_lt (h : (s == ("row" : Str)) = true) (h2 : decide ((f.length : Int) < 2) = true) : wordedDue w i acc ((t, s, f, fi, la) :: r) = .error ((i : Int) + 1) := by rw [wordedDue, if_pos h, if_pos h2]
theorem wdue_bad (h : (s == ("row" : Str)) = true) (h2 : decide ((f.length : Int) < 2) = false) : wordedDue w i acc ((t, s, f, none, none) :: r) = .error ((i : Int) + 1) := by rw [wordedDue, if_pos h, if_neg (by rw [h2]; exact Bool.false_ne_true)]
theorem wdue_ne {a b : Int} (h : (s == ("row" : Str)) = true) (h2 : decide ((f.length : Int) < 2) = false) (h3 : (f.getD 1 "" == w) = false) : wordedDue w i acc ((t, s, f, some a, some b) :: r) = wordedDue w (i + 1) acc r := by
  rw [wordedDue, if_pos h, if_neg (by rw [h2]; exact Bool.false_ne_true)]
  dsimp only
  rw [if_neg (by rw [h3]; exact Bool.false_ne_true)]
theorem wdue_odd {a b : Int} (h : (s == ("row" : Str)) = true) (h2 : decide ((f.length : Int) < 2) = false) (h3 : (f.getD 1 "" == w) = true) (h4 : ((f.length : Int) != 3) = true) : wordedDue w i acc ((t, s, f, some a, some b) :: r) = .error ((i : Int) + 1) := by
  rw [wordedDue, if_pos h, if_neg (by rw [h2]; exact Bool.false_ne_true)]
  dsimp only
  rw [if_pos h3, if_pos h4]
theorem wdue_in {a b : Int} (h : (s == ("row" : Str)) = true) (h2 : decide ((f.length : Int) < 2) = false) (h3 : (f.getD 1 "" == w) = true) (h4 : ((f.length : Int) != 3) = false) : wordedDue w i acc ((t, s, f, some a, some b) :: r) = wordedDue w (i + 1) (acc ++ [(a, b, f.getD 2 "", (i : Int) + 1)]) r := by
  rw [wordedDue, if_pos h, if_neg (by rw [h2]; exact Bool.false_ne_true)]
  dsimp only
  rw [if_pos h3, if_neg (by rw [h4]; exact Bool.false_ne_true)]
end
/-- neighbours that meet -/
def metL : List Tri → List Tri → List Int
  | a :: as, b :: bs => if decide (b.1 ≤ a.2.1) then max a.2.2 b.2.2 :: metL as bs else metL as bs
  | _, _ => []
theorem metL_length : ∀ (l k : List Tri), (metL l k).length ≤ l.length
  | [], _ => Nat.le_refl _
  | _ :: _, [] => Nat.zero_le _
  | a :: as, b :: bs => by
    rw [metL]
    have := metL_length as bs
    split
    · rw [List.length_cons, List.length_cons]; omega
    · rw [List.length_cons]; omega
theorem okTs_one {c : Expr} {QB : Bool → Rho → Mu → Prop} (h : OkT cx c ρ μ QB X) : OkTs cx [c] ρ μ QB X := h
abbrev invLw (w : Str) (ls : List LineQ) (A : Addr) (μ : Mu) : List D → Rho → Mu → Prop := fun ds ρ' μ' => ∃ i r acc, ds = enumD i (List.map lineD r) ∧ (∀ x ∈ r, LineOk x) ∧ acc.length + r.length < 64 ∧ wordedDue w 0 [] ls = wordedDue w i acc r ∧ Sub [("found", .addr A), ("word", .str w)] ρ' ∧ μ' = (A, .list (acc.map wsD)) :: μ
theorem ct_lworded {ls : List LineQ} {w : Str} (hls : ∀ l ∈ ls, LineOk l) (hll : ls.length < 64) (hg : G0 cx.g) (C : CxOk (n + 1) cx)
    (h : ∀ l, wordedDue w 0 [] ls = .ok l → metL (sort3 (l.map wsT)) ((sort3 (l.map wsT)).drop 1) = [] → Q (.list (l.map wsD)) ρ μ)
    (hm : ∀ l k r, wordedDue w 0 [] ls = .ok l → metL (sort3 (l.map wsT)) ((sort3 (l.map wsT)).drop 1) = k :: r → Q (.int k) ρ μ)
    (hk : ∀ k, wordedDue w 0 [] ls = .error k → Q (.int k) ρ μ) : OkC cx (.ref 201) [.list (ls.map lineD), .str w] ρ μ Q X := by
  refine enter ["lines", "word"] C (by rw [show cx.g.K = _ from hg]; rfl) (by rw [show cx.g.K = _ from hg]; kernel_rfl) (fun s vs _ => bt2 (fun a b => BindsTo.of_eq rfl) vs) ?_ ?_ rfl rfl rfl fun cx' hg' C' F' hsc hcl => ?_
  · decide
  · decide
  have hG : G0 cx'.g := hg' ▸ hg
  obtain ⟨outer, hfs⟩ := F'.hfs
  refine Ok.dropQ ?_
  refine x_cons (s_assign (e_listM ?_))
  walk_at "ok"
  intro A
  walk_at "ok"
  refine s_for (T := IsTupleT) C' hfs F'.hf (invLw w ls A μ) ?_ (it_enum C' rfl (by walk_at "nm") (gn_enumerate hG) ?_) ?_ ?_
  · exact ⟨_, _, _, rfl⟩
  · walk_at "ok"
    exact ⟨_, rfl, 0, ls, [], rfl, hls, by rw [List.length_nil]; omega, rfl, Sub.cons rfl (Sub.cons rfl Sub.nil), rfl⟩
  · rintro own d ds ρ' μ' ⟨i, r, acc, e, hr, hlr, ha, hsb, rfl⟩
    cases r with
    | nil => cases e
    | cons l r =>
      rw [List.map_cons, enumD] at e
      cases e
      have C'' := C'.hold own
      have hG' : G0 (cx'.hold own).g := hG
      have hsc' : (cx'.hold own).env.scope = _ := hsc
      have hok := hr l (.head _)
      have hr' : ∀ x ∈ r, LineOk x := fun x hx => hr x (.tail _ hx)
      have hboth := hok.both
      have hfew := hok.few
      rw [List.length_cons] at hlr
      have hacc : acc.length ≤ 1000 := by omega
      obtain ⟨t, s, f, fi, la⟩ := l
      dsimp only at hboth hfew
      refine Ok1.sub ?_ hsb
      dsimp only [lineD]
      cases q1 : (s == ("row" : Str)) with
      | false =>
        rw [wdue_out q1] at ha
        walk_at "ok"
        exact ⟨i + 1, r, acc, rfl, hr', by omega, ha, Sub.cons rfl (Sub.cons rfl Sub.nil), rfl⟩
      | true =>
        cases q2 : decide ((f.length : Int) < 2) with
        | true =>
          have q3 : decide (((f.map D.str).length : Int) < 2) = true := by rw [List.length_map]; exact q2
          rw [wdue_lt q1 q2] at ha
          walk_at "ok"
          exact .inr ⟨_, _, _, .head, hk _ ha⟩
        | false =>
          have q3 : decide (((f.map D.str).length : Int) < 2) = false := by rw [List.length_map]; exact q2
          have q4 : 2 ≤ f.length := by rw [decide_eq_false_iff_not] at q2; omega
          have g1 := getD_str f (i := 1) (by omega)
          rcases hboth with ⟨rfl, rfl⟩ | ⟨a, b, rfl, rfl⟩
          · rw [wdue_bad q1 q2] at ha
            dsimp only [optD]
            walk_at "ok"
            exact .inr ⟨_, _, _, .head, hk _ ha⟩
          · dsimp only [optD]
            cases q5 : (f.getD 1 "" == w) with
            | false =>
              rw [wdue_ne q1 q2 q5] at ha
              walk_at "ok"
              exact ⟨i + 1, r, acc, rfl, hr', by omega, ha, Sub.cons rfl (Sub.cons rfl Sub.nil), rfl⟩
            | true =>
              cases q6 : ((f.length : Int) != 3) with
              | true =>
                have q7 : (((f.map D.str).length : Int) != 3) = true := by rw [List.length_map]; exact q6
                rw [wdue_odd q1 q2 q5 q6] at ha
                walk_at "ok"
                exact .inr ⟨_, _, _, .head, hk _ ha⟩
              | false =>
                have q7 : (((f.map D.str).length : Int) != 3) = false := by rw [List.length_map]; exact q6
                have q8 : (f.length : Int) = 3 := by simpa using q6
                have g2 := getD_str f (i := 2) (by omega)
                rw [wdue_in q1 q2 q5 q6] at ha
                walk_at "ok"
                refine m_append (ds := acc.map wsD) .head (by rw [List.length_map]; omega) ?_
                walk_at "ok"
                exact ⟨i + 1, r, acc ++ [(a, b, f.getD 2 "", (i : Int) + 1)], rfl, hr', by rw [List.length_append, List.length_singleton]; omega, ha, Sub.cons rfl (Sub.cons rfl Sub.nil), by rw [List.map_append]; rfl⟩
  · rintro ρ' μ' ⟨i, r, acc, e, hr, hlr, ha, hsb, rfl⟩
    cases r with
    | cons => cases e
    | nil =>
      rw [wordedDue] at ha
      rw [List.length_nil] at hlr
      refine Ok.sub ?_ hsb
      refine Ok.freeze (x := "found") rfl .head ?_
      walk_at "ok"
      refine e_compMap (T := fun _ => True) acc wsD (fun q => triD (wsT q)) C' trivial (cl := []) rfl (by decide) rfl (by decide) (by walk_at "rl") (by omega) ?_ (it_list ?_)
      · intro cx₂ hg₂ C₂ hn₂ hc₂ A₂ acc₂ f hf
        have hG₂ : G0 cx₂.g := hg₂ ▸ hG
        obtain ⟨x, y, z, w⟩ := f
        dsimp only [wsD]
        walk_at "ok"
        exact ⟨rfl, rfl⟩
      · walk_at "ok"
        refine ⟨_, rfl, rfl, rfl, ?_⟩
        walk_at "ok"
        rw [show acc.map (fun q => triD (wsT q)) = (acc.map wsT).map triD by rw [List.map_map]; rfl]
        refine b_sorted (by rw [List.length_map]; omega) ?_
        walk_at "ok"
        have hS : (sort3 (acc.map wsT)).length < 64 := by rw [sort3_length, List.length_map]; omega
        generalize hSe : sort3 (acc.map wsT) = S at hS ⊢
        refine s_comp (T := IsTupleT) (cl := []) C' ⟨_, _, _, rfl⟩ (by walk_at "s2") rfl (by decide) rfl (by decide) (by walk_at "rl")
          (fun ds acc μ' => ∃ as bs ms, ds = zipD (as.map triD) (bs.map triD) ∧ acc = ms.map D.int ∧ as.length + ms.length ≤ 100 ∧ metL S (S.drop 1) = ms ++ metL as bs ∧ μ' = μ) ?_ ?_ (by walk_at "nm") ?_
        · rintro ds acc μ' ⟨as, bs, ms, _, rfl, hl, _, _⟩
          rw [List.length_map]; omega
        · rintro cx₂ hg₂ C₂ hn₂ hc₂ A₂ d ds acc₂ μ' ⟨as, bs, ms, e, rfl, hl, hm2, rfl⟩
          have hG₂ : G0 cx₂.g := hg₂ ▸ hG
          cases as with
          | nil => cases e
          | cons a as =>
            cases bs with
            | nil => cases e
            | cons b bs =>
              obtain ⟨a1, a2, a3⟩ := a
              obtain ⟨b1, b2, b3⟩ := b
              rw [List.length_cons] at hl
              rw [List.map_cons, List.map_cons] at e
              dsimp only [zipD, List.zipWith] at e
              cases e
              dsimp only [triD]
              rw [metL] at hm2
              walk_at "ok"
              refine okTs_one ?_
              cases q : decide (b1 ≤ a2) with
              | true =>
                rw [if_pos q] at hm2
                walk_at "ok"
                refine ⟨_, rfl, as, bs, ms ++ [max a3 b3], rfl, by rw [List.map_append]; rfl, by rw [List.length_append, List.length_singleton]; omega, by rw [hm2, List.append_assoc]; rfl, rfl⟩
              | false =>
                rw [if_neg (by rw [q]; exact Bool.false_ne_true)] at hm2
                walk_at "ok"
                exact ⟨_, rfl, as, bs, ms, rfl, rfl, by omega, hm2, rfl⟩
        · refine it_zip C' rfl (by walk_at "nm") (gn_zip hG) ?_
          walk_at "ok"
          refine ⟨_, rfl, ?_⟩
          walk_at "ok"
          refine ⟨1, rfl, ?_⟩
          walk_at "ok"
          refine sl_from (k := 1) (by rw [List.length_map]; omega) ?_
          refine ⟨_, rfl, ⟨S, S.drop 1, [], by rw [List.map_drop], rfl, by rw [List.length_nil]; omega, rfl, rfl⟩, ?_⟩
          rintro acc₂ μ' ⟨as, bs, ms, e, rfl, hl, hm2, rfl⟩
          have hz : metL as bs = [] := by
            cases as with
            | nil => rfl
            | cons a as =>
              cases bs with
              | nil => rfl
              | cons b bs => cases e
          rw [hz, List.append_nil] at hm2
          have hz2 : ms.length ≤ 100 := by omega
          cases ms with
          | nil =>
            walk_at "ok"
            refine c_neNil C' ?_
            refine truthy_bool ?_
            refine ifN rfl ?_
            walk_at "ok"
            exact .inl (h _ ha (by rw [hSe]; exact hm2))
          | cons k ms =>
            walk_at "ok"
            refine c_neNil C' ?_
            refine truthy_bool ?_
            refine ifP rfl ?_
            walk_at "ok"
            exact .inl (hm _ k ms ha (by rw [hSe]; exact hm2))
end

section
variable {n : Nat} {cx : Cx} {ρ : Rho} {μ : Mu} {P P' : Know} {s s' : Shared} {X : Ex → Rho → Mu → Prop} {Q : D → Rho → Mu → Prop} {QF : FlowD → Rho → Mu → Prop} {pos : Pos}
theorem ct_text {b : Array UInt8} (hz : b.size ≤ 100000) (hg : G0 cx.g) (C : CxOk (n + 1) cx) (h : Q (.str (asciiS b)) ρ μ) : OkC cx (.ref 206) [.bytes b] ρ μ Q X := by
  refine enter ["octets"] C (by rw [show cx.g.K = _ from hg]; rfl) (by rw [show cx.g.K = _ from hg]; kernel_rfl) (fun s vs _ => bt1 (fun a => BindsTo.of_eq rfl) vs) ?_ ?_ rfl rfl rfl fun cx' hg' C' F' hsc hcl => ?_
  · decide
  · decide
  have hG : G0 cx'.g := hg' ▸ hg
  walk_at "ok"
  refine e_compMap (T := fun _ => True) b.toList (fun c => D.int (c.toNat : Int)) (fun c => D.str ⟨#[c.toNat]⟩) C' trivial (cl := []) rfl (by decide) rfl (by decide) (by walk_at "rl") (by rw [Array.length_toList]; omega) ?_ (it_bytes ?_)
  · intro cx₂ hg₂ C₂ hn₂ hc₂ A acc c hc
    have hG₂ : G0 cx₂.g := hg₂ ▸ hG
    walk_at "ok"
    refine b_chr (by omega) (by have := c.toNat_lt; omega) ?_
    exact ⟨by simp, rfl⟩
  · walk_at "ok"
    refine ⟨b, rfl, rfl, rfl, ?_⟩
    walk_at "ok"
    have e : b.toList.map (fun c => D.str ⟨#[c.toNat]⟩) = (signB b).map D.str := by unfold signB; rw [List.map_map]; rfl
    rw [e]
    refine m_join (xs := signB b) ?_ ?_
    · rw [signB_sum]; show b.size + _ * 0 ≤ _; omega
    · walk_at "ok"
      exact h
theorem ct_told {f : Addr} {fo : Obj} {fd : FuncData} (hm : (f, MO.obj fo) ∈ μ) (hd : fo.data = .func fd) (hg : G0 cx.g) (C : CxOk (n + 1) cx)
    (h : ∀ cx' ρ', cx'.g = cx.g → CxOk n cx' → OkC cx' (.ref f) [] ρ' μ (fun d _ μ' => ∃ ds, d = .list ds ∧ ds.length ≤ 1000000 ∧ Q (.list ds) ρ μ') (fun x _ μ' => x.cls = 57 ∧ ∃ k, x.told = .int k ∧ Q (.int k) ρ μ')) : OkC cx (.ref 213) [.addr f] ρ μ Q X := by
  refine enter ["asked"] C (by rw [show cx.g.K = _ from hg]; rfl) (by rw [show cx.g.K = _ from hg]; kernel_rfl) (fun s vs _ => bt1 (fun a => BindsTo.of_eq rfl) vs) ?_ ?_ rfl rfl rfl fun cx' hg' C' F' hsc hcl => ?_
  · decide
  · decide
  have hG : G0 cx'.g := hg' ▸ hg
  walk_at "ok"
  refine s_tryTold C' F' (uk_row hG) (by walk_at "nm") (gk_BadRow hG) (by walk_at "nm") ?_
  walk_at "ok"
  refine e_callL C' (by walk_at "nm") rfl hm hd ?_
  refine fun P s vs S hv => wpAny_mono (h cx' _ hg' C' P s vs S hv) (fun v s' ⟨d, ρ₁, μ₁, P₁, l₁, S₁, r₁, ds, q, hz, q₁⟩ => ?_) fun e s' ⟨x, st, ρ₁, μ₁, P₁, l₁, S₁, X₁, q1, k, q2, q₁⟩ => ?_
  · subst q
    refine ⟨_, ρ₁, μ₁, P₁, l₁, S₁, r₁, ?_⟩
    walk_at "ok"
    refine b_listL hz ?_
    exact q₁
  · refine ⟨x, st, ρ₁, μ₁, P₁, l₁, S₁, X₁, q1, fun P v hv => ?_, ?_⟩
    · rw [q2] at hv
      cases hv
      rfl
    · rw [q2]
      exact q₁
theorem ct_plainI {k a : Int} (hg : G0 cx.g) (C : CxOk (n + 1) cx) (h : Q (.int k) ρ μ) : OkC cx (.ref 218) [.int k, .int a] ρ μ Q X := by
  refine enter ["told", "at"] C (by rw [show cx.g.K = _ from hg]; rfl) (by rw [show cx.g.K = _ from hg]; kernel_rfl) (fun s vs _ => bt2 (fun a b => BindsTo.of_eq rfl) vs) ?_ ?_ rfl rfl rfl fun cx' hg' C' F' hsc hcl => ?_
  · decide
  · decide
  have hG : G0 cx'.g := hg' ▸ hg
  have htt : (true : Bool) = true := rfl
  walk_at "ok"
  exact h
def plainQ (q : Quad) : QS := (q.1, q.2.1, q.2.2.1.map asciiS, q.2.2.2)
def plainW (q : WQ) : WS := (q.1, q.2.1, asciiS q.2.2.1, q.2.2.2)
abbrev invPq (l : List Quad) (A : Addr) (μ : Mu) : List D → Rho → Mu → Prop := fun ds ρ' μ' => ∃ r acc, ds = List.map quadD r ∧ l = acc ++ r ∧ Sub [("found", .addr A), ("at", .int 2)] ρ' ∧ μ' = (A, .list ((acc.map plainQ).map qsD)) :: μ
theorem ct_plainQ {l : List Quad} (hl : l.length ≤ 1000) (hz : ∀ q ∈ l, q.2.2.1.length ≤ 20000 ∧ ∀ f ∈ q.2.2.1, f.size ≤ 10000) (hg : G0 cx.g) (C : CxOk (n + 2) cx) (h : Q (.list ((l.map plainQ).map qsD)) ρ μ) : OkC cx (.ref 218) [.list (l.map quadD), .int 2] ρ μ Q X := by
  refine enter ["told", "at"] C (by rw [show cx.g.K = _ from hg]; rfl) (by rw [show cx.g.K = _ from hg]; kernel_rfl) (fun s vs _ => bt2 (fun a b => BindsTo.of_eq rfl) vs) ?_ ?_ rfl rfl rfl fun cx' hg' C' F' hsc hcl => ?_
  · decide
  · decide
  have hG : G0 cx'.g := hg' ▸ hg
  obtain ⟨outer, hfs⟩ := F'.hfs
  iterate 13 walk_at "ok1"
  refine x_cons (s_assign (e_listM ?_))
  walk_at "ok"
  intro A
  walk_at "ok"
  refine s_for (T := fun _ => True) C' hfs F'.hf (invPq l A μ) trivial (it_list ?_) ?_ ?_
  · walk_at "ok"
    exact ⟨_, rfl, l, [], rfl, rfl, Sub.cons rfl (Sub.cons rfl Sub.nil), rfl⟩
  · rintro own d ds ρ' μ' ⟨r, acc, e, ha, hsb, rfl⟩
    cases r with
    | nil => cases e
    | cons q r =>
      have hq := hz q (by rw [ha]; exact List.mem_append_right _ (.head _))
      have hacc : acc.length ≤ 1000 := by rw [ha, List.length_append] at hl; omega
      obtain ⟨x, y, fs, k⟩ := q
      dsimp only at hq
      obtain ⟨hq1, hq2⟩ := hq
      rw [List.map_cons] at e
      cases e
      have C'' := C'.hold own
      have hG' : G0 (cx'.hold own).g := hG
      have hsc' : (cx'.hold own).env.scope = _ := hsc
      refine Ok1.sub ?_ hsb
      dsimp only [quadD]
      walk_at "ok"
      refine e_compMap (T := fun _ => True) fs D.bytes (fun b => D.str (asciiS b)) C'' trivial (cl := []) rfl (by decide) rfl (by decide) (by walk_at "rl") (by omega) ?_ (it_list ?_)
      · intro cx₂ hg₂ C₂ hn₂ hc₂ A₂ acc₂ f hf
        have hG₂ : G0 cx₂.g := hg₂ ▸ hG'
        have hfz := hq2 f hf
        walk_at "ok"
        refine ct_text (n := n) (by omega) hG₂ C₂ ?_
        exact ⟨rfl, rfl⟩
      walk_at "ok"
      refine ⟨_, rfl, rfl, rfl, ?_⟩
      walk_at "ok"
      refine ⟨_, rfl, ?_⟩
      walk_at "ok"
      refine sl_tupleUpto (k := 2) (by show 2 < 4; decide) (by show 4 ≤ 1000000; decide) ?_
      walk_at "ok"
      refine o_catT (by simp) (by simp) (by show 2 + 1 ≤ 1000000; decide) ?_
      walk_at "ok"
      refine ⟨_, rfl, ?_⟩
      walk_at "ok"
      refine sl_tupleFrom (k := 3) (by decide) (by show 3 ≤ 4; decide) (by show 4 ≤ 1000000; decide) ?_
      walk_at "ok"
      refine o_catT (by simp) (by simp) (by show 3 + 1 ≤ 1000000; decide) ?_
      walk_at "ok"
      refine m_append (ds := (acc.map plainQ).map qsD) .head (by rw [List.length_map, List.length_map]; omega) ?_
      walk_at "ok"
      refine ⟨r, acc ++ [(x, y, fs, k)], rfl, by rw [ha, List.append_assoc]; rfl, Sub.cons rfl (Sub.cons rfl Sub.nil), ?_⟩
      rw [List.map_append, List.map_append, List.map_cons, List.map_nil, List.map_cons, List.map_nil]
      dsimp only [plainQ, qsD]
      rw [show fs.map (fun b => D.str (asciiS b)) = (fs.map asciiS).map D.str by rw [List.map_map]; rfl]
      rfl
  · rintro ρ' μ' ⟨r, acc, e, ha, hsb, rfl⟩
    cases r with
    | cons => cases e
    | nil =>
      rw [List.append_nil] at ha
      subst ha
      refine Ok.sub ?_ hsb
      refine Ok.freeze (x := "found") rfl .head ?_
      walk_at "ok"
      exact h
abbrev invPw (l : List WQ) (A : Addr) (μ : Mu) : List D → Rho → Mu → Prop := fun ds ρ' μ' => ∃ r acc, ds = List.map wqD r ∧ l = acc ++ r ∧ Sub [("found", .addr A), ("at", .int 2)] ρ' ∧ μ' = (A, .list ((acc.map plainW).map wsD)) :: μ
theorem ct_plainW {l : List WQ} (hl : l.length ≤ 1000) (hz : ∀ q ∈ l, q.2.2.1.size ≤ 10000) (hg : G0 cx.g) (C : CxOk (n + 2) cx) (h : Q (.list ((l.map plainW).map wsD)) ρ μ) : OkC cx (.ref 218) [.list (l.map wqD), .int 2] ρ μ Q X := by
  refine enter ["told", "at"] C (by rw [show cx.g.K = _ from hg]; rfl) (by rw [show cx.g.K = _ from hg]; kernel_rfl) (fun s vs _ => bt2 (fun a b => BindsTo.of_eq rfl) vs) ?_ ?_ rfl rfl rfl fun cx' hg' C' F' hsc hcl => ?_
  · decide
  · decide
  have hG : G0 cx'.g := hg' ▸ hg
  obtain ⟨outer, hfs⟩ := F'.hfs
  iterate 13 walk_at "ok1"
  refine x_cons (s_assign (e_listM ?_))
  walk_at "ok"
  intro A
  walk_at "ok"
  refine s_for (T := fun _ => True) C' hfs F'.hf (invPw l A μ) trivial (it_list ?_) ?_ ?_
  · walk_at "ok"
    exact ⟨_, rfl, l, [], rfl, rfl, Sub.cons rfl (Sub.cons rfl Sub.nil), rfl⟩
  · rintro own d ds ρ' μ' ⟨r, acc, e, ha, hsb, rfl⟩
    cases r with
    | nil => cases e
    | cons q r =>
      have hq := hz q (by rw [ha]; exact List.mem_append_right _ (.head _))
      have hacc : acc.length ≤ 1000 := by rw [ha, List.length_append] at hl; omega
      obtain ⟨x, y, fs, k⟩ := q
      dsimp only at hq
      rw [List.map_cons] at e
      cases e
      have C'' := C'.hold own
      have hG' : G0 (cx'.hold own).g := hG
      have hsc' : (cx'.hold own).env.scope = _ := hsc
      refine Ok1.sub ?_ hsb
      dsimp only [wqD]
      walk_at "ok"
      refine ct_text (n := n) (by omega) hG' C'' ?_
      walk_at "ok"
      refine ⟨_, rfl, ?_⟩
      walk_at "ok"
      refine sl_tupleUpto (k := 2) (by show 2 < 4; decide) (by show 4 ≤ 1000000; decide) ?_
      walk_at "ok"
      refine o_catT (by simp) (by simp) (by show 2 + 1 ≤ 1000000; decide) ?_
      walk_at "ok"
      refine ⟨_, rfl, ?_⟩
      walk_at "ok"
      refine sl_tupleFrom (k := 3) (by decide) (by show 3 ≤ 4; decide) (by show 4 ≤ 1000000; decide) ?_
      walk_at "ok"
      refine o_catT (by simp) (by simp) (by show 3 + 1 ≤ 1000000; decide) ?_
      walk_at "ok"
      refine m_append (ds := (acc.map plainW).map wsD) .head (by rw [List.length_map, List.length_map]; omega) ?_
      walk_at "ok"
      refine ⟨r, acc ++ [(x, y, fs, k)], rfl, by rw [ha, List.append_assoc]; rfl, Sub.cons rfl (Sub.cons rfl Sub.nil), ?_⟩
      rw [List.map_append, List.map_append, List.map_cons, List.map_nil, List.map_cons, List.map_nil]
      dsimp only [plainW, wsD]
      rfl
  · rintro ρ' μ' ⟨r, acc, e, ha, hsb, rfl⟩
    cases r with
    | cons => cases e
    | nil =>
      rw [List.append_nil] at ha
      subst ha
      refine Ok.sub ?_ hsb
      refine Ok.freeze (x := "found") rfl .head ?_
      walk_at "ok"
      exact h
end

section
variable {n : Nat} {cx : Cx} {ρ : Rho} {μ : Mu} {P P' : Know} {s s' : Shared} {X : Ex → Rho → Mu → Prop} {Q : D → Rho → Mu → Prop} {QF : FlowD → Rho → Mu → Prop} {pos : Pos}
def bodyOf (K : Frag) (a : Addr) : List Stmt := match K.lookup a with
  | some ⟨_, _, .func fd, _⟩ => (match fd.body with | .stmts b => b | _ => [])
  | _ => []
def scopeOf (K : Frag) (a : Addr) : Scope := match K.lookup a with
  | some ⟨_, _, .func fd, _⟩ => fd.scope
  | _ => { kind := .module, names := [], isGenerator := false, isCoroutine := false }
abbrev cells5 (cV cO cN cM cT : Addr) (v o nm m t : Option D) (ps : Array Value) : Mu := [(cV, .cell v), (cO, .cell o), (cN, .cell nm), (cM, .cell m), (cT, .cell t), (220, .obj (tabObj ps))]
def textOf (ls : List LineQ) (e : Str) : Str := Str.join "\n" (ls.map (·.1)) ++ e
def bytesOf (x : Str) : Array UInt8 := byteArr (x.cps.toList.map fun c => ((c : Nat) : Int))
def wordB : Option Str → D
  | some w => .bytes (bytesOf w)
  | none => .none
/-- what the law leans on: the two readings of such lines -/
structure Plain (ls : List LineQ) (e : Str) : Prop where
  asc : ∀ c ∈ (textOf ls e).cps.toList, c < 128
  size : (textOf ls e).cps.toList.length ≤ 5000
  mark : startsB (bytesOf (textOf ls e)) #[239, 187, 191] = false
  few : (linesB (bytesOf (textOf ls e))).length < 64
  miss : ∀ (w : Option Str) (val : Str → Option D), w = none ∨ w = some ("Word" : Str) ∨ w = some ("X" : Str) → missGo (wordB w) val [] (missA 0 (linesB (bytesOf (textOf ls e)))) = missDue w val 0 [] ls
  ranged : ∀ many : Int, (rangedGo many [] (rowsA 0 (linesB (bytesOf (textOf ls e))))).map (List.map plainQ) = rangedDue many 0 [] ls
  worded : (wordedGo #[87, 111, 114, 100] [] (rowsA 0 (linesB (bytesOf (textOf ls e))))).map (List.map plainW) = wordedDue "Word" 0 [] ls
  apart : ∀ l, wordedGo #[87, 111, 114, 100] [] (rowsA 0 (linesB (bytesOf (textOf ls e)))) = .ok l → Mine.apart none (sort3 (l.map wqT)) = (metL (sort3 (l.map wqT)) ((sort3 (l.map wqT)).drop 1)).head?
  rangedZ : ∀ (many : Int) l, rangedGo many [] (rowsA 0 (linesB (bytesOf (textOf ls e)))) = .ok l → l.length ≤ 1000 ∧ ∀ q ∈ l, q.2.2.1.length ≤ 20000 ∧ ∀ f ∈ q.2.2.1, f.size ≤ 10000
  wordedZ : ∀ l, wordedGo #[87, 111, 114, 100] [] (rowsA 0 (linesB (bytesOf (textOf ls e)))) = .ok l → l.length ≤ 1000 ∧ ∀ q ∈ l, q.2.2.1.size ≤ 10000
theorem bytesOf_size (x : Str) : (bytesOf x).size = x.cps.toList.length := by unfold bytesOf; rw [byteArr_size, List.length_map]
theorem bytesOf_asc {x : Str} (h : ∀ c ∈ x.cps.toList, c < 128) : AscB (bytesOf x) := by
  intro c hc
  unfold bytesOf byteArr at hc
  rw [List.map_map] at hc
  obtain ⟨k, hk, rfl⟩ := List.mem_map.mp hc
  have := h k hk
  show ((k : Int).toNat.toUInt8).toNat ≤ 127
  rw [Int.toNat_natCast]
  have : k.toUInt8.toNat = k := by
    show k % 256 = k
    omega
  omega
theorem none_len : ∀ g ∈ noneL, g.length ≤ 30 := by decide +kernel
theorem LineOk.len {l : LineQ} (h : LineOk l) : l.1.length ≤ 100 := by
  cases h with
  | none h => exact Nat.le_trans (none_len _ h) (by decide)
  | row hq hws hwl hg hb =>
    have l1 := gap_len _ hg
    have l2 := beh_len _ hb
    have l4 := join_len2 hg hq hws hwl
    show (rowText _ _ _).length ≤ 100
    unfold rowText
    rw [lenS_app, lenS_app]
    omega
  | miss hq hws h1 hwl hg hb hh =>
    have l1 := gap_len _ hg
    have l2 := beh_len _ hb
    have l3 := head_len _ hh
    have l4 := join_len2 hg hq hws hwl
    show (_ ++ rowText _ _ _).length ≤ 100
    unfold rowText
    rw [lenS_app, lenS_app, lenS_app]
    omega
theorem lines_sum {ls : List LineQ} (h : ∀ l ∈ ls, LineOk l) : ((ls.map (·.1)).map (·.length)).sum ≤ 100 * ls.length := by
  induction ls with
  | nil => exact Nat.le_refl _
  | cons l r ih =>
    have h1 := (h l (.head _)).len
    have h2 := ih fun v hv => h v (.tail _ hv)
    rw [List.map_cons, List.map_cons, List.sum_cons, List.length_cons]
    omega
theorem textOf_len {ls : List LineQ} {e : Str} (h : ∀ l ∈ ls, LineOk l) (hl : ls.length ≤ 7) (he : e = "\n" ∨ e = "") : (textOf ls e).length ≤ 800 := by
  unfold textOf
  have h1 := StrLaws.join_length_le "\n" (ls.map (·.1))
  have h2 := lines_sum h
  have h3 : e.length ≤ 1 := by rcases he with rfl | rfl <;> decide
  rw [List.length_map, show ("\n" : Str).length = 1 from rfl] at h1
  rw [lenS_app]
  omega
theorem sub_opts {ds : List D} (L : List (Option Str)) {k : Int} (hL : ds = L.map optS) (hl : L.length ≤ 1000) (h0 : 0 ≤ k) (h1 : k < L.length) (h : ∀ x, x ∈ L → Q (optS x) ρ μ) : OkSub cx (.list ds) (.int k) ρ μ Q X := by
  have : k.toNat < L.length := by omega
  exact sub_list (d := optS L[k.toNat]) h0 (by omega) (by rw [hL, List.getElem?_map, List.getElem?_eq_getElem this]; rfl) (h _ (List.getElem_mem this))
theorem sub_two {a b : D} {k : Int} (h0 : 0 ≤ k) (h1 : k < 2) (h : ∀ d, d = a ∨ d = b → Q d ρ μ) : OkSub cx (.list [a, b]) (.int k) ρ μ Q X := by
  have hk : k = 0 ∨ k = 1 := by omega
  rcases hk with rfl | rfl
  · exact sub_list (d := a) (by decide) (by decide) rfl (h _ (.inl rfl))
  · exact sub_list (d := b) (by decide) (by decide) rfl (h _ (.inr rfl))
theorem Ok.cut {t : Sem Value} (b0 : D) (h : Ok cx In t ρ μ (fun d ρ' μ' => d = b0 ∧ ρ' = ρ ∧ μ' = μ) X) (k : Q b0 ρ μ) : Ok cx In t ρ μ Q X :=
  h.mono (fun _ _ _ ⟨h1, h2, h3⟩ => by subst h1 h2 h3; exact k) fun _ _ _ h => h
/-- the law's own dict -/
def dictL : List (Str × D) := [("X", .int 7), ("Y", .int 8), ("Word", .int 9)]
theorem g_store {x : Str} {p : Pos} {d : D} {QU : Unit → Rho → Mu → Prop} (h : Ok1 cx In RU (storeName cx.env x) d ρ μ QU X) : OkG cx (.Name x p) d ρ μ QU X := fun P s v S hv => wpAny_assign_Name (h P s v S hv)
end

section
variable {n : Nat} {cx : Cx} {ρ : Rho} {μ : Mu} {P P' : Know} {s s' : Shared} {X : Ex → Rho → Mu → Prop} {Q : D → Rho → Mu → Prop} {QF : FlowD → Rho → Mu → Prop} {pos : Pos}
theorem missDue_vals {w : Option Str} {val : Str → Option D} : ∀ {ls : List LineQ} {i : Nat} {acc l : List MQ}, missDue w val i acc ls = .ok l → l.length ≤ acc.length + ls.length ∧ ∀ q ∈ l, q ∈ acc ∨ ∃ x, val x = some q.2.2
  | [], i, acc, l, h => by
    rw [missDue] at h
    cases h
    exact ⟨Nat.le_refl _, fun q hq => .inl hq⟩
  | (t, s, f, fi, la) :: r, i, acc, l, h => by
    cases hd : isDue w (t, s, f, fi, la) with
    | false =>
      rw [due_out hd] at h
      have := missDue_vals h
      exact ⟨by rw [List.length_cons]; omega, this.2⟩
    | true =>
      rw [missDue, if_pos hd] at h
      dsimp only at h
      cases fi with
      | none => cases h
      | some a =>
        cases la with
        | none => cases h
        | some b =>
          dsimp only at h
          cases hv : val (f.getD (f.length - 1) "") with
          | none => rw [hv] at h; cases h
          | some d =>
            rw [hv] at h
            have := missDue_vals h
            refine ⟨by rw [List.length_append, List.length_singleton] at this; rw [List.length_cons]; omega, fun q hq => ?_⟩
            rcases this.2 q hq with hq | hq
            · rcases List.mem_append.mp hq with hq | hq
              · exact .inl hq
              · rw [List.mem_singleton.mp hq]; exact .inr ⟨_, hv⟩
            · exact .inr hq
theorem plainDs_of : ∀ {ds : List D}, (∀ d ∈ ds, plainD d = true) → plainDs ds = true
  | [], _ => rfl
  | d :: ds, h => by rw [plainDs, h d (.head _), plainDs_of fun x hx => h x (.tail _ hx)]; rfl
theorem depthDs_of {k : Nat} : ∀ {ds : List D}, (∀ d ∈ ds, depthD d ≤ k) → depthDs ds ≤ k
  | [], _ => Nat.zero_le _
  | d :: ds, h => by rw [depthDs]; exact Nat.max_le.mpr ⟨h d (.head _), depthDs_of fun x hx => h x (.tail _ hx)⟩
theorem closureFor_cells {scope : Scope} {env : Env} {l : List (Str × Addr)} (hcl : env.cells = l) : closureFor scope env = closureFor scope { (default : Env) with cells := l } := by
  unfold closureFor cellOf
  rw [hcl]
theorem plain_strs (z : List Str) : plainDs (z.map D.str) = true := plainDs_of fun d h => by obtain ⟨q, _, rfl⟩ := List.mem_map.mp h; rfl
theorem depth_strs (z : List Str) : depthDs (z.map D.str) = 0 := Nat.le_zero.mp (depthDs_of fun d h => by obtain ⟨q, _, rfl⟩ := List.mem_map.mp h; exact Nat.le_refl 0)
theorem plain_qs (q : QS) : plainD (qsD q) = true := by
  unfold qsD
  simp only [plainD, plainDs, plain_strs, Bool.and_self]
theorem depth_qs (q : QS) : depthD (qsD q) ≤ 2 := by
  unfold qsD
  simp only [depthD, depthDs, depth_strs]
  decide
theorem plain_ws (q : WS) : plainD (wsD q) = true := by
  unfold wsD
  simp only [plainD, plainDs, Bool.and_self]
theorem depth_ws (q : WS) : depthD (wsD q) ≤ 2 := by
  unfold wsD
  simp only [depthD, depthDs]
  decide
abbrev kFin (fl : FlowD) (_ : Rho) (μ : Mu) : Prop := fl = .ret (.bool true) ∧ ∃ ps, (220, MO.obj (tabObj ps)) ∈ μ
theorem law_four {cV cO cN cM cT a1 a2 a3 a4 a5 T c : Addr} {m1 m2 m3 m4 m5 : MO} {vd nd md : D} {e : Str} {t : Tape} {ls : List LineQ} {ps : Array Value} {v v' : Value} (hls : ∀ l ∈ ls, LineOk l) (hlen : ls.length ≤ 7) (he : e = "\n" ∨ e = "") (PP : Plain ls e) (ht : t.1.length ≤ 1000)
    (hg : G0 cx.g) (C : CxOk (n + 10) cx) (F : FnCx cx)
    (hsc0 : cx.env.scope = scopeOf cx.g.K 223) (hcl : cx.env.cells = ([("values", cV), ("octets", cO), ("named", cN), ("many", cM), ("tape", cT)] : List (Str × Addr))) (hcode : cx.env.code = .ref 222) (hcd : CodeHd cx.g.base 222 220)
    (hps : ps = #[rawInt 206, rawInt 21, v, rawInt 211, rawInt 28, v']) :
    OkX cx ((bodyOf (hd.heap_1 cx.g.w.params) 223).drop 10) [("lines", .list (ls.map lineD))] ((a1, m1) :: (a2, m2) :: (a3, m3) :: (a4, m4) :: (a5, m5) :: tm T c t (cells5 cV cO cN cM cT (some vd) (some (.bytes (bytesOf (textOf ls e)))) (some nd) (some md) (some (.addr T)) ps)) kFin XF := by
  have hsc : cx.env.scope = scopeOf (hd.heap_1 cx.g.w.params) 223 := by rw [hsc0, show cx.g.K = _ from hg]
  subst hps
  conv at hsc => rhs; whnf
  conv in List.drop _ _ => whnf
  have hB := bytesOf_size (textOf ls e)
  have hBz := PP.size
  have hBa := bytesOf_asc PP.asc
  walk_at "ok"
  have hmr := PP.worded
  have hzr := PP.wordedZ
  have hap := PP.apart
  refine e_lambda (c := 222) (T := 220) (ps := #[rawInt 206, rawInt 21, v, rawInt 211, rawInt 28, v']) (clos := [("octets", cO)]) (μ' := [(a1, m1), (a2, m2), (a3, m3), (a4, m4), (a5, m5), (T, .dict [("cells", .addr c), ("seed", .int t.2)]), (c, .list ((t.1.map D.int).reverse)), (cV, .cell (some vd)), (cO, .cell (some (.bytes (bytesOf (textOf ls e))))), (cN, .cell (some nd)), (cM, .cell (some md)), (cT, .cell (some (.addr T)))])
    C hcode hcd (fun c' => .tail (.tail (.tail (.tail (.tail (.tail (.tail (.tail (.tail (.tail (.tail (.tail .head)))))))))))) trivial rfl ((closureFor_cells hcl).trans rfl) rfl fun f c' oc vs t' pm ctv qual hd hq => ?_
  walk_at "ok"
  refine ct_told (n := n + 9) (.head _) rfl hg C fun cx₁ ρ₁ hg₁ C₁ => ?_
  refine enterL C₁ (.head _) (.tail _ (.head _)) hd hq rfl (by decide) rfl rfl rfl fun cx₂ hg₂ C₂ F₂ hsc₂ hcl₂ => ?_
  have hG₂ : G0 cx₂.g := hg₂.trans hg₁ ▸ hg
  walk_at "ok"
  refine ct_worded (n := n + 3) PP.mark (by omega) (by decide) PP.few hG₂ C₂ (fun l hl ha => ?_) (fun k hk f => ?_) fun l k hl ha f => ?_
  · obtain ⟨z1, z2⟩ := hzr l hl
    have hap := hap l hl
    rw [hl] at hmr
    have hwt : l.map wqT = (l.map plainW).map wsT := by rw [List.map_map]; rfl
    rw [ha, hwt] at hap
    refine ⟨_, rfl, by rw [List.length_map]; omega, ?_⟩
    walk_at "ok"
    refine ct_plainW (n := n + 8) z1 z2 hg C ?_
    walk_at "ok"
    refine ct_lworded (n := n + 9) hls (by omega) hg C (fun l' hl' hm => ?_) (fun l' k r hl' hm => ?_) fun k hk => ?_
    · rw [← hmr] at hl'
      cases hl'
      have hpd : ∀ d ∈ (l.map plainW).map wsD, plainD d = true ∧ depthD d ≤ 2 := fun d hd => by
        obtain ⟨q, _, rfl⟩ := List.mem_map.mp hd
        exact ⟨plain_ws q, depth_ws q⟩
      refine c_eqList C (plainDs_of fun d h => (hpd d h).1) (Nat.le_trans (depthDs_of fun d h => (hpd d h).2) (by decide)) ?_
      walk_at "ok"
      exact ⟨rfl, _, by walk_at "mm"⟩
    · rw [← hmr] at hl'
      cases hl'
      rw [hm] at hap
      cases hap
    · rw [← hmr] at hk
      cases hk
  · rw [hk] at hmr
    refine ⟨rfl, k, rfl, ?_⟩
    walk_at "ok"
    refine ct_plainI (n := n + 9) hg C ?_
    walk_at "ok"
    refine ct_lworded (n := n + 9) hls (by omega) hg C (fun l' hl' hm => ?_) (fun l' k' r hl' hm => ?_) fun k' hk' => ?_
    · rw [← hmr] at hl'
      cases hl'
    · rw [← hmr] at hl'
      cases hl'
    · rw [← hmr] at hk'
      cases hk'
      walk_at "ok"
      refine ⟨?_, _, by walk_at "mm"⟩
      rw [beq_self_eq_true]
  · have hap := hap l hl
    rw [hl] at hmr
    have hwt : l.map wqT = (l.map plainW).map wsT := by rw [List.map_map]; rfl
    rw [ha, hwt] at hap
    refine ⟨rfl, k, rfl, ?_⟩
    walk_at "ok"
    refine ct_plainI (n := n + 9) hg C ?_
    walk_at "ok"
    refine ct_lworded (n := n + 9) hls (by omega) hg C (fun l' hl' hm => ?_) (fun l' k' r hl' hm => ?_) fun k' hk' => ?_
    · rw [← hmr] at hl'
      cases hl'
      rw [hm] at hap
      cases hap
    · rw [← hmr] at hl'
      cases hl'
      rw [hm] at hap
      cases hap
      walk_at "ok"
      refine ⟨?_, _, by walk_at "mm"⟩
      rw [beq_self_eq_true]
    · rw [← hmr] at hk'
      cases hk'
theorem law_three {cV cO cN cM cT a1 a2 a3 T c : Addr} {m1 m2 m3 : MO} {vd nd : D} {e : Str} {t : Tape} {ls : List LineQ} {ps : Array Value} {v : Value} (hls : ∀ l ∈ ls, LineOk l) (hlen : ls.length ≤ 7) (he : e = "\n" ∨ e = "") (PP : Plain ls e) (ht : t.1.length ≤ 1000)
    (hg : G0 cx.g) (C : CxOk (n + 10) cx) (F : FnCx cx)
    (hsc0 : cx.env.scope = scopeOf cx.g.K 223) (hcl : cx.env.cells = ([("values", cV), ("octets", cO), ("named", cN), ("many", cM), ("tape", cT)] : List (Str × Addr))) (hcode : cx.env.code = .ref 222) (hcd : CodeHd cx.g.base 222 220)
    (hps : ps = #[rawInt 206, rawInt 21, v]) :
    OkX cx ((bodyOf (hd.heap_1 cx.g.w.params) 223).drop 8) [("lines", .list (ls.map lineD))] ((a1, m1) :: (a2, m2) :: (a3, m3) :: tm T c t (cells5 cV cO cN cM cT (some vd) (some (.bytes (bytesOf (textOf ls e)))) (some nd) none (some (.addr T)) ps)) kFin XF := by
  have hsc : cx.env.scope = scopeOf (hd.heap_1 cx.g.w.params) 223 := by rw [hsc0, show cx.g.K = _ from hg]
  subst hps
  conv at hsc => rhs; whnf
  conv in List.drop _ _ => whnf
  have hB := bytesOf_size (textOf ls e)
  have hBz := PP.size
  have hBa := bytesOf_asc PP.asc
  walk_at "ok"
  refine ct_nextA (n := n + 9) (pre := [(a1, m1), (a2, m2), (a3, m3)]) (t := t) (by decide) ht hg C fun k t2 k0 k1 ht2 => ?_
  walk_at "ok"
  have hmr := PP.ranged (2 + k)
  have hzr := PP.rangedZ (2 + k)
  generalize 2 + k = many at hmr hzr ⊢
  refine e_lambda (c := 222) (T := 220) (ps := #[rawInt 206, rawInt 21, v]) (clos := [("octets", cO), ("many", cM)]) (μ' := [(a1, m1), (a2, m2), (a3, m3), (T, .dict [("cells", .addr c), ("seed", .int t2.2)]), (c, .list ((t2.1.map D.int).reverse)), (cV, .cell (some vd)), (cO, .cell (some (.bytes (bytesOf (textOf ls e))))), (cN, .cell (some nd)), (cM, .cell (some (.int many))), (cT, .cell (some (.addr T)))])
    C hcode hcd (fun c' => .tail (.tail (.tail (.tail (.tail (.tail (.tail (.tail (.tail (.tail .head)))))))))) trivial rfl ((closureFor_cells hcl).trans rfl) rfl fun f c' oc vs t' pm ctv qual hd hq => ?_
  walk_at "ok"
  refine ct_told (n := n + 9) (.head _) rfl hg C fun cx₁ ρ₁ hg₁ C₁ => ?_
  refine enterL C₁ (.head _) (.tail _ (.head _)) hd hq rfl (by decide) rfl rfl rfl fun cx₂ hg₂ C₂ F₂ hsc₂ hcl₂ => ?_
  have hG₂ : G0 cx₂.g := hg₂.trans hg₁ ▸ hg
  walk_at "ok"
  refine ct_ranged (n := n + 3) PP.mark (by omega) hG₂ C₂ (fun l hl => ?_) fun k hk f => ?_
  · obtain ⟨z1, z2⟩ := hzr l hl
    rw [hl] at hmr
    refine ⟨_, rfl, by rw [List.length_map]; omega, ?_⟩
    walk_at "ok"
    refine ct_plainQ (n := n + 8) z1 z2 hg C ?_
    walk_at "ok"
    refine ct_lranged (n := n + 9) hls (by omega) hg C (fun l' hl' => ?_) fun k hk => ?_
    · rw [← hmr] at hl'
      cases hl'
      have hpd : ∀ d ∈ (l.map plainQ).map qsD, plainD d = true ∧ depthD d ≤ 2 := fun d hd => by
        obtain ⟨q, _, rfl⟩ := List.mem_map.mp hd
        exact ⟨plain_qs q, depth_qs q⟩
      refine c_neList C (plainDs_of fun d h => (hpd d h).1) (Nat.le_trans (depthDs_of fun d h => (hpd d h).2) (by decide)) ?_
      iterate 3 walk_at "ok1"
      refine Ok.sub ?_ (Sub.cons (x := "lines") rfl Sub.nil)
      exact law_four hls hlen he PP ht2 hg C F hsc0 hcl hcode hcd rfl
    · rw [← hmr] at hk
      cases hk
  · rw [hk] at hmr
    refine ⟨rfl, k, rfl, ?_⟩
    walk_at "ok"
    refine ct_plainI (n := n + 9) hg C ?_
    walk_at "ok"
    refine ct_lranged (n := n + 9) hls (by omega) hg C (fun l' hl' => ?_) fun k' hk' => ?_
    · rw [← hmr] at hl'
      cases hl'
    · rw [← hmr] at hk'
      cases hk'
      have hkk : (k != k) = false := by simp
      iterate 4 walk_at "ok1"
      refine Ok.sub ?_ (Sub.cons (x := "lines") rfl Sub.nil)
      exact law_four hls hlen he PP ht2 hg C F hsc0 hcl hcode hcd rfl
end

section
variable {n : Nat} {cx : Cx} {ρ : Rho} {μ : Mu} {P P' : Know} {s s' : Shared} {X : Ex → Rho → Mu → Prop} {Q : D → Rho → Mu → Prop} {QF : FlowD → Rho → Mu → Prop} {pos : Pos}
theorem law_two {sc cV cO cN cM cT va T c : Addr} {w : Option Str} {vd : D} {e : Str} {t : Tape} {ls : List LineQ} (hls : ∀ l ∈ ls, LineOk l) (hlen : ls.length ≤ 7) (he : e = "\n" ∨ e = "") (PP : Plain ls e) (hw : w ∈ ([none, some ("Word" : Str), some ("X" : Str)] : List (Option Str))) (hva : va ≠ sysModules) (hvd : vd = D.none ∨ vd = D.addr va) (ht : t.1.length ≤ 1000)
    (hg : G0 cx.g) (C : CxOk (n + 10) cx) (F : FnCx cx)
    (hsc0 : cx.env.scope = scopeOf cx.g.K 223) (hcl : cx.env.cells = ([("values", cV), ("octets", cO), ("named", cN), ("many", cM), ("tape", cT)] : List (Str × Addr))) (hcode : cx.env.code = .ref 222) (hcd : CodeHd cx.g.base 222 220) :
    OkX cx ((bodyOf (hd.heap_1 cx.g.w.params) 223).drop 4) [("word", optS w), ("lines", .list (ls.map lineD)), ("script", .addr sc)] ((va, .dict dictL) :: tm T c t (cells5 cV cO cN cM cT (some vd) (some (.bytes (bytesOf (textOf ls e)))) none none (some (.addr T)) #[])) kFin XF := by
  have hsc : cx.env.scope = scopeOf (hd.heap_1 cx.g.w.params) 223 := by rw [hsc0, show cx.g.K = _ from hg]
  conv at hsc => rhs; whnf
  conv in List.drop _ _ => whnf
  have hw : w = none ∨ w = some ("Word" : Str) ∨ w = some ("X" : Str) := by simpa using hw
  have hB := bytesOf_size (textOf ls e)
  have hBz := PP.size
  have hBa := bytesOf_asc PP.asc
  obtain ⟨val, hval, hpl⟩ : ∃ val : Str → Option D, (∀ μ', (va, MO.dict dictL) ∈ μ' → ValOk μ' vd val) ∧ ∀ x d, val x = some d → plainD d = true ∧ depthD d = 0 := by
    rcases hvd with rfl | rfl
    · refine ⟨fun x => some (.str x), fun μ' _ => .inl ⟨rfl, rfl⟩, fun x d h => ?_⟩
      cases h
      exact ⟨rfl, rfl⟩
    · refine ⟨fun x => dictL.lookup x, fun μ' h => .inr ⟨va, dictL, rfl, h, hva, rfl⟩, fun x d h => ?_⟩
      unfold dictL at h
      dsimp only at h
      rw [List.lookup_cons, List.lookup_cons, List.lookup_cons] at h
      split at h
      · cases h; exact ⟨rfl, rfl⟩
      · split at h
        · cases h; exact ⟨rfl, rfl⟩
        · split at h
          · cases h; exact ⟨rfl, rfl⟩
          · cases h
  have hmiss := PP.miss w val hw
  refine x_cons (s_assign (Ok.cut (wordB w) ?_ ?_))
  · rcases hw with rfl | rfl | rfl
    · dsimp only [optS, wordB]
      walk_at "ok"
      exact ⟨rfl, rfl, rfl⟩
    · dsimp only [optS, wordB]
      walk_at "ok"
      refine e_compMap (T := fun _ => True) ("Word" : Str).cps.toList (fun k => D.str ⟨#[k]⟩) (fun k => D.int ((k : Nat) : Int)) C trivial (cl := []) rfl (by decide) rfl (by decide) (by walk_at "rl") (by decide) ?_ (it_str ?_)
      · intro cx₂ hg₂ C₂ hn₂ hc₂ A acc k hk
        have hG₂ : G0 cx₂.g := hg₂ ▸ hg
        walk_at "ok"
        refine b_ord ?_
        exact ⟨rfl, rfl⟩
      walk_at "ok"
      refine ⟨_, rfl, rfl, rfl, ?_⟩
      walk_at "ok"
      rw [show ("Word" : Str).cps.toList.map (fun k => D.int ((k : Nat) : Int)) = (("Word" : Str).cps.toList.map fun k => ((k : Nat) : Int)).map D.int by rw [List.map_map]; rfl]
      refine b_bytes C (by decide) (by decide) ?_
      exact ⟨rfl, rfl, rfl⟩
    · dsimp only [optS, wordB]
      walk_at "ok"
      refine e_compMap (T := fun _ => True) ("X" : Str).cps.toList (fun k => D.str ⟨#[k]⟩) (fun k => D.int ((k : Nat) : Int)) C trivial (cl := []) rfl (by decide) rfl (by decide) (by walk_at "rl") (by decide) ?_ (it_str ?_)
      · intro cx₂ hg₂ C₂ hn₂ hc₂ A acc k hk
        have hG₂ : G0 cx₂.g := hg₂ ▸ hg
        walk_at "ok"
        refine b_ord ?_
        exact ⟨rfl, rfl⟩
      walk_at "ok"
      refine ⟨_, rfl, rfl, rfl, ?_⟩
      walk_at "ok"
      rw [show ("X" : Str).cps.toList.map (fun k => D.int ((k : Nat) : Int)) = (("X" : Str).cps.toList.map fun k => ((k : Nat) : Int)).map D.int by rw [List.map_map]; rfl]
      refine b_bytes C (by decide) (by decide) ?_
      exact ⟨rfl, rfl, rfl⟩
  · walk_at "ok"
    refine e_lambda (c := 222) (T := 220) (ps := #[]) (clos := [("values", cV), ("octets", cO), ("named", cN)]) (μ' := [(va, .dict dictL), (T, .dict [("cells", .addr c), ("seed", .int t.2)]), (c, .list ((t.1.map D.int).reverse)), (cV, .cell (some vd)), (cO, .cell (some (.bytes (bytesOf (textOf ls e))))), (cN, .cell (some (wordB w))), (cM, .cell none), (cT, .cell (some (.addr T)))])
      C hcode hcd (fun c' => .tail (.tail (.tail (.tail (.tail (.tail (.tail (.tail .head)))))))) trivial rfl ((closureFor_cells hcl).trans rfl) rfl fun f c' oc vs t' pm ctv qual hd hq => ?_
    walk_at "ok"
    refine ct_told (n := n + 9) (.head _) rfl hg C fun cx₁ ρ₁ hg₁ C₁ => ?_
    refine enterL C₁ (.head _) (.tail _ (.head _)) hd hq rfl (by decide) rfl rfl rfl fun cx₂ hg₂ C₂ F₂ hsc₂ hcl₂ => ?_
    have hG₂ : G0 cx₂.g := hg₂.trans hg₁ ▸ hg
    walk_at "ok"
    have hwb : wordB w = .none ∨ ∃ b, wordB w = .bytes b ∧ b.size ≤ 10000 := by
      rcases hw with rfl | rfl | rfl
      · exact .inl rfl
      · exact .inr ⟨_, rfl, by rw [bytesOf_size]; decide⟩
      · exact .inr ⟨_, rfl, by rw [bytesOf_size]; decide⟩
    refine ct_puts (n := n + 3) hwb (hval _ (.tail _ (.tail _ (.head _)))) hBa PP.mark (by omega) hG₂ C₂ (fun l hl => ?_) fun k hk f => ?_
    · rw [hmiss] at hl
      obtain ⟨hl1, hl2⟩ := missDue_vals hl
      rw [List.length_nil] at hl1
      refine ⟨_, rfl, by rw [List.length_map]; omega, ?_⟩
      walk_at "ok"
      refine ct_lmissing (n := n + 9) hls (by omega) (hval _ (.tail _ (.tail _ (.head _)))) hg C (fun l' hl' => ?_) fun k hk => ?_
      · rw [hl] at hl'
        cases hl'
        walk_at "ok"
        refine e_compMap (T := fun _ => True) l mqD mqD C trivial (cl := []) rfl (by decide) rfl (by decide) (by walk_at "rl") (by omega) ?_ (it_list ?_)
        · intro cx₂ hg₂ C₂ hn₂ hc₂ A acc q hq
          have hG₂ : G0 cx₂.g := hg₂ ▸ hg
          obtain ⟨x, y, z⟩ := q
          dsimp only [mqD]
          walk_at "ok"
          exact ⟨rfl, rfl⟩
        walk_at "ok"
        refine ⟨_, rfl, rfl, rfl, ?_⟩
        walk_at "ok"
        have hpd : ∀ d ∈ l.map mqD, plainD d = true ∧ depthD d ≤ 1 := by
          intro d hd
          obtain ⟨⟨x, y, z⟩, hq, rfl⟩ := List.mem_map.mp hd
          rcases hl2 _ hq with h | ⟨x', h⟩
          · cases h
          · obtain ⟨p1, p2⟩ := hpl _ _ h
            dsimp only at p1 p2
            refine ⟨?_, ?_⟩
            · unfold mqD
              rw [plainD, plainDs, plainDs, plainDs, plainDs, p1]
              rfl
            · unfold mqD
              rw [depthD, depthDs, depthDs, depthDs, depthDs, p2]
              exact Nat.le_refl 1
        refine c_neList C (plainDs_of fun d h => (hpd d h).1) (Nat.le_trans (depthDs_of fun d h => (hpd d h).2) (by decide)) ?_
        iterate 3 walk_at "ok1"
        refine Ok.sub ?_ (Sub.cons (x := "lines") rfl Sub.nil)
        exact law_three hls hlen he PP ht hg C F hsc0 hcl hcode hcd rfl
      · rw [hl] at hk
        cases hk
    · rw [hmiss] at hk
      refine ⟨rfl, k, rfl, ?_⟩
      walk_at "ok"
      refine ct_lmissing (n := n + 9) hls (by omega) (hval _ (.tail _ (.tail _ (.head _)))) hg C (fun l' hl' => ?_) fun k' hk' => ?_
      · rw [hk] at hl'
        cases hl'
      · rw [hk] at hk'
        cases hk'
        have hkk : (k != k) = false := by simp
        iterate 21 walk_at "ok1"
        refine Ok.sub ?_ (Sub.cons (x := "lines") rfl Sub.nil)
        exact law_three hls hlen he PP ht hg C F hsc0 hcl hcode hcd rfl
end

section
variable {n : Nat} {cx : Cx} {ρ : Rho} {μ : Mu} {P P' : Know} {s s' : Shared} {X : Ex → Rho → Mu → Prop} {Q : D → Rho → Mu → Prop} {QF : FlowD → Rho → Mu → Prop} {pos : Pos}
theorem law_ok {sc cV cO cN cM cT : Addr} {vs : List Value} {ns : List Int} (PL : ∀ (ls : List LineQ) (e : Str), (∀ l ∈ ls, LineOk l) → ls.length ≤ 7 → (e = "\n" ∨ e = "") → Plain ls e) (hl : cx.g.base.IsList sc vs.toArray) (hi : IntsAre vs ns) (hz : ns.length ≤ 1000) (hg : G0 cx.g) (C : CxOk (n + 10) cx) (F : FnCx cx)
    (hsc0 : cx.env.scope = scopeOf cx.g.K 223) (hcl : cx.env.cells = ([("values", cV), ("octets", cO), ("named", cN), ("many", cM), ("tape", cT)] : List (Str × Addr))) (hcode : cx.env.code = .ref 222) (hcd : CodeHd cx.g.base 222 220) :
    OkX cx (bodyOf (hd.heap_1 cx.g.w.params) 223) [("script", .addr sc)] (cells5 cV cO cN cM cT none none none none none #[]) kFin XF := by
  have hsc : cx.env.scope = scopeOf (hd.heap_1 cx.g.w.params) 223 := by rw [hsc0, show cx.g.K = _ from hg]
  conv at hsc => rhs; whnf
  conv in bodyOf _ _ => whnf
  walk_at "ok"
  refine ct_tape (n := n + 9) hl hi hz hg C fun T c hT => ?_
  walk_at "ok"
  have ht0 : (tapeOf ns).1.length ≤ 1000 := Nat.le_trans (cellsA_length ns) (by decide)
  generalize tapeOf ns = t0 at ht0 ⊢
  refine s_comp (T := fun _ => True) (cl := [("tape", cT)]) C trivial (by walk_at "s2") (closureFor_one hcl rfl) (by decide) rfl (by decide) (by walk_at "rl")
    (fun ds acc μ' => ∃ t' ls, acc = List.map lineD ls ∧ (∀ l ∈ ls, LineOk l) ∧ t'.1.length ≤ 1000 ∧ ls.length + ds.length ≤ 7 ∧ μ' = tm T c t' (cells5 cV cO cN cM cT none none none none (some (.addr T)) #[])) ?_ ?_ (by walk_at "nm") ?_
  · rintro ds acc μ' ⟨t', ls, rfl, h0, h1, h2, h3⟩
    rw [List.length_map]; omega
  · rintro cx₂ hg₂ C₂ hn₂ hc₂ A d ds acc μ' ⟨t', ls, rfl, h0, h1, h2, rfl⟩
    have hG₂ : G0 cx₂.g := hg₂ ▸ hg
    walk_at "ok"
    refine okTs_nil (ifT ?_)
    walk_at "ok"
    refine ct_line (n := n + 7) (pre := [(A, .list (ls.map lineD))]) h1 hG₂ C₂ fun l t'' hl' ht'' => ?_
    rw [List.length_cons] at h2
    refine ⟨_, rfl, t'', ls ++ [l], by rw [List.map_append]; rfl, fun x hx => ?_, ht'', by rw [List.length_append, List.length_singleton]; omega, rfl⟩
    rcases List.mem_append.mp hx with hx | hx
    · exact h0 x hx
    · rw [List.mem_singleton.mp hx]; exact hl'
  refine it_range C rfl (by walk_at "nm") (gn_range hg) ?_
  walk_at "ok"
  refine ct_nextA (n := n + 9) (pre := []) (t := t0) (by decide) ht0 hg C fun k t1 k0 k1 ht1 => ?_
  refine ⟨k, rfl, by omega, by omega, ⟨t1, [], rfl, fun _ h => (by cases h), ht1, by rw [rInts_length, List.length_nil]; omega, rfl⟩, ?_⟩
  rintro acc μ' ⟨t2, ls, rfl, hls, ht2, hlen, rfl⟩
  rw [List.length_nil] at hlen
  clear k k0 k1 t1 ht1 ht0 t0
  walk_at "ok"
  have hsz : ∀ e : Str, (e = "\n" ∨ e = "") → (textOf ls e).cps.toList.length ≤ 800 := fun e he => by
    rw [Array.length_toList]; exact textOf_len hls (by omega) he
  refine e_comp (T := fun _ => True) (cl := []) C trivial rfl (by decide) rfl (by decide) (by walk_at "rl")
    (fun ds acc μ' => ∃ (e : Str) (t' : Tape) (l r : List Nat), (e = "\n" ∨ e = "") ∧ t'.1.length ≤ 1000 ∧ (textOf ls e).cps.toList = l ++ r ∧ ds = r.map (fun c => D.str ⟨#[c]⟩) ∧ acc = l.map (fun c => D.int ((c : Nat) : Int)) ∧ μ' = tm T c t' (cells5 cV cO cN cM cT none none none none (some (.addr T)) #[])) ?_ ?_ ?_
  · rintro ds acc μ' ⟨e, t', l, r, he, h1, h2, rfl, rfl, rfl⟩
    have := hsz e he
    rw [h2, List.length_append] at this
    rw [List.length_map]; omega
  · rintro cx₂ hg₂ C₂ hn₂ hc₂ A d ds acc μ' ⟨e, t', l, r, he, h1, h2, h3, rfl, rfl⟩
    have hG₂ : G0 cx₂.g := hg₂ ▸ hg
    cases r with
    | nil => cases h3
    | cons k r =>
      rw [List.map_cons] at h3
      cases h3
      walk_at "ok"
      refine okTs_nil (ifT ?_)
      walk_at "ok"
      refine b_ord ?_
      exact ⟨_, rfl, e, t', l ++ [k], r, he, h1, by rw [h2, List.append_assoc]; rfl, rfl, by rw [List.map_append]; rfl, rfl⟩
  refine it_str ?_
  walk_at "ok"
  refine e_compMap (T := fun _ => True) ls lineD (fun l => D.str l.1) C trivial (cl := []) rfl (by decide) rfl (by decide) (by walk_at "rl") (by omega) ?_ (it_list ?_)
  · intro cx₂ hg₂ C₂ hn₂ hc₂ A acc l hl'
    have hG₂ : G0 cx₂.g := hg₂ ▸ hg
    obtain ⟨l1, l2, l3, l4, l5⟩ := l
    dsimp only [lineD]
    walk_at "ok"
    exact ⟨rfl, rfl⟩
  walk_at "ok"
  refine ⟨_, rfl, rfl, rfl, ?_⟩
  walk_at "ok"
  have hsum := lines_sum hls
  have hj := StrLaws.join_length_le "\n" (ls.map (·.1))
  rw [List.length_map, show ("\n" : Str).length = 1 from rfl] at hj
  rw [show ls.map (fun l => D.str l.1) = (ls.map (·.1)).map D.str by rw [List.map_map]; rfl]
  refine m_join (xs := ls.map (·.1)) (by rw [List.length_map, show ("\n" : Str).length = 1 from rfl]; omega) ?_
  rw [joinS_eq]
  walk_at "ok"
  refine ct_nextA (n := n + 9) (pre := []) (t := t2) (by decide) ht2 hg C fun k t3 k0 k1 ht3 => ?_
  refine sub_strs ["\n", ""] rfl (by decide) k0 k1 fun e he => ?_
  have he : e = "\n" ∨ e = "" := by simpa using he
  have he1 : e.length ≤ 1 := by rcases he with rfl | rfl <;> decide
  refine o_cat (by omega) ?_
  refine ⟨_, rfl, ⟨e, t3, [], _, he, ht3, rfl, rfl, rfl, rfl⟩, ?_⟩
  clear k k0 k1 ht2 t2 he1
  rintro acc μ' ⟨e, t2, l, r, he, ht2, h2, h3, rfl, rfl⟩
  cases r with
  | cons => cases h3
  | nil =>
    rw [List.append_nil] at h2
    subst h2
    clear h3
    have PP := PL ls e hls (by omega) he
    walk_at "ok"
    rw [show (textOf ls e).cps.toList.map (fun c => D.int ((c : Nat) : Int)) = ((textOf ls e).cps.toList.map fun c => ((c : Nat) : Int)).map D.int by rw [List.map_map]; rfl]
    refine b_bytes C (fun i hi => ?_) (by rw [List.length_map]; have := hsz e he; omega) ?_
    · obtain ⟨k, hk, rfl⟩ := List.mem_map.mp hi
      have := PP.asc k hk
      omega
    walk_at "ok"
    refine s_assignT ?_ rfl (by walk_at "sw")
    walk_at "ok"
    refine ct_nextA (n := n + 9) (pre := []) (t := t2) (by decide) ht2 hg C fun k t3 k0 k1 ht3 => ?_
    refine sub_opts [none, some ("Word" : Str), some ("X" : Str)] rfl (by decide) k0 k1 fun w hw => ?_
    walk_at "ok"
    refine e_dict3 C (by decide) (by decide) (by decide) fun va hva => ?_
    walk_at "ok"
    refine ⟨_, rfl, ?_⟩
    walk_at "ok"
    refine ct_nextA (n := n + 9) (below := 2) (pre := [(va, .dict dictL)]) (t := t3) (by decide) ht3 hg C fun k t4 k0 k1 ht4 => ?_
    refine sub_two k0 k1 fun vd hvd => ?_
    clear k k0 k1 ht3 t3 ht2 t2
    iterate 6 walk_at "ok1"
    refine g_store ?_
    walk_at "ok1"
    walk_at "ok1"
    exact law_two hls (by omega) he PP hw hva hvd ht4 hg C F hsc0 hcl hcode hcd
end

end Mine

section
open PySem PySem.W PySem.Calls PyProof.Rows
namespace Mine
theorem start {prog : Program} {w : World} {base h₁ : Heap} {p : Program} {loose : List Str} {mean : ExcName → Option Value} {mg mb : Str → Option Value} {s : Shared} {L : Addr} {env : Env} {sc : Addr} {vs : List Value} {ns : List Int} {oV oO oN oM oT : Obj} {m : Str → Option Value} {Q : Flow → Shared → Prop} {E : Value → Shared → Prop}
    (PL : ∀ (ls : List LineQ) (e : Str), (∀ l ∈ ls, LineOk l) → ls.length ≤ 7 → (e = "\n" ∨ e = "") → Plain ls e)
    (hX : (hd.heap_1 w.params).In base) (hTop : Top p loose mean mg mb base) (hb : Below callerA base [] base) (F : Fr base L h₁ m) (hm : m "script" = some (.ref sc))
    (N : News base L h₁ [(L + 5, oV), (L + 4, oO), (L + 3, oN), (L + 2, oM), (L + 1, oT), (220, tabObj #[])])
    (dV : oV.data = .cell none) (dO : oO.data = .cell none) (dN : oN.data = .cell none) (dM : oM.data = .cell none) (dT : oT.data = .cell none) (h220 : 220 < L) (hl : base.IsList sc vs.toArray) (hi : IntsAre vs ns) (hz : ns.length ≤ 1000) (hcd : CodeHd base 222 220) (hs : s.heap = h₁)
    (e1 : env.locals = L) (e2 : env.scope = scopeOf (hd.heap_1 w.params) 223) (e3 : env.cells = ([("values", L + 5), ("octets", L + 4), ("named", L + 3), ("many", L + 2), ("tape", L + 1)] : List (Str × Addr))) (e4 : env.code = .ref 222) (e5 : env.frame = some L) (e6 : env.globals = mainGlobals) (e7 : env.builtins = builtinsNs) (e8 : env.scope.kind = .function)
    (hQ : ∀ h' tk ps, (∀ b o, base.get? b = some o → h'.get? b = some o) → h'.get? 220 = some (tabObj ps) → Q (.ret (.bool true)) { s with heap := h', toks := tk }) : wpAny (model prog w) (callerA.deeper env) (execs (bodyOf (hd.heap_1 w.params) 223) env) Q E s := by
  subst hs
  let g : GC := { prog := prog, w := w, base := base, K := hd.heap_1 w.params, p := p, loose := loose, mean := mean, mg := mg, mb := mb }
  let cx : Cx := { g := g, A := callerA.deeper env, fs := [env], env := env, L := L, Kp := fun _ _ => False, s₀ := s }
  have hLb : base.get? L = none := Heap.get?_none_of_le F.above
  have C : CxOk (0 + 10) cx := ⟨hX, hTop, Around.frames_deeper hb.stack, e1, e8, e6, e7, ⟨env, [], L, rfl, e5, e5⟩, rfl, by show 1 + claimMargin + 1 + 20 * 10 ≤ 900; decide, by show 4 + 3 + 100 * 10 ≤ 9000; decide⟩
  have FC : FnCx cx := ⟨⟨[], rfl⟩, e5⟩
  have S : Sat cx [("script", .addr sc)] (cells5 (L + 5) (L + 4) (L + 3) (L + 2) (L + 1) none none none none none #[]) (fun _ _ => False) s := by
    refine ⟨Same.refl s, ⟨m, F.ns, fun x d hx => ?_⟩, fun a o h => h.elim, fun e he => ?_, ?_, fun e he o h => h, F.keep, fun e he => ?_, ?_, fun b o h => h.elim, fun b hb => ⟨?_, fun o h => h⟩, hLb, fun o h => h⟩
    · rw [List.lookup_cons] at hx
      by_cases q : x = "script"
      · subst q
        rw [beq_self_eq_true] at hx
        cases hx
        exact ⟨_, hm, .addr _⟩
      · rw [beq_eq_false_iff_ne.mpr q] at hx
        cases hx
    · simp only [List.mem_cons, List.not_mem_nil, or_false] at he
      rcases he with rfl | rfl | rfl | rfl | rfl | rfl
      · exact ⟨oV, N.get (by simp), none, dV, trivial⟩
      · exact ⟨oO, N.get (by simp), none, dO, trivial⟩
      · exact ⟨oN, N.get (by simp), none, dN, trivial⟩
      · exact ⟨oM, N.get (by simp), none, dM, trivial⟩
      · exact ⟨oT, N.get (by simp), none, dT, trivial⟩
      · exact ⟨tabObj #[], N.get (by simp), rfl⟩
    · have q : ∀ k : Nat, L + k ≠ 220 := fun k => Nat.ne_of_gt (Nat.lt_of_lt_of_le h220 (Nat.le_add_right _ _))
      show ([L + 5, L + 4, L + 3, L + 2, L + 1, 220] : List Nat).Nodup
      simp only [List.nodup_cons, List.mem_cons, List.not_mem_nil, or_false, not_or, not_false_eq_true, List.nodup_nil, and_true]
      have h220' : (220 : Nat) < L := h220
      refine ⟨⟨?_, ?_, ?_, ?_, q 5⟩, ⟨?_, ?_, ?_, q 4⟩, ⟨?_, ?_, q 3⟩, ⟨?_, q 2⟩, q 1⟩ <;> exact fun h => by have h : (_ : Nat) = _ := h; omega
    · simp only [List.mem_cons, List.not_mem_nil, or_false] at he
      rcases he with rfl | rfl | rfl | rfl | rfl | rfl
      · exact N.fresh (o := oV) (by simp)
      · exact N.fresh (o := oO) (by simp)
      · exact N.fresh (o := oN) (by simp)
      · exact N.fresh (o := oM) (by simp)
      · exact N.fresh (o := oT) (by simp)
      · exact N.fresh (o := tabObj #[]) (by simp)
    · exact Heap.FunFrames.cons (by rw [e8]; intro q; cases q) e5 F.ns hLb trivial
    · have hbL : b = L := by
        rcases hb with hb | hb | ⟨o, hb⟩
        · exact hb
        · have hb : b ∈ [env].filterMap (·.frame) := hb
          rw [List.filterMap_cons, e5] at hb
          simpa using hb
        · exact hb.elim
      subst hbL
      intro q
      have q : (b : Nat) ∈ ([b + 5, b + 4, b + 3, b + 2, b + 1, 220] : List Nat) := q
      have h220' : (220 : Nat) < b := h220
      simp only [List.mem_cons, List.not_mem_nil, or_false] at q
      rcases q with q | q | q | q | q | q <;> (have q : (_ : Nat) = _ := q; omega)
  refine wpAny_mono (law_ok (n := 0) PL hl hi hz (show G0 cx.g from rfl) C FC e2 e3 e4 hcd _ s S) (fun f s' ⟨d, ρ', μ', P', l, S', r, q⟩ => ?_) fun e s' he => (noErr (x := XF) he).elim
  obtain ⟨q, ps, hps⟩ := q
  subst q
  obtain ⟨h', tk, es⟩ := S'.same
  obtain ⟨o, ho, eo⟩ := S'.mu _ hps
  have eo : o = tabObj ps := eo
  subst eo
  cases r with
  | ret h =>
    cases h
    have := hQ h' tk ps (fun b o e => by have := S'.stays b o e; rw [es] at this; exact this) (by rw [es] at ho; exact ho)
    rw [es]
    exact this
theorem fin (PL : ∀ (ls : List LineQ) (e : Str), (∀ l ∈ ls, LineOk l) → ls.length ≤ 7 → (e = "\n" ∨ e = "") → Plain ls e) : PySem.Challenge.rw_on0361_01.Holds := hd (by
  k_go0
  rename_i eV eO eN eM eT X0 X1 T1 K1 F1 N1 l0
  refine start PL X1 T1 K1 F1 rfl N1 eV eO eN eM eT l0 lifted (by assumption) ?_ codeHd rfl rfl rfl rfl rfl rfl rfl rfl rfl ?_
  · have hc := ‹¬ (((63 : Nat) : Int) < _)›
    omega
  · intro h' tk ps hst h220
    refine ⟨⟨.inl ⟨.bool true, .bool true, [], rfl, fun cls => ?_, .bool true, ?_, fun _ => ⟨List.nodup_nil, fun a h => nomatch h⟩⟩, hst, rfl, ?_⟩, ⟨ps, h220⟩, trivial⟩
    · rfl
    · refine postW_of (X := true) rfl ?_ rfl
      exact w_eq_bool (k := true) (l := true) (by simp [WTm.value]) (by simp [WTm.value, ofPy])
    · assumption)
end Mine
end

section
open PySem PySem.W PySem.Calls PyProof.Rows
open PySem.Builtin
namespace Mine
/-- a list cut at a sign -/
def splitL (x : UInt8) : List UInt8 → List (List UInt8)
  | [] => [[]]
  | a :: l => if a = x then [] :: splitL x l else match splitL x l with
    | h :: t => (a :: h) :: t
    | [] => [[a]]
def occ (x : UInt8) : Nat → List UInt8 → List Nat
  | _, [] => []
  | off, a :: l => if a = x then off :: occ x (off + 1) l else occ x (off + 1) l
theorem splitL_ne (x : UInt8) : ∀ l, splitL x l ≠ []
  | [] => nofun
  | a :: l => by
    rw [splitL]
    split
    · nofun
    · cases h : splitL x l with
      | nil => nofun
      | cons => nofun
theorem splitL_hit {x : UInt8} {l : List UInt8} : splitL x (x :: l) = [] :: splitL x l := by rw [splitL, if_pos rfl]
theorem splitL_miss {x a : UInt8} {l : List UInt8} {h : List UInt8} {t : List (List UInt8)} (ha : a ≠ x) (e : splitL x l = h :: t) : splitL x (a :: l) = (a :: h) :: t := by rw [splitL, if_neg ha, e]
theorem splitL_none {x : UInt8} : ∀ {l : List UInt8}, x ∉ l → splitL x l = [l]
  | [], _ => rfl
  | a :: l, h => by
    rw [List.mem_cons, not_or] at h
    exact splitL_miss (Ne.symm h.1) (splitL_none h.2)
theorem splitL_cons {x : UInt8} {r : List UInt8} : ∀ {l : List UInt8}, x ∉ l → splitL x (l ++ x :: r) = l :: splitL x r
  | [], _ => splitL_hit
  | a :: l, h => by
    rw [List.mem_cons, not_or] at h
    exact splitL_miss (Ne.symm h.1) (splitL_cons h.2)
theorem extract_at {b : Array UInt8} {pre mid suf : List UInt8} (h : b.toList = pre ++ (mid ++ suf)) : (b.extract pre.length (pre.length + mid.length)).toList = mid := by
  rw [Array.toList_extract, List.extract_eq_take_drop, h, List.drop_left, Nat.add_sub_cancel_left, List.take_left]
theorem beq_one {b : Array UInt8} {pre suf : List UInt8} {a x : UInt8} (h : b.toList = pre ++ a :: suf) : (b.extract pre.length (pre.length + 1) == #[x]) = decide (a = x) := by
  have e := extract_at (b := b) (pre := pre) (mid := [a]) (suf := suf) h
  have e2 : b.extract pre.length (pre.length + 1) = #[a] := by
    have e3 : (b.extract pre.length (pre.length + 1)).toList = (#[a] : Array UInt8).toList := e
    exact Array.toList_inj.mp e3
  rw [e2]
  by_cases q : a = x
  · subst q; simp
  · simp [q]
theorem occ_fold (b : Array UInt8) (x : UInt8) : ∀ (suf pre : List UInt8) (acc : List Nat) (last : Nat), b.toList = pre ++ suf → last ≤ pre.length →
    ((List.range' pre.length suf.length).foldl (fun (acc : List Nat × Nat) i => if i ≥ acc.2 && b.extract i (i + (#[x] : Array UInt8).size) == #[x] then (i :: acc.1, i + (#[x] : Array UInt8).size) else acc) (acc, last)).1.reverse = acc.reverse ++ occ x pre.length suf
  | [], pre, acc, last, h, hl => by simp [occ]
  | a :: suf, pre, acc, last, h, hl => by
    rw [List.length_cons, List.range'_succ, List.foldl_cons]
    have h' : b.toList = (pre ++ [a]) ++ suf := by rw [h]; simp
    have hlen : (pre ++ [a]).length = pre.length + 1 := by simp
    have hb : (b.extract pre.length (pre.length + (#[x] : Array UInt8).size) == #[x]) = decide (a = x) := beq_one h
    dsimp only
    rw [hb]
    by_cases q : a = x
    · have hc : (decide (pre.length ≥ last) && decide (a = x)) = true := by simp [q, hl]
      rw [if_pos hc]
      have ih := occ_fold b x suf (pre ++ [a]) (pre.length :: acc) (pre.length + (#[x] : Array UInt8).size) h' (by rw [hlen]; exact Nat.le_refl _)
      rw [hlen] at ih
      rw [ih, occ, if_pos q]
      simp
    · have hc : ¬ (decide (pre.length ≥ last) && decide (a = x)) = true := by simp [q]
      rw [if_neg hc]
      have ih := occ_fold b x suf (pre ++ [a]) acc last h' (by rw [hlen]; omega)
      rw [hlen] at ih
      rw [ih, occ, if_neg q]
theorem occ_len (x : UInt8) : ∀ (l : List UInt8) (off : Nat), (occ x off l).length ≤ l.length
  | [], _ => Nat.le_refl _
  | a :: l, off => by
    rw [occ]
    have := occ_len x l (off + 1)
    split
    · rw [List.length_cons, List.length_cons]; omega
    · rw [List.length_cons]; omega
theorem occ_eq (b : Array UInt8) (x : UInt8) : Bytes.occurrences b #[x] 0 b.size = occ x 0 b.toList := by
  have := occ_fold b x b.toList [] [] 0 rfl (Nat.le_refl _)
  unfold Bytes.occurrences
  dsimp only
  rw [show b.size + 1 - (0 + (#[x] : Array UInt8).size) = b.toList.length by rw [Array.length_toList]; show b.size + 1 - (0 + 1) = _; omega]
  rw [show (List.range b.toList.length).map (· + 0) = List.range' ([] : List UInt8).length b.toList.length by simp [List.range_eq_range']]
  exact this
theorem betw_occ (b : Array UInt8) (x : UInt8) : ∀ (suf pre mid : List UInt8), b.toList = pre ++ (mid ++ suf) → x ∉ mid → ∀ h t, splitL x suf = h :: t → (betw b 1 pre.length (occ x (pre.length + mid.length) suf)).map Array.toList = (mid ++ h) :: t
  | [], pre, mid, e, hx, h, t, hs => by
    cases hs
    rw [occ, betw, List.map_cons, List.map_nil]
    have e1 := extract_at (b := b) e
    have : b.size = pre.length + mid.length := by
      rw [← Array.length_toList, e]; simp
    rw [this, e1, List.append_nil]
  | a :: suf, pre, mid, e, hx, h, t, hs => by
    by_cases q : a = x
    · subst q
      rw [splitL_hit] at hs
      cases hs
      rw [occ, if_pos rfl, betw, List.map_cons, extract_at (b := b) e, List.append_nil]
      cases hs' : splitL a suf with
      | nil => exact absurd hs' (splitL_ne a suf)
      | cons h' t' =>
        have e' : b.toList = (pre ++ mid ++ [a]) ++ ([] ++ suf) := by rw [e]; simp
        have ih := betw_occ b a suf (pre ++ mid ++ [a]) [] e' (by simp) h' t' hs'
        have hl : (pre ++ mid ++ [a]).length = pre.length + mid.length + 1 := by simp; omega
        rw [hl] at ih
        rw [show pre.length + mid.length + 1 + ([] : List UInt8).length = pre.length + mid.length + 1 from rfl] at ih
        rw [ih, List.nil_append]
    · cases hs' : splitL x suf with
      | nil => exact absurd hs' (splitL_ne x suf)
      | cons h' t' =>
        rw [splitL_miss q hs'] at hs
        cases hs
        have e' : b.toList = pre ++ ((mid ++ [a]) ++ suf) := by rw [e]; simp
        have ih := betw_occ b x suf pre (mid ++ [a]) e' (by simp [hx, Ne.symm q]) h' _ hs'
        rw [occ, if_neg q]
        rw [show pre.length + (mid ++ [a]).length = pre.length + mid.length + 1 by simp; omega] at ih
        rw [ih]
        simp
theorem split_eq (b : Array UInt8) (x : UInt8) : (splitB b #[x]).map Array.toList = splitL x b.toList := by
  unfold splitB
  rw [between_eq, occ_eq, List.take_of_length_le (by have h1 := occ_len x b.toList 0; have h2 := Array.length_toList (xs := b); omega)]
  cases hs : splitL x b.toList with
  | nil => exact absurd hs (splitL_ne x _)
  | cons h t => exact betw_occ b x b.toList [] [] rfl (by simp) h t hs
end Mine
end

section
open PySem PySem.W PySem.Calls PyProof.Rows
open PySem.Builtin
namespace Mine
/-- the place of a sign -/
theorem find_range (b : Array UInt8) (x : UInt8) : ∀ (suf pre : List UInt8), b.toList = pre ++ suf →
    (List.range' pre.length suf.length).find? (fun i => b.extract i (i + (#[x] : Array UInt8).size) == #[x]) = if x ∈ suf then some (pre.length + (suf.takeWhile (· != x)).length) else none
  | [], pre, h => by simp
  | a :: suf, pre, h => by
    rw [List.length_cons, List.range'_succ]
    have h' : b.toList = (pre ++ [a]) ++ suf := by rw [h]; simp
    have hlen : (pre ++ [a]).length = pre.length + 1 := by simp
    have hb : (b.extract pre.length (pre.length + (#[x] : Array UInt8).size) == #[x]) = decide (a = x) := beq_one h
    by_cases q : a = x
    · rw [List.find?_cons_of_pos (by rw [hb]; simp [q])]
      subst q
      rw [if_pos (by simp), List.takeWhile_cons_of_neg (by simp)]
      rfl
    · rw [List.find?_cons_of_neg (by rw [hb]; simp [q])]
      have ih := find_range b x suf (pre ++ [a]) h'
      rw [hlen] at ih
      rw [ih, List.takeWhile_cons_of_pos (by simp [q])]
      by_cases hm : x ∈ suf
      · rw [if_pos hm, if_pos (List.mem_cons_of_mem _ hm), List.length_cons]
        congr 1
        omega
      · rw [if_neg hm, if_neg (by rw [List.mem_cons, not_or]; exact ⟨Ne.symm q, hm⟩)]
theorem find_eq (b : Array UInt8) (x : UInt8) : findB b #[x] = if x ∈ b.toList then ((b.toList.takeWhile (· != x)).length : Int) else -1 := by
  have h1 := Array.length_toList (xs := b)
  have h2 : (#[x] : Array UInt8).size = 1 := rfl
  unfold findB
  by_cases q : (b.size : Int) < (#[x] : Array UInt8).size
  · rw [if_pos q]
    have : b.toList = [] := by
      rw [h2] at q
      exact List.eq_nil_of_length_eq_zero (by omega)
    rw [this]
    simp
  · rw [if_neg q]
    have := find_range b x b.toList [] rfl
    unfold Bytes.find?
    rw [show b.size + 1 - (0 + (#[x] : Array UInt8).size) = b.toList.length by rw [h2]; omega]
    rw [show (List.range b.toList.length).map (· + 0) = List.range' ([] : List UInt8).length b.toList.length by simp [List.range_eq_range']]
    rw [this]
    by_cases hm : x ∈ b.toList
    · rw [if_pos hm, if_pos hm]
      simp
    · rw [if_neg hm, if_neg hm]
theorem takeWhile_len {α : Type} (p : α → Bool) (l : List α) : l.take (l.takeWhile p).length = l.takeWhile p := by
  induction l with
  | nil => rfl
  | cons a l ih =>
    by_cases h : p a = true
    · rw [List.takeWhile_cons_of_pos h, List.length_cons, List.take_succ_cons, ih]
    · rw [List.takeWhile_cons_of_neg h]; rfl
theorem dropWhile_len {α : Type} (p : α → Bool) (l : List α) : l.drop (l.takeWhile p).length = l.dropWhile p := by
  induction l with
  | nil => rfl
  | cons a l ih =>
    by_cases h : p a = true
    · rw [List.takeWhile_cons_of_pos h, List.length_cons, List.drop_succ_cons, ih, List.dropWhile_cons_of_pos h]
    · rw [List.takeWhile_cons_of_neg h, List.dropWhile_cons_of_neg h]; rfl
theorem takeWhile_all {α : Type} {p : α → Bool} {l : List α} (h : ∀ a ∈ l, p a = true) : l.takeWhile p = l := by
  induction l with
  | nil => rfl
  | cons a l ih => rw [List.takeWhile_cons_of_pos (h a (.head _)), ih fun b hb => h b (.tail _ hb)]
theorem dropWhile_all {α : Type} {p : α → Bool} {l : List α} (h : ∀ a ∈ l, p a = true) : l.dropWhile p = [] := by
  induction l with
  | nil => rfl
  | cons a l ih => rw [List.dropWhile_cons_of_pos (h a (.head _)), ih fun b hb => h b (.tail _ hb)]
theorem takeWhile_app {α : Type} {p : α → Bool} {l r : List α} (h : ∀ a ∈ l, p a = true) : (l ++ r).takeWhile p = l ++ r.takeWhile p := by
  induction l with
  | nil => rfl
  | cons a l ih => rw [List.cons_append, List.takeWhile_cons_of_pos (h a (.head _)), ih fun b hb => h b (.tail _ hb), List.cons_append]
theorem dropWhile_app {α : Type} {p : α → Bool} {l r : List α} (h : ∀ a ∈ l, p a = true) : (l ++ r).dropWhile p = r.dropWhile p := by
  induction l with
  | nil => rfl
  | cons a l ih => rw [List.cons_append, List.dropWhile_cons_of_pos (h a (.head _)), ih fun b hb => h b (.tail _ hb)]
theorem clip_of (n k : Nat) (h : k ≤ n) : clipAt n (k : Int) = k := by
  unfold clipAt
  rw [if_neg (by omega)]
  omega
theorem clip_any (n k : Nat) : clipAt n (k : Int) = min k n := by
  unfold clipAt
  rw [if_neg (by omega)]
  omega
def bodyL (l : List UInt8) : List UInt8 := l.takeWhile (· != 35)
def remarkL (l : List UInt8) : List UInt8 := (l.dropWhile (· != 35)).drop 1
abbrev blank (c : UInt8) : Bool := ([32, 9, 13] : List UInt8).contains c
theorem cut_neg (b : Array UInt8) : cutA b < 0 ↔ (35 : UInt8) ∉ b.toList := by
  unfold cutA
  rw [find_eq]
  split
  · rename_i h; constructor
    · intro q; omega
    · intro q; exact absurd h q
  · rename_i h; exact ⟨fun _ => h, fun _ => by decide⟩
theorem cutD_upto (l : List UInt8) (k : Nat) (h : k ≤ l.length) : cutD l none (some (k : Int)) = l.take k := by
  unfold cutD
  simp only [Option.elim_none, Option.elim_some]
  rw [clip_of _ _ h]
  rfl
theorem cutD_from (l : List UInt8) (k : Nat) : cutD l (some (k : Int)) none = l.drop k := by
  unfold cutD
  simp only [Option.elim_none, Option.elim_some]
  rw [clip_any]
  by_cases h : k ≤ l.length
  · rw [Nat.min_eq_left h, List.take_of_length_le (by rw [List.length_drop]; exact Nat.le_refl _)]
  · rw [Nat.min_eq_right (by omega), List.drop_length, List.drop_of_length_le (by omega), List.take_nil]
theorem body_eq (b : Array UInt8) : (bodyA b).toList = bodyL b.toList := by
  unfold bodyA
  by_cases h : (35 : UInt8) ∈ b.toList
  · have hc := find_eq b 35
    rw [if_pos h] at hc
    rw [if_neg (by rw [cut_neg]; exact fun q => q h)]
    unfold cutA
    rw [hc]
    show cutD _ _ _ = _
    have hle : (b.toList.takeWhile (· != (35 : UInt8))).length ≤ b.toList.length := (List.takeWhile_sublist _).length_le
    rw [cutD_upto _ _ hle, takeWhile_len]
    rfl
  · rw [if_pos (by rw [cut_neg]; exact h)]
    unfold bodyL
    rw [takeWhile_all]
    intro a ha
    simp only [bne_iff_ne, ne_eq]
    intro q
    exact h (q ▸ ha)
theorem remark_eq (b : Array UInt8) : (remarkA b).toList = remarkL b.toList := by
  unfold remarkA
  by_cases h : (35 : UInt8) ∈ b.toList
  · have hc := find_eq b 35
    rw [if_pos h] at hc
    rw [if_neg (by rw [cut_neg]; exact fun q => q h)]
    unfold cutA
    rw [hc]
    show cutD _ _ _ = _
    rw [show ((b.toList.takeWhile (· != (35 : UInt8))).length : Int) + 1 = (((b.toList.takeWhile (· != (35 : UInt8))).length + 1 : Nat) : Int) by push_cast; rfl, cutD_from]
    unfold remarkL
    rw [← dropWhile_len, List.drop_drop]
  · rw [if_pos (by rw [cut_neg]; exact h)]
    unfold remarkL
    rw [dropWhile_all]
    · rfl
    intro a ha
    simp only [bne_iff_ne, ne_eq]
    intro q
    exact h (q ▸ ha)
def strip1 (l : List UInt8) : List UInt8 := stripL l [32, 9, 13]
theorem strip_eq (b : Array UInt8) : (stripA b).toList = strip1 b.toList := rfl
theorem fields_eq (b : Array UInt8) : (fieldsA b).map Array.toList = (splitL 59 b.toList).map strip1 := by
  unfold fieldsA
  rw [List.map_map, ← split_eq, List.map_map]
  rfl
theorem head_eq (b : Array UInt8) : (headA b).toList = (strip1 (remarkL b.toList)).drop 9 := by
  unfold headA
  show cutD _ _ _ = _
  rw [strip_eq, remark_eq]
  exact cutD_from _ 9
theorem starts_eq (b c : Array UInt8) : startsB b c = (decide (c.size ≤ b.size) && (b.toList.take c.size == c.toList)) := by
  unfold startsB
  by_cases h : (b.size : Int) < c.size
  · rw [if_pos h, decide_eq_false (by omega), Bool.false_and]
  · rw [if_neg h, decide_eq_true (by omega), Bool.true_and]
    have e : (b.extract 0 c.size).toList = b.toList.take c.size := by
      rw [Array.toList_extract, List.extract_eq_take_drop]; simp
    rw [← e]
    by_cases q : b.extract 0 c.size = c
    · rw [q]; simp
    · have q2 : ¬ (b.extract 0 c.size).toList = c.toList := fun h => q (Array.toList_inj.mp h)
      rw [beq_eq_false_iff_ne.mpr q, beq_eq_false_iff_ne.mpr q2]
/-- stripping -/
theorem strip_mid {pre f post : List UInt8} (h1 : ∀ c ∈ pre, blank c = true) (h2 : ∀ c ∈ f, blank c = false) (h3 : ∀ c ∈ post, blank c = true) : strip1 (pre ++ (f ++ post)) = f := by
  unfold strip1 stripL
  have hb : ∀ l : List UInt8, (∀ c ∈ l, blank c = true) → ∀ c ∈ l, ([32, 9, 13] : List UInt8).contains c = true := fun l h => h
  rw [dropWhile_app (l := pre) h1]
  cases f with
  | nil =>
    rw [List.nil_append, dropWhile_all (l := post) h3]
    rfl
  | cons a f =>
    have ha := h2 a (.head _)
    rw [List.cons_append, List.dropWhile_cons_of_neg (by first | (rw [ha]; exact Bool.false_ne_true) | (rw [show ([32, 9, 13] : List UInt8).contains a = false from ha]; exact Bool.false_ne_true))]
    rw [show (a :: (f ++ post)).reverse = post.reverse ++ (a :: f).reverse by rw [← List.cons_append, List.reverse_append]]
    rw [dropWhile_app (l := post.reverse) (fun c hc => h3 c (List.mem_reverse.mp hc))]
    have : ∀ l : List UInt8, (∀ c ∈ l, blank c = false) → l.dropWhile ([32, 9, 13] : List UInt8).contains = l := by
      intro l hl
      cases l with
      | nil => rfl
      | cons b l => exact List.dropWhile_cons_of_neg (by rw [show ([32, 9, 13] : List UInt8).contains b = false from hl b (.head _)]; exact Bool.false_ne_true)
    rw [this _ (fun c hc => h2 c (List.mem_reverse.mp hc)), List.reverse_reverse]
def rs (l : List UInt8) : List UInt8 := (l.reverse.dropWhile ([32, 9, 13] : List UInt8).contains).reverse
theorem rs_split (l : List UInt8) : ∃ u, l = rs l ++ u ∧ ∀ c ∈ u, blank c = true := by
  refine ⟨(l.reverse.takeWhile ([32, 9, 13] : List UInt8).contains).reverse, ?_, fun c hc => ?_⟩
  · unfold rs
    rw [← List.reverse_append, List.takeWhile_append_dropWhile, List.reverse_reverse]
  · rw [List.mem_reverse] at hc
    have := List.all_takeWhile (p := ([32, 9, 13] : List UInt8).contains) (l := l.reverse)
    rw [List.all_eq_true] at this
    exact this c hc
theorem strip_head {mid M z : List UInt8} (h1 : ∀ c ∈ mid, blank c = true) (h2 : ∀ c ∈ M, blank c = false) (h3 : M ≠ []) : strip1 (mid ++ (M ++ z)) = M ++ rs z := by
  unfold strip1 stripL rs
  rw [dropWhile_app (l := mid) h1]
  cases M with
  | nil => exact absurd rfl h3
  | cons a M =>
    have ha := h2 a (.head _)
    rw [List.cons_append, List.dropWhile_cons_of_neg (by first | (rw [ha]; exact Bool.false_ne_true) | (rw [show ([32, 9, 13] : List UInt8).contains a = false from ha]; exact Bool.false_ne_true))]
    rw [show (a :: (M ++ z)).reverse = z.reverse ++ (a :: M).reverse by rw [← List.cons_append, List.reverse_append]]
    have key : ∀ (l r : List UInt8), r ≠ [] → (∀ c ∈ r, blank c = false) → (l ++ r).dropWhile ([32, 9, 13] : List UInt8).contains = l.dropWhile ([32, 9, 13] : List UInt8).contains ++ r := by
      intro l r hr hb
      induction l with
      | nil =>
        cases r with
        | nil => exact absurd rfl hr
        | cons b r => exact List.dropWhile_cons_of_neg (by rw [show ([32, 9, 13] : List UInt8).contains b = false from hb b (.head _)]; exact Bool.false_ne_true)
      | cons c l ih =>
        by_cases hc : ([32, 9, 13] : List UInt8).contains c = true
        · rw [List.cons_append, List.dropWhile_cons_of_pos hc, List.dropWhile_cons_of_pos hc, ih]
        · rw [List.cons_append, List.dropWhile_cons_of_neg hc, List.dropWhile_cons_of_neg hc, List.cons_append]
    rw [key _ _ (by simp) (fun c hc => h2 c (List.mem_reverse.mp hc)), List.reverse_append, List.reverse_reverse]
theorem strip_mem {l : List UInt8} {c : UInt8} (h : c ∈ l) (hb : blank c = false) : strip1 l ≠ [] := by
  have key : ∀ l : List UInt8, c ∈ l → c ∈ l.dropWhile ([32, 9, 13] : List UInt8).contains := by
    intro l hl
    induction l with
    | nil => cases hl
    | cons a l ih =>
      by_cases ha : ([32, 9, 13] : List UInt8).contains a = true
      · rw [List.dropWhile_cons_of_pos ha]
        rcases List.mem_cons.mp hl with rfl | hl
        · rw [show ([32, 9, 13] : List UInt8).contains c = false from hb] at ha; cases ha
        · exact ih hl
      · rw [List.dropWhile_cons_of_neg ha]; exact hl
  intro q
  have h1 := key _ h
  have h2 := key _ (List.mem_reverse.mpr h1)
  have h3 := List.mem_reverse.mpr h2
  unfold strip1 stripL at q
  rw [q] at h3
  cases h3
theorem strip_blank {l : List UInt8} (h : ∀ c ∈ l, blank c = true) : strip1 l = [] := by
  have := strip_mid (pre := l) (f := []) (post := []) h (fun _ h => by cases h) (fun _ h => by cases h)
  rw [List.nil_append, List.append_nil] at this
  exact this
/-- blanks behind do not change the fields -/
theorem split_behind {u : List UInt8} (hu : (59 : UInt8) ∉ u) : ∀ y : List UInt8, ∃ ini last, splitL 59 y = ini ++ [last] ∧ splitL 59 (y ++ u) = ini ++ [last ++ u]
  | [] => ⟨[], [], rfl, by rw [List.nil_append, splitL_none hu]; rfl⟩
  | a :: y => by
    obtain ⟨ini, last, h1, h2⟩ := split_behind hu y
    by_cases q : a = 59
    · subst q
      exact ⟨[] :: ini, last, by rw [splitL_hit, h1]; rfl, by rw [List.cons_append, splitL_hit, h2]; rfl⟩
    · cases ini with
      | nil => exact ⟨[], a :: last, splitL_miss q h1, splitL_miss q h2⟩
      | cons h t => exact ⟨(a :: h) :: t, last, splitL_miss q h1, splitL_miss q h2⟩
theorem strip_behind {l u : List UInt8} (h : ∀ c ∈ u, blank c = true) : strip1 (l ++ u) = strip1 l := by
  unfold strip1 stripL
  have key : ∀ l : List UInt8, ((l ++ u).dropWhile ([32, 9, 13] : List UInt8).contains = l.dropWhile ([32, 9, 13] : List UInt8).contains ++ u ∧ l.dropWhile ([32, 9, 13] : List UInt8).contains ≠ []) ∨ ((l ++ u).dropWhile ([32, 9, 13] : List UInt8).contains = [] ∧ l.dropWhile ([32, 9, 13] : List UInt8).contains = []) := by
    intro l
    induction l with
    | nil => exact .inr ⟨dropWhile_all (l := u) h, rfl⟩
    | cons a l ih =>
      by_cases ha : ([32, 9, 13] : List UInt8).contains a = true
      · rw [List.cons_append, List.dropWhile_cons_of_pos ha, List.dropWhile_cons_of_pos ha]; exact ih
      · rw [List.cons_append, List.dropWhile_cons_of_neg ha, List.dropWhile_cons_of_neg ha]; exact .inl ⟨rfl, nofun⟩
  rcases key l with ⟨e, _⟩ | ⟨e1, e2⟩
  · rw [e, List.reverse_append, dropWhile_app (l := u.reverse) (fun c hc => h c (List.mem_reverse.mp hc))]
  · rw [e1, e2]
theorem fields_behind {y u : List UInt8} (h : ∀ c ∈ u, blank c = true) : (splitL 59 (y ++ u)).map strip1 = (splitL 59 y).map strip1 := by
  have hu : (59 : UInt8) ∉ u := fun q => by have := h _ q; cases this
  obtain ⟨ini, last, h1, h2⟩ := split_behind hu y
  rw [h1, h2, List.map_append, List.map_append]
  congr 1
  rw [List.map_cons, List.map_cons, strip_behind h]
end Mine
end

section
open PySem PySem.W PySem.Calls PyProof.Rows
open PySem.Builtin
namespace Mine
abbrev LL (x : Str) : List UInt8 := (bytesOf x).toList
theorem LL_eq (x : Str) : LL x = x.cps.toList.map fun c => c.toUInt8 := by
  unfold LL bytesOf byteArr
  rw [List.map_map]
  rfl
theorem LL_app (x y : Str) : LL (x ++ y) = LL x ++ LL y := by
  rw [LL_eq, LL_eq, LL_eq, ← List.map_append]
  congr 1
  show (x.cps ++ y.cps).toList = _
  exact Array.toList_append
def joinL (sep : List UInt8) : List (List UInt8) → List UInt8
  | [] => []
  | [x] => x
  | x :: y :: r => x ++ (sep ++ joinL sep (y :: r))
theorem LL_join (sep : Str) : ∀ xs : List Str, LL (Str.join sep xs) = joinL (LL sep) (xs.map LL)
  | [] => rfl
  | [x] => rfl
  | x :: y :: r => by
    show LL (x ++ sep ++ Str.join sep (y :: r)) = _
    rw [LL_app, LL_app, LL_join sep (y :: r), List.append_assoc]
    rfl
theorem LL_toArray (x : Str) : (LL x).toArray = bytesOf x := by simp [LL]
def cleanB (c : UInt8) : Bool := !blank c && (c != 59 && (c != 35 && c != 10))
def Clean (l : List UInt8) : Prop := ∀ c ∈ l, cleanB c = true
theorem clean_blank {c : UInt8} (h : cleanB c = true) : blank c = false := by
  unfold cleanB at h
  rw [Bool.and_eq_true] at h
  simpa using h.1
theorem clean_59 {c : UInt8} (h : cleanB c = true) : c ≠ 59 := by
  rintro rfl; revert h; decide
theorem clean_35 {c : UInt8} (h : cleanB c = true) : c ≠ 35 := by
  rintro rfl; revert h; decide
theorem clean_10 {c : UInt8} (h : cleanB c = true) : c ≠ 10 := by
  rintro rfl; revert h; decide
theorem blank_59 {c : UInt8} (h : blank c = true) : c ≠ 59 := by
  rintro rfl; revert h; decide
theorem blank_35 {c : UInt8} (h : blank c = true) : c ≠ 35 := by
  rintro rfl; revert h; decide
theorem words_clean : ∀ w ∈ wordsL, Clean (LL w) := by unfold Clean; decide +kernel
theorem ranges_clean : ∀ q ∈ rangesL, Clean (LL q.1) := by unfold Clean; decide +kernel
theorem ranges_ne : ∀ q ∈ rangesL, LL q.1 ≠ [] := by decide +kernel
theorem gaps_blank : ∀ g ∈ gapL, ∀ c ∈ LL g, blank c = true := by decide +kernel
theorem behs_blank : ∀ b ∈ behL, ∀ c ∈ bodyL (LL b), blank c = true := by decide +kernel
theorem nones_empty : ∀ x ∈ noneL, strip1 (bodyL (LL x)) = [] := by decide +kernel
theorem nones_miss : ∀ x ∈ noneL, isMiss (bytesOf x) = false := by decide +kernel
theorem fields_row {g t : List UInt8} (hg : ∀ c ∈ g, blank c = true) (ht : ∀ c ∈ t, blank c = true) : ∀ (F : List (List UInt8)) (f : List UInt8) (pre : List UInt8), (∀ c ∈ pre, blank c = true) → (∀ x ∈ f :: F, Clean x) →
    (splitL 59 (pre ++ (joinL (g ++ ([59] ++ g)) (f :: F) ++ t))).map strip1 = f :: F
  | [], f, pre, hp, hF => by
    have hf := hF f (.head _)
    have e : pre ++ (joinL (g ++ ([59] ++ g)) [f] ++ t) = pre ++ (f ++ t) := rfl
    rw [e, splitL_none, List.map_cons, strip_mid hp (fun c hc => clean_blank (hf c hc)) ht]
    · rfl
    · intro q
      rcases List.mem_append.mp q with q | q
      · exact blank_59 (hp _ q) rfl
      · rcases List.mem_append.mp q with q | q
        · exact clean_59 (hf _ q) rfl
        · exact blank_59 (ht _ q) rfl
  | f' :: F, f, pre, hp, hF => by
    have hf := hF f (.head _)
    have e : pre ++ (joinL (g ++ ([59] ++ g)) (f :: f' :: F) ++ t) = (pre ++ (f ++ g)) ++ 59 :: (g ++ (joinL (g ++ ([59] ++ g)) (f' :: F) ++ t)) := by
      rw [joinL]
      simp
    rw [e, splitL_cons, List.map_cons, strip_mid hp (fun c hc => clean_blank (hf c hc)) hg, fields_row hg ht F f' g hg fun x hx => hF x (.tail _ hx)]
    intro q
    rcases List.mem_append.mp q with q | q
    · exact blank_59 (hp _ q) rfl
    · rcases List.mem_append.mp q with q | q
      · exact clean_59 (hf _ q) rfl
      · exact blank_59 (hg _ q) rfl
theorem join_mem {sep : List UInt8} {c : UInt8} : ∀ {F : List (List UInt8)}, c ∈ joinL sep F → c ∈ sep ∨ ∃ f ∈ F, c ∈ f
  | [], h => by cases h
  | [x], h => .inr ⟨x, .head _, h⟩
  | x :: y :: r, h => by
    rw [joinL] at h
    rcases List.mem_append.mp h with h | h
    · exact .inr ⟨x, .head _, h⟩
    · rcases List.mem_append.mp h with h | h
      · exact .inl h
      · rcases join_mem h with h | ⟨f, hf, h⟩
        · exact .inl h
        · exact .inr ⟨f, .tail _ hf, h⟩
/-- a row's text -/
def rowL (g beh : List UInt8) (F : List (List UInt8)) : List UInt8 := joinL (g ++ ([59] ++ g)) F ++ (g ++ beh)
theorem LL_row (gap beh : Str) (fs : List Str) : LL (rowText gap beh fs) = rowL (LL gap) (LL beh) (fs.map LL) := by
  unfold rowText rowL
  rw [LL_app, LL_app, LL_join, LL_app, LL_app, List.append_assoc, List.append_assoc]
  rfl
theorem body_row {g beh pre : List UInt8} {F : List (List UInt8)} (hg : ∀ c ∈ g, blank c = true) (hp : ∀ c ∈ pre, blank c = true) (hF : ∀ x ∈ F, Clean x) : bodyL (pre ++ rowL g beh F) = pre ++ (joinL (g ++ ([59] ++ g)) F ++ (g ++ bodyL beh)) := by
  have no : ∀ {l : List UInt8}, (∀ c ∈ l, c ≠ 35) → ∀ c ∈ l, (c != (35 : UInt8)) = true := fun h c hc => by simpa using h c hc
  unfold rowL bodyL
  rw [takeWhile_app (no fun c hc => blank_35 (hp c hc)), takeWhile_app (no fun c hc => ?_), takeWhile_app (no fun c hc => blank_35 (hg c hc))]
  rcases join_mem hc with h | ⟨f, hf, h⟩
  · rcases List.mem_append.mp h with h | h
    · exact blank_35 (hg c h)
    · rcases List.mem_append.mp h with h | h
      · rw [List.mem_singleton.mp h]; decide
      · exact blank_35 (hg c h)
  · exact clean_35 (hF f hf c h)
theorem arrays_eq {l : List (Array UInt8)} {fs : List Str} (h : l.map Array.toList = fs.map LL) : l = fs.map bytesOf := by
  have e : (l.map Array.toList).map List.toArray = (fs.map LL).map List.toArray := by rw [h]
  rw [List.map_map, List.map_map] at e
  rw [show (List.toArray ∘ Array.toList : Array UInt8 → Array UInt8) = _root_.id from funext fun a => by simp, List.map_id] at e
  rw [e]
  refine List.map_congr_left fun x _ => ?_
  exact LL_toArray x
section
variable {q : RQ} {ws : List Str} {gap beh head : Str}
theorem all_clean (hq : q ∈ rangesL) (hws : ∀ w ∈ ws, w ∈ wordsL) : ∀ x ∈ (q.1 :: ws).map LL, Clean x := by
  intro x hx
  obtain ⟨s, hs, rfl⟩ := List.mem_map.mp hx
  rcases List.mem_cons.mp hs with rfl | hs
  · exact ranges_clean _ hq
  · exact words_clean _ (hws _ hs)
theorem row_fields (hq : q ∈ rangesL) (hws : ∀ w ∈ ws, w ∈ wordsL) (hg : gap ∈ gapL) (hb : beh ∈ behL) : fieldsA (bodyA (bytesOf (rowText gap beh (q.1 :: ws)))) = (q.1 :: ws).map bytesOf := by
  refine arrays_eq ?_
  have e : LL (rowText gap beh (q.1 :: ws)) = [] ++ rowL (LL gap) (LL beh) ((q.1 :: ws).map LL) := LL_row gap beh (q.1 :: ws)
  rw [fields_eq, body_eq, show (bytesOf (rowText gap beh (q.1 :: ws))).toList = _ from e, body_row (gaps_blank _ hg) (fun _ h => by cases h) (all_clean hq hws)]
  have ht : ∀ c ∈ LL gap ++ bodyL (LL beh), blank c = true := fun c hc => by
    rcases List.mem_append.mp hc with hc | hc
    · exact gaps_blank _ hg c hc
    · exact behs_blank _ hb c hc
  exact fields_row (gaps_blank _ hg) ht (ws.map LL) (LL q.1) [] (fun _ h => by cases h) (all_clean hq hws)
theorem row_strip (hq : q ∈ rangesL) (hws : ∀ w ∈ ws, w ∈ wordsL) (hg : gap ∈ gapL) (hb : beh ∈ behL) : (stripA (bodyA (bytesOf (rowText gap beh (q.1 :: ws))))).toList ≠ [] := by
  have e : LL (rowText gap beh (q.1 :: ws)) = [] ++ rowL (LL gap) (LL beh) ((q.1 :: ws).map LL) := LL_row gap beh (q.1 :: ws)
  rw [strip_eq, body_eq, show (bytesOf (rowText gap beh (q.1 :: ws))).toList = _ from e, body_row (gaps_blank _ hg) (fun _ h => by cases h) (all_clean hq hws)]
  cases hl : LL q.1 with
  | nil => exact absurd hl (ranges_ne _ hq)
  | cons c r =>
    refine strip_mem (c := c) ?_ ?_
    · rw [List.map_cons, hl]
      cases ws.map LL with
      | nil => exact .head _
      | cons y r' => exact .head _
    · exact clean_blank (ranges_clean _ hq c (by rw [hl]; exact .head _))
theorem row_notMiss (hq : q ∈ rangesL) (hws : ∀ w ∈ ws, w ∈ wordsL) (hg : gap ∈ gapL) (hb : beh ∈ behL) : isMiss (bytesOf (rowText gap beh (q.1 :: ws))) = false := by
  unfold isMiss
  rw [beq_eq_false_iff_ne.mpr (row_strip hq hws hg hb), Bool.false_and, Bool.and_false]
abbrev missM : List UInt8 := [64, 109, 105, 115, 115, 105, 110, 103, 58]
theorem head_parts : ∀ h ∈ headL, ∃ pre mid post : List UInt8, LL h = pre ++ 35 :: (mid ++ (missM ++ post)) ∧ (∀ c ∈ pre, blank c = true) ∧ (∀ c ∈ mid, blank c = true) ∧ ∀ c ∈ post, blank c = true := by
  intro h hh
  simp only [headL, List.mem_cons, List.not_mem_nil, or_false] at hh
  rcases hh with rfl | rfl | rfl
  · exact ⟨[], [32], [32], by decide +kernel, by decide, by decide, by decide⟩
  · exact ⟨[], [], [], by decide +kernel, by decide, by decide, by decide⟩
  · exact ⟨[32, 32], [32, 32], [32], by decide +kernel, by decide, by decide, by decide⟩
theorem missM_blank : ∀ c ∈ missM, blank c = false := by decide
theorem bodyL_rs (z : List UInt8) : ∃ u, bodyL z = bodyL (rs z) ++ u ∧ ∀ c ∈ u, blank c = true := by
  obtain ⟨u, h1, h2⟩ := rs_split z
  by_cases hm : (35 : UInt8) ∈ rs z
  · refine ⟨[], ?_, fun _ h => by cases h⟩
    rw [List.append_nil]
    conv => lhs; rw [h1]
    unfold bodyL
    generalize rs z = r at hm
    induction r with
    | nil => cases hm
    | cons a r ih =>
      by_cases q : a = 35
      · subst q
        rw [List.cons_append, List.takeWhile_cons_of_neg (by simp), List.takeWhile_cons_of_neg (by simp)]
      · rw [List.cons_append, List.takeWhile_cons_of_pos (by simpa using q), List.takeWhile_cons_of_pos (by simpa using q)]
        rcases List.mem_cons.mp hm with hm | hm
        · exact absurd hm.symm q
        · rw [ih hm]
  · refine ⟨u, ?_, h2⟩
    have h3 : ∀ c ∈ rs z, (c != (35 : UInt8)) = true := fun c hc => by
      simp only [bne_iff_ne, ne_eq]
      intro q
      exact hm (q ▸ hc)
    have h4 : ∀ c ∈ u, (c != (35 : UInt8)) = true := fun c hc => by simpa using blank_35 (h2 c hc)
    conv => lhs; rw [h1]
    unfold bodyL
    rw [takeWhile_app h3, takeWhile_all h3, takeWhile_all h4]
theorem miss_all (hq : q ∈ rangesL) (hws : ∀ w ∈ ws, w ∈ wordsL) (hg : gap ∈ gapL) (hb : beh ∈ behL) (hh : head ∈ headL) :
    (stripA (bodyA (bytesOf (head ++ rowText gap beh (q.1 :: ws))))).toList = [] ∧ isMiss (bytesOf (head ++ rowText gap beh (q.1 :: ws))) = true ∧ fieldsA (bodyA (headA (bytesOf (head ++ rowText gap beh (q.1 :: ws))))) = (q.1 :: ws).map bytesOf := by
  obtain ⟨pre, mid, post, e1, h1, h2, h3⟩ := head_parts _ hh
  have e : (bytesOf (head ++ rowText gap beh (q.1 :: ws))).toList = pre ++ 35 :: (mid ++ (missM ++ (post ++ rowL (LL gap) (LL beh) ((q.1 :: ws).map LL)))) := by
    show LL _ = _
    rw [LL_app, LL_row, e1]
    simp
  generalize bytesOf (head ++ rowText gap beh (q.1 :: ws)) = B at e ⊢
  have hp : ∀ c ∈ pre, (c != (35 : UInt8)) = true := fun c hc => by simpa using blank_35 (h1 c hc)
  have hbody : bodyL B.toList = pre := by
    rw [e]
    unfold bodyL
    rw [takeWhile_app hp, List.takeWhile_cons_of_neg (by simp), List.append_nil]
  have hrem : remarkL B.toList = mid ++ (missM ++ (post ++ rowL (LL gap) (LL beh) ((q.1 :: ws).map LL))) := by
    rw [e]
    unfold remarkL
    rw [dropWhile_app hp, List.dropWhile_cons_of_neg (by simp)]
    rfl
  have hst : strip1 (remarkL B.toList) = missM ++ rs (post ++ rowL (LL gap) (LL beh) ((q.1 :: ws).map LL)) := by
    rw [hrem]
    exact strip_head h2 missM_blank (by simp)
  have s1 : (stripA (bodyA B)).toList = [] := by
    rw [strip_eq, body_eq, hbody]
    exact strip_blank h1
  refine ⟨s1, ?_, ?_⟩
  · unfold isMiss
    rw [s1]
    have hcut : decide (0 ≤ cutA B) = true := by
      rw [decide_eq_true_eq]
      have : ¬ cutA B < 0 := fun h => (cut_neg B).mp h (by rw [e]; simp)
      omega
    rw [hcut, starts_eq]
    have hs : (stripA (remarkA B)).toList = missM ++ rs (post ++ rowL (LL gap) (LL beh) ((q.1 :: ws).map LL)) := by
      rw [strip_eq, remark_eq, hst]
    have hsz : (#[64, 109, 105, 115, 115, 105, 110, 103, 58] : Array UInt8).size ≤ (stripA (remarkA B)).size := by
      rw [← Array.length_toList (xs := stripA (remarkA B)), hs, List.length_append]
      show 9 ≤ 9 + _
      omega
    rw [decide_eq_true hsz, hs]
    rfl
  · refine arrays_eq ?_
    rw [fields_eq, body_eq, head_eq, hst]
    rw [show (missM ++ rs (post ++ rowL (LL gap) (LL beh) ((q.1 :: ws).map LL))).drop 9 = rs (post ++ rowL (LL gap) (LL beh) ((q.1 :: ws).map LL)) from rfl]
    obtain ⟨u, hu1, hu2⟩ := bodyL_rs (post ++ rowL (LL gap) (LL beh) ((q.1 :: ws).map LL))
    rw [← fields_behind hu2, ← hu1, body_row (gaps_blank _ hg) h3 (all_clean hq hws)]
    have ht : ∀ c ∈ LL gap ++ bodyL (LL beh), blank c = true := fun c hc => by
      rcases List.mem_append.mp hc with hc | hc
      · exact gaps_blank _ hg c hc
      · exact behs_blank _ hb c hc
    exact fields_row (gaps_blank _ hg) ht (ws.map LL) (LL q.1) post h3 (all_clean hq hws)
end
end Mine
end

section
open PySem PySem.W PySem.Calls PyProof.Rows
open PySem.Builtin
namespace Mine
def pairO : Option Int → Option Int → Option (Int × Int)
  | some a, some b => some (a, b)
  | _, _ => none
theorem ranges_of : ∀ q ∈ rangesL, rangeOf (bytesOf q.1) = pairO q.2.1 q.2.2 := by decide +kernel
theorem ranges_ascii : ∀ q ∈ rangesL, asciiS (bytesOf q.1) = q.1 := by decide +kernel
theorem words_ascii : ∀ w ∈ wordsL, asciiS (bytesOf w) = w := by decide +kernel
theorem words_Word : ∀ w ∈ wordsL, ((bytesOf w).toList == (#[87, 111, 114, 100] : Array UInt8).toList) = (w == "Word") := by decide +kernel
theorem words_word : ∀ w ∈ wordsL, ((bytesOf w).toList == (bytesOf "Word").toList) = (w == "Word") := by decide +kernel
theorem words_X : ∀ w ∈ wordsL, ((bytesOf w).toList == (bytesOf "X").toList) = (w == "X") := by decide +kernel
theorem nones_10 : ∀ x ∈ noneL, (10 : UInt8) ∉ LL x := by decide +kernel
theorem behs_10 : ∀ x ∈ behL, (10 : UInt8) ∉ LL x := by decide +kernel
theorem heads_10 : ∀ x ∈ headL, (10 : UInt8) ∉ LL x := by decide +kernel
theorem nones_asc : ∀ x ∈ noneL, ∀ c ∈ x.cps.toList, c < 128 := by decide +kernel
theorem behs_asc : ∀ x ∈ behL, ∀ c ∈ x.cps.toList, c < 128 := by decide +kernel
theorem heads_asc : ∀ x ∈ headL, ∀ c ∈ x.cps.toList, c < 128 := by decide +kernel
theorem gaps_asc : ∀ x ∈ gapL, ∀ c ∈ x.cps.toList, c < 128 := by decide +kernel
theorem words_asc : ∀ x ∈ wordsL, ∀ c ∈ x.cps.toList, c < 128 := by decide +kernel
theorem ranges_asc : ∀ x ∈ rangesL, ∀ c ∈ x.1.cps.toList, c < 128 := by decide +kernel
/-- lines -/
theorem row_10 {q : RQ} {ws : List Str} {gap beh : Str} (hq : q ∈ rangesL) (hws : ∀ w ∈ ws, w ∈ wordsL) (hg : gap ∈ gapL) (hb : beh ∈ behL) : (10 : UInt8) ∉ LL (rowText gap beh (q.1 :: ws)) := by
  rw [LL_row]
  unfold rowL
  have g10 : (10 : UInt8) ∉ LL gap := fun h => by have := gaps_blank _ hg _ h; revert this; decide
  intro h
  rcases List.mem_append.mp h with h | h
  · rcases join_mem h with h | ⟨f, hf, h⟩
    · rcases List.mem_append.mp h with h | h
      · exact g10 h
      · rcases List.mem_append.mp h with h | h
        · revert h; decide
        · exact g10 h
    · exact clean_10 (all_clean hq hws f hf _ h) rfl
  · rcases List.mem_append.mp h with h | h
    · exact g10 h
    · exact behs_10 _ hb h
theorem LineOk.no10 {l : LineQ} (h : LineOk l) : (10 : UInt8) ∉ LL l.1 := by
  cases h with
  | none h => exact nones_10 _ h
  | row hq hws hl hg hb => exact row_10 hq hws hg hb
  | miss hq hws h1 hl hg hb hh =>
    show _ ∉ LL (_ ++ _)
    rw [LL_app]
    intro h
    rcases List.mem_append.mp h with h | h
    · exact heads_10 _ hh h
    · exact row_10 hq hws hg hb h
theorem split_joined {t : List UInt8} {tl : List (List UInt8)} (ht : (t = [] ∧ tl = []) ∨ (t = [10] ∧ tl = [[]])) : ∀ (r : List (List UInt8)) (x : List UInt8), (∀ y ∈ x :: r, (10 : UInt8) ∉ y) → splitL 10 (joinL [10] (x :: r) ++ t) = (x :: r) ++ tl
  | [], x, h => by
    have hx := h x (.head _)
    show splitL 10 (x ++ t) = _
    rcases ht with ⟨rfl, rfl⟩ | ⟨rfl, rfl⟩
    · rw [List.append_nil, splitL_none hx]; rfl
    · rw [splitL_cons hx]; rfl
  | y :: r, x, h => by
    have hx := h x (.head _)
    rw [joinL, List.append_assoc]
    show splitL 10 (x ++ 10 :: (joinL [10] (y :: r) ++ t)) = _
    rw [splitL_cons hx, split_joined ht r y fun z hz => h z (.tail _ hz)]
    rfl
theorem empty_of {x : Array UInt8} (h : x.toList = []) : x = #[] := Array.toList_inj.mp h
theorem lines_eq {ls : List LineQ} {e : Str} (hls : ∀ l ∈ ls, LineOk l) (he : e = "\n" ∨ e = "") : ∃ tail : List (Array UInt8), linesB (bytesOf (textOf ls e)) = ls.map (fun l => bytesOf l.1) ++ tail ∧ (∀ x ∈ tail, x = #[]) ∧ tail.length ≤ 2 := by
  have hs := split_eq (bytesOf (textOf ls e)) 10
  have he2 : LL e = [10] ∨ LL e = [] := by
    rcases he with rfl | rfl
    · exact .inl (by decide +kernel)
    · exact .inr (by decide +kernel)
  have ht : LL (textOf ls e) = joinL [10] (ls.map fun l => LL l.1) ++ LL e := by
    unfold textOf
    rw [LL_app, LL_join, show LL "\n" = [10] by decide +kernel, List.map_map]
    rfl
  have hs : (linesB (bytesOf (textOf ls e))).map Array.toList = splitL 10 (LL (textOf ls e)) := hs
  rw [ht] at hs
  generalize linesB (bytesOf (textOf ls e)) = L at hs ⊢
  cases ls with
  | nil =>
    refine ⟨L, rfl, fun x hx => ?_, ?_⟩
    · have : x.toList ∈ L.map Array.toList := List.mem_map_of_mem hx
      rw [hs] at this
      rcases he2 with h | h <;> rw [h] at this <;> exact empty_of (by revert this; simp [joinL, splitL])
    · have : L.length = (L.map Array.toList).length := by rw [List.length_map]
      rw [this, hs]
      rcases he2 with h | h <;> rw [h] <;> simp [joinL, splitL]
  | cons l r =>
    have hno : ∀ y ∈ LL l.1 :: r.map (fun l => LL l.1), (10 : UInt8) ∉ y := by
      intro y hy
      have hy : y ∈ (l :: r).map (fun l => LL l.1) := hy
      obtain ⟨l', hl', rfl⟩ := List.mem_map.mp hy
      exact (hls l' hl').no10
    have key : ∃ tl : List (List UInt8), L.map Array.toList = (l :: r).map (fun l => LL l.1) ++ tl ∧ (tl = [] ∨ tl = [[]]) := by
      rcases he2 with h | h
      · rw [h] at hs
        exact ⟨[[]], hs.trans (split_joined (.inr ⟨rfl, rfl⟩) _ _ hno), .inr rfl⟩
      · rw [h] at hs
        exact ⟨[], hs.trans (split_joined (.inl ⟨rfl, rfl⟩) _ _ hno), .inl rfl⟩
    obtain ⟨tl, hk, htl⟩ := key
    have e : (L.map Array.toList).map List.toArray = ((l :: r).map (fun l => LL l.1) ++ tl).map List.toArray := by rw [hk]
    rw [List.map_map, show (List.toArray ∘ Array.toList : Array UInt8 → Array UInt8) = _root_.id from funext fun a => by simp, List.map_id, List.map_append, List.map_map] at e
    have e2 : (l :: r).map (List.toArray ∘ fun l => LL l.1) = (l :: r).map fun l => bytesOf l.1 := List.map_congr_left fun x _ => LL_toArray x.1
    rw [e2] at e
    refine ⟨tl.map List.toArray, e, fun x hx => ?_, ?_⟩
    · rcases htl with rfl | rfl
      · cases hx
      · simpa using hx
    · rcases htl with rfl | rfl <;> simp
theorem rows_tail : ∀ (tail : List (Array UInt8)) (i : Nat), (∀ x ∈ tail, x = #[]) → rowsA i tail = []
  | [], _, _ => rfl
  | x :: r, i, h => by
    have hx := h x (.head _)
    subst hx
    rw [rowsA_out (by decide +kernel), rows_tail r (i + 1) fun y hy => h y (.tail _ hy)]
theorem miss_tail : ∀ (tail : List (Array UInt8)) (i : Nat), (∀ x ∈ tail, x = #[]) → missA i tail = []
  | [], _, _ => rfl
  | x :: r, i, h => by
    have hx := h x (.head _)
    subst hx
    rw [missA_out (by decide +kernel), miss_tail r (i + 1) fun y hy => h y (.tail _ hy)]
theorem none_out {x : Str} (h : x ∈ noneL) : (stripA (bodyA (bytesOf x))).toList = [] := by rw [strip_eq, body_eq]; exact nones_empty _ h
theorem ne_true {l : List UInt8} (h : l ≠ []) : (l != []) = true := by simpa using h
theorem ne_false {l : List UInt8} (h : l = []) : (l != []) = false := by rw [h]; rfl
theorem fields_ascii {q : RQ} {ws : List Str} (hq : q ∈ rangesL) (hws : ∀ w ∈ ws, w ∈ wordsL) : ((q.1 :: ws).map bytesOf).map asciiS = q.1 :: ws := by
  rw [List.map_map]
  have : ∀ x ∈ q.1 :: ws, (asciiS ∘ bytesOf) x = x := by
    intro x hx
    rcases List.mem_cons.mp hx with rfl | hx
    · exact ranges_ascii _ hq
    · exact words_ascii _ (hws _ hx)
  exact (List.map_congr_left this).trans (List.map_id _)
theorem getD_map (fs : List Str) (k : Nat) (h : k < fs.length) : (fs.map bytesOf).getD k #[] = bytesOf (fs.getD k "") := by
  rw [List.getD_eq_getElem?_getD, List.getD_eq_getElem?_getD, List.getElem?_map, List.getElem?_eq_getElem h]
  rfl
/-- ranged -/
theorem ranged_same {many : Int} {tail : List (Array UInt8)} (ht : ∀ x ∈ tail, x = #[]) : ∀ (ls : List LineQ) (i : Nat) (acc : List Quad), (∀ l ∈ ls, LineOk l) →
    (rangedGo many acc (rowsA i (ls.map (fun l => bytesOf l.1) ++ tail))).map (List.map plainQ) = rangedDue many i (acc.map plainQ) ls
  | [], i, acc, _ => by
    rw [List.map_nil, List.nil_append, rows_tail tail i ht]
    rfl
  | l :: r, i, acc, h => by
    have ih := fun acc => ranged_same (many := many) ht r (i + 1) acc fun x hx => h x (.tail _ hx)
    rw [List.map_cons, List.cons_append]
    cases h l (.head _) with
    | none hx => rw [rowsA_out (ne_false (none_out hx)), rdue_out (by decide +kernel), ih]
    | miss hq hws h1 hl hg hb hh => rw [rowsA_out (ne_false (miss_all hq hws hg hb hh).1), rdue_out (by decide +kernel), ih]
    | row hq hws hl hg hb =>
      rename_i q ws gap beh
      rw [rowsA_in (ne_true (row_strip hq hws hg hb)), row_fields hq hws hg hb]
      cases hm : (((q.1 :: ws).length : Int) != many) with
      | true =>
        rw [ranged_ne (by dsimp only; rw [List.length_map]; exact hm), rdue_ne (by decide +kernel) hm]
        rfl
      | false =>
        have hm' : ((((q.1 :: ws).map bytesOf).length : Int) != many) = false := by rw [List.length_map]; exact hm
        have hr : rangeOf (((q.1 :: ws).map bytesOf).getD 0 #[]) = pairO q.2.1 q.2.2 := by
          rw [show ((q.1 :: ws).map bytesOf).getD 0 #[] = bytesOf q.1 from rfl]
          exact ranges_of _ hq
        generalize stripA (remarkA (bytesOf (rowText gap beh (q.1 :: ws)))) = rm
        rcases range_both q hq with ⟨h1, h2⟩ | ⟨a, b, h1, h2⟩
        · rw [h1, h2] at hr ⊢
          have hr : rangeOf (((q.1 :: ws).map bytesOf).getD 0 #[]) = none := hr
          rw [ranged_bad (row := ((i : Int) + 1, (q.1 :: ws).map bytesOf, rm)) hm' hr, rdue_bad (by decide +kernel) hm]
          rfl
        · rw [h1, h2] at hr ⊢
          have hr : rangeOf (((q.1 :: ws).map bytesOf).getD 0 #[]) = some (a, b) := hr
          rw [ranged_in (row := ((i : Int) + 1, (q.1 :: ws).map bytesOf, rm)) (x := a) (y := b) hm' hr, rdue_in (by decide +kernel) hm, ih, List.map_append]
          congr 1
          congr 1
          show [(a, b, ((q.1 :: ws).map bytesOf).map asciiS, (i : Int) + 1)] = _
          rw [fields_ascii hq hws]
/-- worded -/
theorem worded_same {tail : List (Array UInt8)} (ht : ∀ x ∈ tail, x = #[]) : ∀ (ls : List LineQ) (i : Nat) (acc : List WQ), (∀ l ∈ ls, LineOk l) →
    (wordedGo #[87, 111, 114, 100] acc (rowsA i (ls.map (fun l => bytesOf l.1) ++ tail))).map (List.map plainW) = wordedDue "Word" i (acc.map plainW) ls
  | [], i, acc, _ => by
    rw [List.map_nil, List.nil_append, rows_tail tail i ht]
    rfl
  | l :: r, i, acc, h => by
    have ih := fun acc => worded_same ht r (i + 1) acc fun x hx => h x (.tail _ hx)
    rw [List.map_cons, List.cons_append]
    cases h l (.head _) with
    | none hx => rw [rowsA_out (ne_false (none_out hx)), wdue_out (by decide +kernel), ih]
    | miss hq hws h1 hl hg hb hh => rw [rowsA_out (ne_false (miss_all hq hws hg hb hh).1), wdue_out (by decide +kernel), ih]
    | row hq hws hl hg hb =>
      rename_i q ws gap beh
      rw [rowsA_in (ne_true (row_strip hq hws hg hb)), row_fields hq hws hg hb]
      cases hm : decide (((q.1 :: ws).length : Int) < 2) with
      | true =>
        rw [worded_lt (by dsimp only; rw [List.length_map]; exact hm), wdue_lt (by decide +kernel) hm]
        rfl
      | false =>
        have hm' : decide ((((q.1 :: ws).map bytesOf).length : Int) < 2) = false := by rw [List.length_map]; exact hm
        have hr : rangeOf (((q.1 :: ws).map bytesOf).getD 0 #[]) = pairO q.2.1 q.2.2 := by
          rw [show ((q.1 :: ws).map bytesOf).getD 0 #[] = bytesOf q.1 from rfl]
          exact ranges_of _ hq
        generalize stripA (remarkA (bytesOf (rowText gap beh (q.1 :: ws)))) = rm
        rcases range_both q hq with ⟨h1, h2⟩ | ⟨a, b, h1, h2⟩
        · rw [h1, h2] at hr ⊢
          have hr : rangeOf (((q.1 :: ws).map bytesOf).getD 0 #[]) = none := hr
          rw [worded_bad (row := ((i : Int) + 1, (q.1 :: ws).map bytesOf, rm)) hm' hr, wdue_bad (by decide +kernel) hm]
          rfl
        · rw [h1, h2] at hr ⊢
          have hr : rangeOf (((q.1 :: ws).map bytesOf).getD 0 #[]) = some (a, b) := hr
          have hlen : 2 ≤ (q.1 :: ws).length := by rw [decide_eq_false_iff_not] at hm; omega
          cases ws with
          | nil => simp at hlen
          | cons w1 ws =>
            have hw1 := hws w1 (.head _)
            have hd1 : ((((q.1 :: w1 :: ws).map bytesOf).getD 1 #[]).toList == (#[87, 111, 114, 100] : Array UInt8).toList) = (w1 == "Word") := words_Word _ hw1
            cases hw : (w1 == ("Word" : Str)) with
            | false =>
              rw [hw] at hd1
              rw [worded_ne (row := ((i : Int) + 1, (q.1 :: w1 :: ws).map bytesOf, rm)) (p := (a, b)) hm' hr hd1, wdue_ne (by decide +kernel) hm hw, ih]
            | true =>
              rw [hw] at hd1
              cases h3 : (((q.1 :: w1 :: ws).length : Int) != 3) with
              | true =>
                rw [worded_odd (row := ((i : Int) + 1, (q.1 :: w1 :: ws).map bytesOf, rm)) (p := (a, b)) hm' hr hd1 (by dsimp only; rw [List.length_map]; exact h3), wdue_odd (by decide +kernel) hm hw h3]
                rfl
              | false =>
                rw [worded_in (row := ((i : Int) + 1, (q.1 :: w1 :: ws).map bytesOf, rm)) (x := a) (y := b) hm' hr hd1 (by dsimp only; rw [List.length_map]; exact h3), wdue_in (by decide +kernel) hm hw h3, ih, List.map_append]
                congr 1
                congr 1
                have hl3 : ((q.1 :: w1 :: ws).length : Int) = 3 := by simpa using h3
                cases ws with
                | nil => simp at hl3
                | cons w2 ws =>
                  show [(a, b, asciiS (bytesOf w2), (i : Int) + 1)] = _
                  rw [words_ascii _ (hws w2 (.tail _ (.head _)))]
                  rfl
end Mine
end

section
open PySem PySem.W PySem.Calls PyProof.Rows
open PySem.Builtin
namespace Mine
theorem words_same {w f : Str} (hw : w = "Word" ∨ w = "X") (hf : f ∈ wordsL) : ((bytesOf f).toList == (bytesOf w).toList) = (f == w) := by
  rcases hw with rfl | rfl
  · exact words_word _ hf
  · exact words_X _ hf
theorem put_same {w : Option Str} {t : Str} {q : RQ} {ws : List Str} {fi la : Option Int} (hw : w = none ∨ w = some ("Word" : Str) ∨ w = some ("X" : Str)) (hws : ∀ x ∈ ws, x ∈ wordsL) (h1 : 1 ≤ ws.length) : isPut (wordB w) ((q.1 :: ws).map bytesOf) = isDue w (t, "missing", q.1 :: ws, fi, la) := by
  unfold isPut isDue
  dsimp only
  rw [List.length_map, show (("missing" : Str) == "missing") = true by decide +kernel, Bool.true_and]
  cases w with
  | none =>
    show (((((q.1 :: ws).length : Nat) : Int) == 2) && true || ((((q.1 :: ws).length : Nat) : Int) == 3) && true) = _
    generalize (((q.1 :: ws).length : Nat) : Int) = k
    simp only [List.any_cons, List.any_nil, Bool.or_false, Bool.and_true]
    rw [show (k == 2) = ((2 : Int) == k) from Bool.beq_comm, show (k == 3) = ((3 : Int) == k) from Bool.beq_comm]
  | some w =>
    have hw : w = "Word" ∨ w = "X" := by
      rcases hw with h | h | h
      · cases h
      · exact .inl (Option.some.inj h)
      · exact .inr (Option.some.inj h)
    cases ws with
    | nil => simp at h1
    | cons w1 ws =>
      have := words_same hw (hws w1 (.head _))
      show (((((q.1 :: w1 :: ws).length : Nat) : Int) == 2) && false || ((((q.1 :: w1 :: ws).length : Nat) : Int) == 3) && ((bytesOf w1).toList == (bytesOf w).toList)) = _
      rw [this, Bool.and_false, Bool.false_or]
      rfl
theorem last_same {q : RQ} {ws : List Str} (hws : ∀ x ∈ ws, x ∈ wordsL) (h1 : 1 ≤ ws.length) : asciiS (((q.1 :: ws).map bytesOf).getD (((q.1 :: ws).map bytesOf).length - 1) #[]) = (q.1 :: ws).getD ((q.1 :: ws).length - 1) "" := by
  rw [List.length_map, getD_map _ _ (by rw [List.length_cons]; omega)]
  refine words_ascii _ (hws _ ?_)
  have hk : (q.1 :: ws).length - 1 = (ws.length - 1) + 1 := by rw [List.length_cons]; omega
  rw [hk, List.getD_eq_getElem?_getD, List.getElem?_cons_succ, List.getElem?_eq_getElem (by omega)]
  exact List.getElem_mem _
theorem miss_same {w : Option Str} {val : Str → Option D} {tail : List (Array UInt8)} (hw : w = none ∨ w = some ("Word" : Str) ∨ w = some ("X" : Str)) (ht : ∀ x ∈ tail, x = #[]) : ∀ (ls : List LineQ) (i : Nat) (acc : List MQ), (∀ l ∈ ls, LineOk l) →
    missGo (wordB w) val acc (missA i (ls.map (fun l => bytesOf l.1) ++ tail)) = missDue w val i acc ls
  | [], i, acc, _ => by
    rw [List.map_nil, List.nil_append, miss_tail tail i ht]
    rfl
  | l :: r, i, acc, h => by
    have ih := fun acc => miss_same (val := val) hw ht r (i + 1) acc fun x hx => h x (.tail _ hx)
    rw [List.map_cons, List.cons_append]
    have out : ∀ (t s : Str) (f : List Str) (fi la : Option Int), (s == ("missing" : Str)) = false → isDue w (t, s, f, fi, la) = false := fun t s f fi la hs => by
      unfold isDue
      rw [hs, Bool.false_and]
    cases h l (.head _) with
    | none hx => rw [missA_out (nones_miss _ hx), due_out (out _ _ _ _ _ (by decide +kernel)), ih]
    | row hq hws hl hg hb => rw [missA_out (row_notMiss hq hws hg hb), due_out (out _ _ _ _ _ (by decide +kernel)), ih]
    | miss hq hws h1 hl hg hb hh =>
      rename_i q ws gap beh head
      obtain ⟨_, m2, m3⟩ := miss_all hq hws hg hb hh
      rw [missA_in m2, m3]
      have hp := put_same (t := head ++ rowText gap beh (q.1 :: ws)) (q := q) (fi := q.2.1) (la := q.2.2) hw hws h1
      have hlast := last_same (q := q) hws h1
      cases hd : isDue w (head ++ rowText gap beh (q.1 :: ws), "missing", q.1 :: ws, q.2.1, q.2.2) with
      | false =>
        rw [hd] at hp
        rw [miss_out (row := ((i : Int) + 1, (q.1 :: ws).map bytesOf)) hp, due_out hd, ih]
      | true =>
        rw [hd] at hp
        have hr : rangeOf (((q.1 :: ws).map bytesOf).getD 0 #[]) = pairO q.2.1 q.2.2 := by
          rw [show ((q.1 :: ws).map bytesOf).getD 0 #[] = bytesOf q.1 from rfl]
          exact ranges_of _ hq
        rcases range_both q hq with ⟨e1, e2⟩ | ⟨a, b, e1, e2⟩
        · rw [e1, e2] at hr hd ⊢
          have hr : rangeOf (((q.1 :: ws).map bytesOf).getD 0 #[]) = none := hr
          rw [miss_bad (row := ((i : Int) + 1, (q.1 :: ws).map bytesOf)) hp hr, due_bad hd]
        · rw [e1, e2] at hr hd ⊢
          have hr : rangeOf (((q.1 :: ws).map bytesOf).getD 0 #[]) = some (a, b) := hr
          cases hv : val ((q.1 :: ws).getD ((q.1 :: ws).length - 1) "") with
          | none =>
            rw [miss_val (row := ((i : Int) + 1, (q.1 :: ws).map bytesOf)) (p := (a, b)) hp hr (by dsimp only; rw [hlast]; exact hv), due_val hd hv]
          | some d =>
            rw [miss_in (row := ((i : Int) + 1, (q.1 :: ws).map bytesOf)) (x := a) (y := b) (d := d) hp hr (by dsimp only; rw [hlast]; exact hv), due_in hd hv, ih]
/-- ranges that meet -/
theorem apart_met : ∀ (r : List Tri) (a : Tri), (∀ t ∈ a :: r, t.1 ≤ t.2.1) → apart (some a) r = (metL (a :: r) r).head?
  | [], a, _ => rfl
  | b :: r, a, h => by
    have hb := h b (.tail _ (.head _))
    rw [metL]
    by_cases q : b.1 ≤ a.2.1
    · rw [apart_hit q, if_pos (by simpa using q), List.head?_cons, Int.max_comm]
    · rw [apart_new q (by omega), if_neg (by simpa using q)]
      exact apart_met r b fun t ht => h t (.tail _ ht)
theorem apart_all : ∀ (S : List Tri), (∀ t ∈ S, t.1 ≤ t.2.1) → apart none S = (metL S (S.drop 1)).head?
  | [], _ => rfl
  | a :: r, h => by rw [apart_none]; exact apart_met r a h
theorem rangeOf_le {b : Array UInt8} {p : Int × Int} (h : rangeOf b = some p) : p.1 ≤ p.2 := by
  unfold rangeOf at h
  split at h
  · cases h
  · unfold rangeFin at h
    split at h
    · split at h
      · cases h
      · cases h
        dsimp only
        omega
    · cases h
theorem ranged_ok {many : Int} : ∀ (rows : List Row) (acc l : List Quad), rangedGo many acc rows = .ok l → l.length ≤ acc.length + rows.length ∧ ∀ q ∈ l, q ∈ acc ∨ ∃ row ∈ rows, q.2.2.1 = row.2.1
  | [], acc, l, h => by
    rw [rangedGo] at h
    cases h
    exact ⟨Nat.le_refl _, fun q hq => .inl hq⟩
  | row :: r, acc, l, h => by
    rw [rangedGo] at h
    split at h
    · cases h
    · split at h
      · cases h
      · obtain ⟨h1, h2⟩ := ranged_ok r _ l h
        refine ⟨by rw [List.length_append, List.length_singleton] at h1; rw [List.length_cons]; omega, fun q hq => ?_⟩
        rcases h2 q hq with hq | ⟨row', h3, h4⟩
        · rcases List.mem_append.mp hq with hq | hq
          · exact .inl hq
          · rw [List.mem_singleton.mp hq]; exact .inr ⟨row, .head _, rfl⟩
        · exact .inr ⟨row', .tail _ h3, h4⟩
theorem worded_ok {word : Array UInt8} : ∀ (rows : List Row) (acc l : List WQ), wordedGo word acc rows = .ok l → l.length ≤ acc.length + rows.length ∧ ∀ q ∈ l, q ∈ acc ∨ ((∃ row ∈ rows, q.2.2.1 = row.2.1.getD 2 #[]) ∧ q.1 ≤ q.2.1)
  | [], acc, l, h => by
    rw [wordedGo] at h
    cases h
    exact ⟨Nat.le_refl _, fun q hq => .inl hq⟩
  | row :: r, acc, l, h => by
    rw [wordedGo] at h
    split at h
    · cases h
    · split at h
      · cases h
      · rename_i p hp
        split at h
        · split at h
          · cases h
          · obtain ⟨h1, h2⟩ := worded_ok r _ l h
            refine ⟨by rw [List.length_append, List.length_singleton] at h1; rw [List.length_cons]; omega, fun q hq => ?_⟩
            rcases h2 q hq with hq | ⟨⟨row', h3, h4⟩, h5⟩
            · rcases List.mem_append.mp hq with hq | hq
              · exact .inl hq
              · rw [List.mem_singleton.mp hq]; exact .inr ⟨⟨row, .head _, rfl⟩, rangeOf_le hp⟩
            · exact .inr ⟨⟨row', .tail _ h3, h4⟩, h5⟩
        · obtain ⟨h1, h2⟩ := worded_ok r _ l h
          refine ⟨by rw [List.length_cons]; omega, fun q hq => ?_⟩
          rcases h2 q hq with hq | ⟨⟨row', h3, h4⟩, h5⟩
          · exact .inl hq
          · exact .inr ⟨⟨row', .tail _ h3, h4⟩, h5⟩
/-- plain signs -/
def AscS (x : Str) : Prop := ∀ c ∈ x.cps.toList, c < 128
theorem asc_app {x y : Str} (h1 : AscS x) (h2 : AscS y) : AscS (x ++ y) := by
  intro c hc
  have hc : c ∈ (x.cps ++ y.cps).toList := hc
  rw [Array.toList_append] at hc
  rcases List.mem_append.mp hc with hc | hc
  · exact h1 c hc
  · exact h2 c hc
theorem asc_join {sep : Str} (h : AscS sep) : ∀ {xs : List Str}, (∀ x ∈ xs, AscS x) → AscS (Str.join sep xs)
  | [], _ => fun c hc => by cases hc
  | [x], hx => hx x (.head _)
  | x :: y :: r, hx => asc_app (asc_app (hx x (.head _)) h) (asc_join h fun z hz => hx z (.tail _ hz))
theorem asc_row {q : RQ} {ws : List Str} {gap beh : Str} (hq : q ∈ rangesL) (hws : ∀ w ∈ ws, w ∈ wordsL) (hg : gap ∈ gapL) (hb : beh ∈ behL) : AscS (rowText gap beh (q.1 :: ws)) := by
  refine asc_app (asc_app (asc_join (asc_app (asc_app (gaps_asc _ hg) ?_) (gaps_asc _ hg)) fun x hx => ?_) (gaps_asc _ hg)) (behs_asc _ hb)
  · unfold AscS; decide +kernel
  · rcases List.mem_cons.mp hx with rfl | hx
    · exact ranges_asc _ hq
    · exact words_asc _ (hws _ hx)
theorem LineOk.asc {l : LineQ} (h : LineOk l) : AscS l.1 := by
  cases h with
  | none h => exact nones_asc _ h
  | row hq hws hl hg hb => exact asc_row hq hws hg hb
  | miss hq hws h1 hl hg hb hh => exact asc_app (heads_asc _ hh) (asc_row hq hws hg hb)
theorem plain_law (ls : List LineQ) (e : Str) (hls : ∀ l ∈ ls, LineOk l) (hlen : ls.length ≤ 7) (he : e = "\n" ∨ e = "") : Plain ls e := by
  obtain ⟨tail, hL, ht, htl⟩ := lines_eq hls he
  have hasc : AscS (textOf ls e) := by
    refine asc_app (asc_join (by unfold AscS; decide +kernel) fun x hx => ?_) ?_
    · obtain ⟨l, hl, rfl⟩ := List.mem_map.mp hx
      exact (hls l hl).asc
    · rcases he with rfl | rfl <;> (unfold AscS; decide +kernel)
  have hsz : (textOf ls e).cps.toList.length ≤ 800 := by
    rw [Array.length_toList]
    exact textOf_len hls hlen he
  have hbs := bytesOf_size (textOf ls e)
  have hlines : (linesB (bytesOf (textOf ls e))).length ≤ 9 := by
    rw [hL, List.length_append, List.length_map]
    omega
  have hrows : ∀ row ∈ rowsA 0 (linesB (bytesOf (textOf ls e))), FieldsOk row.2.1 := rowsA_ok _ 0 fun x hx => by
    have := linesB_size hx
    omega
  have hrl : (rowsA 0 (linesB (bytesOf (textOf ls e)))).length ≤ 9 := Nat.le_trans (rowsA_length _ _) hlines
  refine ⟨hasc, by omega, ?_, by omega, fun w val hw => ?_, fun many => ?_, ?_, fun l hl => ?_, fun many l hl => ?_, fun l hl => ?_⟩
  · rw [starts_eq]
    cases hq : ((bytesOf (textOf ls e)).toList.take (#[239, 187, 191] : Array UInt8).size == (#[239, 187, 191] : Array UInt8).toList) with
    | false => rw [Bool.and_false]
    | true =>
      exfalso
      have hq := beq_iff_eq.mp hq
      have hm : (239 : UInt8) ∈ (bytesOf (textOf ls e)).toList.take (#[239, 187, 191] : Array UInt8).size := by rw [hq]; exact .head _
      have := bytesOf_asc hasc _ (List.mem_of_mem_take hm)
      revert this
      decide
  · rw [hL]; exact miss_same hw ht ls 0 [] hls
  · rw [hL]; exact ranged_same ht ls 0 [] hls
  · rw [hL]; exact worded_same ht ls 0 [] hls
  · refine apart_all _ fun t ht => ?_
    obtain ⟨q, hq, rfl⟩ := List.mem_map.mp (sort3_mem ht)
    rcases (worded_ok _ _ _ hl).2 q hq with h | ⟨_, h⟩
    · cases h
    · exact h
  · obtain ⟨h1, h2⟩ := ranged_ok _ _ _ hl
    rw [List.length_nil] at h1
    refine ⟨by omega, fun q hq => ?_⟩
    rcases h2 q hq with h | ⟨row, h3, h4⟩
    · cases h
    · obtain ⟨f1, f2, f3⟩ := hrows row h3
      rw [h4]
      exact ⟨f2, f3⟩
  · obtain ⟨h1, h2⟩ := worded_ok _ _ _ hl
    rw [List.length_nil] at h1
    refine ⟨by omega, fun q hq => ?_⟩
    rcases h2 q hq with h | ⟨⟨row, h3, h4⟩, _⟩
    · cases h
    · obtain ⟨f1, f2, f3⟩ := hrows row h3
      rw [h4]
      by_cases h : 2 < row.2.1.length
      · exact f3 _ (getD_mem h)
      · rw [List.getD_eq_getElem?_getD, List.getElem?_eq_none (by omega)]
        exact Nat.zero_le _
end Mine
end

theorem PySem.Challenge.cw_on0361_01_holds : PySem.Challenge.rw_on0361_01.Holds :=
  Mine.fin Mine.plain_law
