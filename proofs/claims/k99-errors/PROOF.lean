import PyProof.Rows.All
import Wide.All
import OpenK.AllK
import Wide.FinOn
import HandS.ForMost
import HandS.HeadHook2
import HandS.Wide
import HandS.TupMul
import HandS.Walk
import KE.KExcPX
import KE.KExcInit
import KE.KExcStr
import KE.KExcIs
import HandS.Exc
import HandS.ExcInit
import HandS.Defaults
import OpenK.KCls
import OpenK.KMore
import HandS.Words
import HandS.Codes
import HandS.WordsExc
import HandS.Head0
import HandS.Head1
import HandS.Head2
import HandS.HeadEnd
import HandS.HeadHook1
import HandS.HeadHook3
import HandS.HeadHook4
import KE.KStateDown
import KE.DataEq
import PySem.Challenge.RW_everyreal_k99_errors_by_hand
set_option Elab.async false
set_option linter.all false
set_option maxRecDepth 100000
set_option maxHeartbeats 0
/-! Data, and how it lies in the abstract heap. -/
namespace Ev
open PySem PySem.Spec PyProof.Rows L2

/-- data: what a value is, whatever its place -/
inductive D where
  | non | bl (b : Bool) | int (i : Int) | str (s : Str) | ty (n : String) | gl (x : Str)
  | tup (xs : List D) | lst (xs : List D) | klst (xs : List D)
  | exc (c : Str) (v : D) | ref (i : Nat)

/-- a mutable object of the store -/
inductive Ob where
  | dic (kvs : List (Key × D))
  | lst (xs : List D)

/-- an own exception class: its field, its message, whether the field may be left out -/
structure ExI where
  fld : Str
  msg : Str
  opt : Bool
  base : String
  via : Str

/-- the table of the text -/
structure Tb where
  K : PySem.W.Frag
  exs : Str → Option ExI

/-- the places of the store's objects, and other places that change -/
structure Sg where
  ρ : Nat → Addr
  n : Nat
  B : Addr → Prop
def Sg.M (g : Sg) (a : Addr) : Prop := (∃ i, i < g.n ∧ a = g.ρ i) ∨ g.B a

/-- an exception object at e -/
def exq (e C t : Addr) (d : Option Addr) : HO := .ext fun h => h.get? e = some ({ cls := .ref C, dict := d, data := .fields #[.ref t, .none, .none, .none, .bool false, .none] } : Obj)

/-- a list that the text did not make: known to the object, or of the written part -/
def KQ (K : PySem.W.Frag) (g : Sg) (H : Hp) (a : Addr) (vs : List V) : Prop := (∃ o, H a = some (.frz o (.lst vs)) ∧ ¬ g.M a) ∨
  ∃ (o : Obj) (its : Array Value) (n : Nat), K.lookup a = some o ∧ o.cls = .type "list" ∧ o.dict = none ∧ o.data = .seq its n ∧ its.size ≤ sizeLine ∧ Vals vs its.toList
theorem KQ.sq {K : PySem.W.Frag} {g : Sg} {H : Hp} {a : Addr} {vs : List V} : KQ K g H a vs → SqL K H a vs
  | .inl ⟨o, h, _⟩ => .inl (.inr ⟨o, h⟩)
  | .inr h => .inr h
mutual
inductive RepD (T : Tb) (g : Sg) (H : Hp) : D → V → Prop
  | non : RepD T g H .non .non
  | bl (b : Bool) : RepD T g H (.bl b) (.bl b)
  | int (i : Int) : RepD T g H (.int i) (.int i)
  | str (x : Str) : RepD T g H (.str x) (.str x)
  | ty (n : String) : RepD T g H (.ty n) (.ty n)
  | gl (x : Str) : RepD T g H (.gl x) (.ref (He.ga T.K x))
  | tup {a : Addr} {ds : List D} {vs : List V} : H a = some (.tup vs) → ¬ g.M a → RepDs T g H ds vs → RepD T g H (.tup ds) (.ref a)
  | lst {a : Addr} {ds : List D} {vs : List V} : H a = some (.lst vs) → ¬ g.M a → RepDs T g H ds vs → RepD T g H (.lst ds) (.ref a)
  | klst {a : Addr} {ds : List D} {vs : List V} : KQ T.K g H a vs → RepDs T g H ds vs → RepD T g H (.klst ds) (.ref a)
  | exc {c : Str} {x : ExI} {e t d : Addr} {v : D} {y : V} : T.exs c = some x → H e = some (exq e (He.ga T.K c) t (some d)) → ¬ g.M e → H t = some (.tup [.str x.msg]) → ¬ g.M t → H d = some (.xd [(x.fld, y)]) → ¬ g.M d → RepD T g H v y → RepD T g H (.exc c v) (.ref e)
  | ref {i : Nat} : i < g.n → RepD T g H (.ref i) (.ref (g.ρ i))
inductive RepDs (T : Tb) (g : Sg) (H : Hp) : List D → List V → Prop
  | nil : RepDs T g H [] []
  | cons {d : D} {v : V} {ds : List D} {vs : List V} : RepD T g H d v → RepDs T g H ds vs → RepDs T g H (d :: ds) (v :: vs)
end

/-- a step: what does not change stays -/
structure Stp (g : Sg) (H : Hp) (g' : Sg) (H' : Hp) : Prop where
  keep : ∀ a o, H a = some o → ¬ g.M a → H' a = some o ∧ ¬ g'.M a
  le : g.n ≤ g'.n
  pre : ∀ i, i < g.n → g'.ρ i = g.ρ i
theorem Stp.refl (g : Sg) (H : Hp) : Stp g H g H := ⟨fun _ _ h m => ⟨h, m⟩, Nat.le_refl _, fun _ _ => rfl⟩
theorem Stp.trans {g g1 g2 : Sg} {H H1 H2 : Hp} (a : Stp g H g1 H1) (b : Stp g1 H1 g2 H2) : Stp g H g2 H2 :=
  ⟨fun x o h m => by obtain ⟨h1, m1⟩ := a.keep x o h m; exact b.keep x o h1 m1, Nat.le_trans a.le b.le, fun i hi => (b.pre i (Nat.lt_of_lt_of_le hi a.le)).trans (a.pre i hi)⟩

theorem KQ.mono {K : PySem.W.Frag} {g g' : Sg} {H H' : Hp} {a : Addr} {vs : List V} (s : Stp g H g' H') : KQ K g H a vs → KQ K g' H' a vs
  | .inl ⟨o, h, m⟩ => let ⟨h', m'⟩ := s.keep _ _ h m; .inl ⟨o, h', m'⟩
  | .inr h => .inr h
section
variable {T : Tb} {g g' : Sg} {H H' : Hp}
mutual
theorem RepD.mono (s : Stp g H g' H') : ∀ {d : D} {v : V}, RepD T g H d v → RepD T g' H' d v
  | _, _, .non => .non
  | _, _, .bl b => .bl b
  | _, _, .int i => .int i
  | _, _, .str x => .str x
  | _, _, .ty n => .ty n
  | _, _, .gl x => .gl x
  | _, _, .tup h m r => let ⟨h', m'⟩ := s.keep _ _ h m; .tup h' m' (RepDs.mono s r)
  | _, _, .lst h m r => let ⟨h', m'⟩ := s.keep _ _ h m; .lst h' m' (RepDs.mono s r)
  | _, _, .klst h r => .klst (h.mono s) (RepDs.mono s r)
  | _, _, .exc x he me ht mt hd md r =>
    let ⟨he', me'⟩ := s.keep _ _ he me
    let ⟨ht', mt'⟩ := s.keep _ _ ht mt
    let ⟨hd', md'⟩ := s.keep _ _ hd md
    .exc x he' me' ht' mt' hd' md' (RepD.mono s r)
  | _, _, .ref hi => by
    rw [← s.pre _ hi]
    exact .ref (Nat.lt_of_lt_of_le hi s.le)
theorem RepDs.mono (s : Stp g H g' H') : ∀ {ds : List D} {vs : List V}, RepDs T g H ds vs → RepDs T g' H' ds vs
  | _, _, .nil => .nil
  | _, _, .cons r t => .cons (RepD.mono s r) (RepDs.mono s t)
end
theorem RepDs.length : ∀ {ds : List D} {vs : List V}, RepDs T g H ds vs → ds.length = vs.length
  | _, _, .nil => rfl
  | _, _, .cons _ t => by rw [List.length_cons, List.length_cons, RepDs.length t]
theorem RepDs.append : ∀ {ds es : List D} {vs ws : List V}, RepDs T g H ds vs → RepDs T g H es ws → RepDs T g H (ds ++ es) (vs ++ ws)
  | _, _, _, _, .nil, h => h
  | _, _, _, _, .cons r t, h => .cons r (RepDs.append t h)
theorem RepDs.get : ∀ {ds : List D} {vs : List V} {i : Nat} {d : D}, RepDs T g H ds vs → ds[i]? = some d → ∃ v, vs[i]? = some v ∧ RepD T g H d v
  | _, _, _, _, .nil, h => by simp at h
  | _, _, 0, _, .cons r _, h => by
    simp at h; subst h; exact ⟨_, rfl, r⟩
  | _, _, i + 1, d, .cons _ t, h => by
    obtain ⟨v, e, r⟩ := RepDs.get (i := i) (d := d) t (by simpa using h)
    exact ⟨v, by simpa using e, r⟩
theorem RepDs.getV : ∀ {ds : List D} {vs : List V} {i : Nat} {v : V}, RepDs T g H ds vs → vs[i]? = some v → ∃ d, ds[i]? = some d ∧ RepD T g H d v
  | _, _, _, _, .nil, h => by simp at h
  | _, _, 0, _, .cons r _, h => by
    simp at h; subst h; exact ⟨_, rfl, r⟩
  | _, _, i + 1, v, .cons _ t, h => by
    obtain ⟨d, e, r⟩ := RepDs.getV (i := i) (v := v) t (by simpa using h)
    exact ⟨d, by simpa using e, r⟩
theorem RepDs.take : ∀ {ds : List D} {vs : List V} (n : Nat), RepDs T g H ds vs → RepDs T g H (ds.take n) (vs.take n)
  | _, _, 0, _ => by rw [List.take_zero, List.take_zero]; exact .nil
  | _, _, _ + 1, .nil => .nil
  | _, _, n + 1, .cons r t => .cons r (RepDs.take n t)
theorem RepDs.drop : ∀ {ds : List D} {vs : List V} (n : Nat), RepDs T g H ds vs → RepDs T g H (ds.drop n) (vs.drop n)
  | _, _, 0, r => r
  | _, _, _ + 1, .nil => .nil
  | _, _, n + 1, .cons _ t => RepDs.drop n t
theorem RepDs.replicate {ds : List D} {vs : List V} (r : RepDs T g H ds vs) : ∀ n : Nat, RepDs T g H (List.replicate n ds).flatten (List.replicate n vs).flatten
  | 0 => .nil
  | n + 1 => by
    rw [List.replicate_succ, List.replicate_succ, List.flatten_cons, List.flatten_cons]
    exact r.append (RepDs.replicate r n)
theorem RepDs.ints : ∀ (ns : List Int), RepDs T g H (ns.map D.int) (ns.map V.int)
  | [] => .nil
  | n :: r => .cons (.int n) (RepDs.ints r)
end

/-- behind an expression: the changing places outside the store are as they were -/
structure Ext (g : Sg) (H : Hp) (g' : Sg) (H' : Hp) : Prop where
  eB : g'.B = g.B
  le : g.n ≤ g'.n
  pre : ∀ i, i < g.n → g'.ρ i = g.ρ i
  keep : ∀ a o, H a = some o → (∀ i, i < g.n → a ≠ g.ρ i) → H' a = some o
  fresh : ∀ i, g.n ≤ i → i < g'.n → H (g'.ρ i) = none
theorem Ext.refl (g : Sg) (H : Hp) : Ext g H g H := ⟨rfl, Nat.le_refl _, fun _ _ => rfl, fun _ _ h _ => h, fun i h1 h2 => by omega⟩
theorem Ext.stp {g g' : Sg} {H H' : Hp} (x : Ext g H g' H') : Stp g H g' H' := by
  refine ⟨fun a o h m => ⟨x.keep a o h fun i hi e => m (.inl ⟨i, hi, e⟩), fun m' => ?_⟩, x.le, x.pre⟩
  rcases m' with ⟨i, hi, e⟩ | b
  · by_cases h1 : i < g.n
    · exact m (.inl ⟨i, h1, by rw [e, x.pre i h1]⟩)
    · have := x.fresh i (by omega) hi
      rw [← e, h] at this
      cases this
  · rw [x.eB] at b
    exact m (.inr b)

mutual
inductive RepOb (T : Tb) (g : Sg) (H : Hp) : Ob → HO → Prop
  | dic {kvs : List (Key × D)} {kws : List (Key × V)} : RepKv T g H kvs kws → RepOb T g H (.dic kvs) (.dK kws)
  | lst {ds : List D} {vs : List V} : RepDs T g H ds vs → RepOb T g H (.lst ds) (.lst vs)
inductive RepKv (T : Tb) (g : Sg) (H : Hp) : List (Key × D) → List (Key × V) → Prop
  | nil : RepKv T g H [] []
  | cons {k : Key} {d : D} {v : V} {ds : List (Key × D)} {vs : List (Key × V)} : RepD T g H d v → RepKv T g H ds vs → RepKv T g H ((k, d) :: ds) ((k, v) :: vs)
end
theorem RepKv.mono {T : Tb} {g g' : Sg} {H H' : Hp} (s : Stp g H g' H') : ∀ {ds : List (Key × D)} {vs : List (Key × V)}, RepKv T g H ds vs → RepKv T g' H' ds vs
  | _, _, .nil => .nil
  | _, _, .cons r t => .cons (r.mono s) (RepKv.mono s t)
theorem RepOb.mono {T : Tb} {g g' : Sg} {H H' : Hp} (s : Stp g H g' H') {o : Ob} {ho : HO} : RepOb T g H o ho → RepOb T g' H' o ho
  | .dic r => .dic (r.mono s)
  | .lst r => .lst (r.mono s)

/-- the store is held -/
structure StOk (T : Tb) (g : Sg) (S : List Ob) (H : Hp) : Prop where
  n : g.n = S.length
  st : ∀ (i : Nat) (o : Ob), S[i]? = some o → ∃ ho, H (g.ρ i) = some ho ∧ RepOb T g H o ho
  inj : ∀ i j, i < g.n → j < g.n → g.ρ i = g.ρ j → i = j
  nB : ∀ i, i < g.n → ¬ g.B (g.ρ i)
  tB : ∀ a, g.B a → ∃ o, H a = some o
theorem StOk.trk {T : Tb} {g : Sg} {S : List Ob} {H : Hp} (k : StOk T g S H) {i : Nat} (hi : i < g.n) : ∃ ho, H (g.ρ i) = some ho := by
  have hi' : i < S.length := by rw [← k.n]; exact hi
  obtain ⟨ho, h, _⟩ := k.st i S[i] (by simp [hi'])
  exact ⟨ho, h⟩
theorem StOk.notM {T : Tb} {g : Sg} {S : List Ob} {H : Hp} (k : StOk T g S H) {a : Addr} (h : H a = none) : ¬ g.M a := by
  rintro (⟨i, hi, e⟩ | b)
  · obtain ⟨ho, q⟩ := k.trk hi
    rw [← e, h] at q; cases q
  · obtain ⟨o, q⟩ := k.tB a b
    rw [h] at q; cases q
theorem Ext.trans {T : Tb} {g g1 g2 : Sg} {S1 : List Ob} {H H1 H2 : Hp} (a : Ext g H g1 H1) (k : StOk T g1 S1 H1) (b : Ext g1 H1 g2 H2) : Ext g H g2 H2 := by
  refine ⟨b.eB.trans a.eB, Nat.le_trans a.le b.le, fun i hi => (b.pre i (Nat.lt_of_lt_of_le hi a.le)).trans (a.pre i hi), fun x o h m => b.keep x o (a.keep x o h m) fun i hi e => ?_, fun i h1 h2 => ?_⟩
  · by_cases hi' : i < g.n
    · exact m i hi' (by rw [e, a.pre i hi'])
    · have := a.fresh i (by omega) hi
      rw [← e, h] at this; cases this
  · by_cases hi : i < g1.n
    · rw [b.pre i hi]
      exact a.fresh i h1 hi
    · have f := b.fresh i (by omega) h2
      cases q : H (g2.ρ i) with
      | none => rfl
      | some o =>
        by_cases m : ∃ j, j < g.n ∧ g2.ρ i = g.ρ j
        · obtain ⟨j, hj, e⟩ := m
          obtain ⟨ho, z⟩ := k.trk (i := j) (Nat.lt_of_lt_of_le hj a.le)
          rw [a.pre j hj, ← e, f] at z; cases z
        · have z := a.keep _ o q fun j hj e => m ⟨j, hj, e⟩
          rw [f] at z; cases z
/-- a new thing is laid that is no object of the store -/
theorem Ext.laid {g : Sg} {H : Hp} {p : Addr} {o : HO} (h : H p = none) : Ext g H g (upd H p o) :=
  ⟨rfl, Nat.le_refl _, fun _ _ => rfl, fun a u q _ => by rw [upd_ne (ne_of_none q h)]; exact q, fun i h1 h2 => by omega⟩
theorem StOk.ext {T : Tb} {g : Sg} {S : List Ob} {H H' : Hp} (k : StOk T g S H) (x : Ext g H g H') (hk : ∀ i, i < g.n → H' (g.ρ i) = H (g.ρ i)) : StOk T g S H' := by
  refine ⟨k.n, fun i o h => ?_, k.inj, k.nB, fun a b => ?_⟩
  · obtain ⟨ho, q, r⟩ := k.st i o h
    have hi : i < g.n := by rw [k.n]; exact (List.getElem?_eq_some_iff.mp h).1
    exact ⟨ho, by rw [hk i hi]; exact q, r.mono x.stp⟩
  · obtain ⟨o, q⟩ := k.tB a b
    exact ⟨o, x.keep a o q fun i hi e => k.nB i hi (e ▸ b)⟩
theorem StOk.laid {T : Tb} {g : Sg} {S : List Ob} {H : Hp} {p : Addr} {o : HO} (k : StOk T g S H) (h : H p = none) : StOk T g S (upd H p o) :=
  k.ext (Ext.laid h) fun i hi => by
    obtain ⟨ho, q⟩ := k.trk hi
    rw [upd_ne (ne_of_none q h)]

/-- a slot: data, or a list of the frame's own that may still grow -/
inductive SV where
  | val (d : D)
  | own (xs : List D)
abbrev Dv := List (Option SV)
inductive RepS (T : Tb) (g : Sg) (O : Addr → Prop) (H : Hp) : SV → V → Prop
  | val {d : D} {v : V} : RepD T g H d v → RepS T g O H (.val d) v
  | own {a : Addr} {ds : List D} {vs : List V} : H a = some (.lst vs) → O a → RepDs T g H ds vs → RepS T g O H (.own ds) (.ref a)
structure EnvOk (T : Tb) (g : Sg) (O : Addr → Prop) (δ : Dv) (σ : L2.St) (H : Hp) : Prop where
  len : δ.length = σ.length
  at_ : ∀ (i : Nat) (sv : SV), δ[i]? = some (some sv) → ∃ v, σ[i]? = some (some v) ∧ RepS T g O H sv v
theorem RepS.ext {T : Tb} {g g' : Sg} {O : Addr → Prop} {S : List Ob} {H H' : Hp} (k : StOk T g S H) (hO : ∀ a, O a → g.B a) (x : Ext g H g' H') {sv : SV} {v : V} : RepS T g O H sv v → RepS T g' O H' sv v
  | .val r => .val (r.mono x.stp)
  | .own h o r => .own (x.keep _ _ h fun i hi e => k.nB i hi (e ▸ hO _ o)) o (r.mono x.stp)
theorem EnvOk.ext {T : Tb} {g g' : Sg} {O : Addr → Prop} {S : List Ob} {H H' : Hp} {δ : Dv} {σ : L2.St} (e : EnvOk T g O δ σ H) (k : StOk T g S H) (hO : ∀ a, O a → g.B a) (x : Ext g H g' H') : EnvOk T g' O δ σ H' :=
  ⟨e.len, fun i sv h => let ⟨v, q, r⟩ := e.at_ i sv h; ⟨v, q, r.ext k hO x⟩⟩
end Ev

/-! A machine over data: what the text computes. -/
namespace Ev
open PySem PySem.Spec PyProof.Rows L2

structure DefI where
  ps : List Str
  N : List Str
  st : Stmt
/-- what is known of the text -/
structure Md where
  defs : Str → Option DefI
  exs : Str → Option ExI
  own : Str → Bool
  bty : Str → Option String
  bfn : Str → Bool
  sub : Str → List Str
  subT : Str → List String
  tyk : String → Bool
/-- where an expression stands: the slots' names, the block's names, whether the block is a def's own -/
structure Cf where
  N : List Str
  sc : Scope
  fn : Bool

/-! the data of Python that have == -/
mutual
def toPy : D → Option PyData
  | .non => some .none
  | .bl b => some (.bool b)
  | .int i => some (.int i)
  | .str s => some (.str s)
  | .tup xs => (toPys xs).map .tuple
  | .lst xs => (toPys xs).map .list
  | .klst xs => (toPys xs).map .list
  | _ => none
def toPys : List D → Option (List PyData)
  | [] => some []
  | d :: ds => match toPy d, toPys ds with
    | some x, some xs => some (x :: xs)
    | _, _ => none
end
def sizeB (n : Nat) : Bool := decide (n ≤ 16777216)
/-- == and != -/
def eqD (x y : D) : Option Bool := match toPy x, toPy y with
  | some a, some b => if SeqAt.shaped a && SeqAt.shaped b then some (PyData.eqv a b) else none
  | _, _ => none
def cmpI (f : Int → Int → Bool) (x y : D) : Option Bool := match x, y with
  | .int i, .int j => some (f i j)
  | _, _ => none
theorem cmpI_of {f : Int → Int → Bool} {x y : D} {b : Bool} (h : cmpI f x y = some b) : ∃ i j, x = .int i ∧ y = .int j ∧ b = f i j := by
  unfold cmpI at h
  split at h
  · cases h
    exact ⟨_, _, rfl, rfl, rfl⟩
  · cases h
def cmpD (op : CmpOp) (x y : D) : Option Bool := match op with
  | .Eq => eqD x y
  | .NotEq => (eqD x y).map not
  | .Lt => cmpI (fun i j => decide (i < j)) x y
  | .LtE => cmpI (fun i j => decide (i ≤ j)) x y
  | .Gt => cmpI (fun i j => decide (j < i)) x y
  | .GtE => cmpI (fun i j => decide (j ≤ i)) x y
  | _ => none
def mulB (i j : Int) : Bool := (decide (-(2 ^ 64) < j) && decide (j < 2 ^ 64)) || (decide (-(2 ^ 64) < i) && decide (i < 2 ^ 64))
def repS (s : Str) (n : Nat) : Str := ⟨(List.replicate n s.cps).foldl (fun a b => a ++ b) #[]⟩
def addD (x y : D) : Option D := match x, y with
  | .int i, .int j => some (.int (i + j))
  | .str a, .str b => if sizeB (a.length + b.length) then some (.str (a ++ b)) else none
  | .lst a, .lst b => if sizeB (a.length + b.length) then some (.lst (a ++ b)) else none
  | _, _ => none
def mulD (x y : D) : Option D := match x, y with
  | .int i, .int j => if mulB i j then some (.int (i * j)) else none
  | .str a, .int k => if decide (0 ≤ k) && decide (k < 1000) && decide (a.length < 1000) then some (.str (repS a k.toNat)) else none
  | .lst a, .int k => if decide (0 ≤ k) && decide (k < 1000) && decide (a.length < 1000) then some (.lst (List.replicate k.toNat a).flatten) else none
  | .tup a, .int k => if decide (2 ≤ k) && decide (k ≤ 1000) && decide (a.length ≤ 1000) && !a.isEmpty then some (.tup (List.replicate k.toNat a).flatten) else none
  | _, _ => none
def intD (c : Int → Int → Bool) (f : Int → Int → Int) (x y : D) : Option D := match x, y with
  | .int i, .int j => if c i j then some (.int (f i j)) else none
  | _, _ => none
theorem intD_of {c : Int → Int → Bool} {f : Int → Int → Int} {x y d : D} (h : intD c f x y = some d) : ∃ i j, x = .int i ∧ y = .int j ∧ c i j = true ∧ d = .int (f i j) := by
  unfold intD at h
  split at h
  · split at h
    · rename_i z
      cases h
      exact ⟨_, _, rfl, rfl, z, rfl⟩
    · cases h
  · cases h
def binD (op : Operator) (x y : D) : Option D := match op with
  | .Add => addD x y
  | .Sub => intD (fun _ _ => true) (fun i j => i - j) x y
  | .Mult => mulD x y
  | .FloorDiv => intD (fun _ j => decide (0 < j) && decide (j < 1073741824)) (fun i j => i / j) x y
  | .Mod => intD (fun _ j => decide (0 < j)) (fun i j => i % j) x y
  | .Pow => intD (fun i j => decide (0 ≤ j) && decide (((Builtin.Int.intBits i : Nat) : Int) * j ≤ 2 ^ 27)) (fun i j => i ^ j.toNat) x y
  | _ => none

/-! ### names -/
def idx (N : List Str) (x : Str) : Option Nat := N.findIdx? (fun y => decide (y = x))
def isVis (sc : Scope) (x : Str) : Bool := match sc.names.lookup x with
  | some .local => true
  | some .cell => true
  | some .free => true
  | _ => false
def isGl (sc : Scope) (x : Str) : Bool := match sc.names.lookup x with
  | some .globalImplicit => true
  | _ => false
def isTg (c : Cf) (x : Str) : Bool := match c.sc.names.lookup x with
  | some .local => true
  | some .cell => c.fn
  | _ => false
def dbg (x : Str) : Bool := decide (x = "__debug__") || decide (x = "__classdict__") || decide (x = "__name__")
def evN (m : Md) (c : Cf) (δ : Dv) (x : Str) : Option D :=
  if dbg x then none else
  if isVis c.sc x then (match idx c.N x with
    | some i => (match δ[i]? with
      | some (some (.val d)) => some d
      | _ => none)
    | none => none)
  else if isGl c.sc x then (if (m.exs x).isSome || m.own x then some (.gl x) else (m.bty x).map D.ty) else none
def cst : Const → Option D
  | .none => some .non
  | .bool b => some (.bl b)
  | .int i => some (.int i)
  | .str s => some (.str s)
  | _ => none

/-! ### subscripts, slices -/
def ixD (S : List Ob) (x y : D) : Option D := match x, y with
  | .lst xs, .int i => atI xs i
  | .klst xs, .int i => atI xs i
  | .tup xs, .int i => atI xs i
  | .ref k, .str s => (match S[k]? with
    | some (.dic kvs) => (kvs.find? fun kv => decide (kv.1 = .inr s)).map (·.2)
    | _ => none)
  | _, _ => none
def cutD (xs : List D) (lo hi : Option Int) : List D := (xs.drop (HT.sIx xs.length 0 lo)).take (HT.sIx xs.length xs.length hi - HT.sIx xs.length 0 lo)
def putD (kvs : List (Key × D)) (k : Key) (v : D) : List (Key × D) :=
  if kvs.any (fun kv => decide (kv.1 = k)) then kvs.map (fun kv => if kv.1 = k then (kv.1, v) else kv) else kvs ++ [(k, v)]

/-! ### truth, isinstance, str -/
def truD : D → Option Bool
  | .non => some false
  | .bl b => some b
  | .int i => some (i != 0)
  | .lst xs => if sizeB xs.length then some (!xs.isEmpty) else none
  | .klst xs => if sizeB xs.length then some (!xs.isEmpty) else none
  | .tup xs => if sizeB xs.length then some (!xs.isEmpty) else none
  | _ => none
def isiD (m : Md) (x c : D) : Option Bool := match x, c with
  | .exc n _, .gl d => if (m.exs d).isSome || m.own d then some ((m.sub n).contains d) else none
  | .exc n _, .ty t => if m.tyk t then some ((m.subT n).contains t) else none
  | _, _ => none
def intsD : List D → Option (List Int)
  | [] => some []
  | .int i :: r => (intsD r).map fun ns => i :: ns
  | _ => none
def isiA (m : Md) : List D → Option D
  | [x, c] => (isiD m x c).map D.bl
  | _ => none
def sumA : List D → Option D
  | [.klst ds] => (intsD ds).map fun ns => D.int ns.sum
  | _ => none
def strA (m : Md) : List D → Option D
  | [.exc n _] => (m.exs n).map fun x => .str x.msg
  | _ => none
def bfnD (m : Md) (f : Str) (xs : List D) : Option D :=
  if f = "isinstance" then isiA m xs
  else if f = "sum" then sumA xs
  else if f = "str" then strA m xs
  else none

/-! ### lists of expressions -/
def isStar : Expr → Bool
  | .Starred _ _ => true
  | _ => false
abbrev EvF := List Ob → Expr → Option (D × List Ob)
def evL (ev : EvF) : List Ob → List Expr → Option (List D × List Ob)
  | S, [] => some ([], S)
  | S, e :: es => if isStar e then none else
    match ev S e with
    | none => none
    | some (x, S1) => (match evL ev S1 es with
      | none => none
      | some (xs, S2) => some (x :: xs, S2))
/-- the values of a dict's display -/
def evP (ev : EvF) : List Ob → List (Option Expr) → List Expr → Option (List (Key × D) × List Ob)
  | S, [], [] => some ([], S)
  | S, some k :: ks, v :: vs => (match ev S k with
    | some (.str s, S1) => (match ev S1 v with
      | none => none
      | some (y, S2) => (match evP ev S2 ks vs with
        | none => none
        | some (r, S3) => some ((.inr s, y) :: r, S3)))
    | _ => none)
  | _, _, _ => none
/-- tests -/
def evT (ev : EvF) : Nat → List Ob → Expr → Option (Bool × List Ob)
  | 0, _, _ => none
  | n + 1, S, e => match e with
    | .UnaryOp .Not a _ => (evT ev n S a).map fun r => (!r.1, r.2)
    | .BoolOp .Or [a] _ => evT ev n S a
    | .BoolOp .And [a] _ => evT ev n S a
    | .BoolOp .Or (a :: b :: r) p => (match evT ev n S a with
      | some (true, S1) => some (true, S1)
      | some (false, S1) => evT ev n S1 (.BoolOp .Or (b :: r) p)
      | none => none)
    | .BoolOp .And (a :: b :: r) p => (match evT ev n S a with
      | some (false, S1) => some (false, S1)
      | some (true, S1) => evT ev n S1 (.BoolOp .And (b :: r) p)
      | none => none)
    | .BoolOp _ [] _ => none
    | .Compare a [op] [b] _ => (match ev S a with
      | none => none
      | some (x, S1) => (match ev S1 b with
        | none => none
        | some (y, S2) => (cmpD op x y).map fun r => (r, S2)))
    | .Compare _ _ _ _ => none
    | .Call _ _ _ _ => (match ev S e with
      | none => none
      | some (x, S1) => (truD x).map fun b => (b, S1))
    | .Name _ _ => (match ev S e with
      | none => none
      | some (x, S1) => (truD x).map fun b => (b, S1))
    | _ => none
def evIfs (ev : EvF) (n : Nat) (S : List Ob) : List Expr → Option (Bool × List Ob)
  | [] => some (true, S)
  | [t] => evT ev n S t
  | _ => none
/-- targets -/
def bindN (c : Cf) (x : Str) (d : D) (δ : Dv) : Option Dv :=
  if isTg c x then (idx c.N x).map fun i => δ.set i (some (.val d)) else none
def bind1 (c : Cf) : Expr → D → Dv → Option Dv
  | .Name x _, d, δ => bindN c x d δ
  | _, _, _ => none
def bindNs (c : Cf) : List Expr → List D → Dv → Option Dv
  | [], [], δ => some δ
  | e :: es, d :: ds, δ => (match bind1 c e d δ with
    | none => none
    | some δ1 => bindNs c es ds δ1)
  | [], _ :: _, _ => none
  | _ :: _, [], _ => none
def bindT (c : Cf) : Expr → D → Dv → Option Dv
  | .Name x _, d, δ => bindN c x d δ
  | .Tuple es _ _, .tup ds, δ => bindNs c es ds δ
  | _, _, _ => none
/-- a target that is a name, or a tuple of names -/
def tgName (c : Cf) : Expr → Bool
  | .Name x _ => isTg c x && (idx c.N x).isSome
  | _ => false
def tgOk (c : Cf) : Expr → Bool
  | .Name x p => tgName c (.Name x p)
  | .Tuple es _ _ => es.all (tgName c)
  | _ => false
def wipeD (δ : Dv) : List Nat → Dv
  | [] => δ
  | v :: vs => (wipeD δ vs).set v none
/-- the names of a block in their slots -/
def ownOf (N : List Str) (scope : Scope) : List (Str × Nat) := scope.names.filterMap fun y => match y.2 with
  | .local => (idx N y.1).map fun i => (y.1, i)
  | .cell => (idx N y.1).map fun i => (y.1, i)
  | _ => none
/-- a comprehension's turns -/
def evC (bind : D → Option Dv) (test : Dv → List Ob → Option (Bool × List Ob)) (elt : Dv → List Ob → Option (D × List Ob)) : List D → List Ob → List D → Option (List D × List Ob)
  | [], S, acc => some (acc, S)
  | d :: ds, S, acc => match bind d with
    | none => none
    | some δ1 => (match test δ1 S with
      | none => none
      | some (false, S1) => evC bind test elt ds S1 acc
      | some (true, S1) => (match elt δ1 S1 with
        | none => none
        | some (y, S2) => if acc.length < 16777216 then evC bind test elt ds S2 (acc ++ [y]) else none))
def itemsD : D → Option (List D)
  | .lst xs => some xs
  | .klst xs => some xs
  | .tup xs => some xs
  | _ => none
def notSet : Expr → Bool
  | .Set _ _ _ => false
  | _ => true
def boOk : Option (Option Expr × Option Expr) → Bool := fun _ => true
def partE (ev : EvF) (S : List Ob) : Option Expr → Option (Option Int × List Ob)
  | none => some (none, S)
  | some e => match ev S e with
    | some (.int i, S1) => some (some i, S1)
    | _ => none
def plainIx : Expr → Bool
  | .Constant _ _ _ => true
  | .Name _ _ => true
  | .Call _ _ _ _ => true
  | .BinOp _ _ _ _ => true
  | _ => false

abbrev CallF := Str → List D → List Ob → Option (D × List Ob)
def evE (m : Md) (call : CallF) : Nat → Cf → Dv → List Ob → Expr → Option (D × List Ob)
  | 0, _, _, _, _ => none
  | n + 1, c, δ, S, e => match e with
    | .Constant v _ _ => (cst v).map fun d => (d, S)
    | .Name x _ => (evN m c δ x).map fun d => (d, S)
    | .BinOp a op b _ => (match evE m call n c δ S a with
      | none => none
      | some (x, S1) => (match evE m call n c δ S1 b with
        | none => none
        | some (y, S2) => (binD op x y).map fun d => (d, S2)))
    | .Compare a [op] [b] _ => (match evE m call n c δ S a with
      | none => none
      | some (x, S1) => (match evE m call n c δ S1 b with
        | none => none
        | some (y, S2) => (cmpD op x y).map fun d => (.bl d, S2)))
    | .IfExp t a b _ => (match evT (evE m call n c δ) n S t with
      | none => none
      | some (true, S1) => evE m call n c δ S1 a
      | some (false, S1) => evE m call n c δ S1 b)
    | .Tuple es _ _ => (match evL (evE m call n c δ) S es with
      | none => none
      | some (xs, S1) => if sizeB xs.length then some (.tup xs, S1) else none)
    | .List es _ => (match evL (evE m call n c δ) S es with
      | none => none
      | some (xs, S1) => if sizeB xs.length then some (.lst xs, S1) else none)
    | .Dict ks vs _ => if ks.all (·.isSome) && decide (ks.length = vs.length) && !ks.isEmpty then (match evP (evE m call n c δ) S ks vs with
      | none => none
      | some (kvs, S1) => if decide (kvs.length ≤ 15) then some (.ref S1.length, S1 ++ [.dic (kvs.foldl (fun acc kv => putD acc kv.1 kv.2) [])]) else none) else none
    | .Subscript a (.Slice lo hi none _) _ => (match evE m call n c δ S a with
      | some (.klst xs, S1) => (match partE (evE m call n c δ) S1 lo with
        | none => none
        | some (l, S2) => (match partE (evE m call n c δ) S2 hi with
          | none => none
          | some (h, S3) => some (.lst (cutD xs l h), S3)))
      | _ => none)
    | .Subscript a b _ => if plainIx b then (match evE m call n c δ S a with
      | none => none
      | some (x, S1) => (match evE m call n c δ S1 b with
        | none => none
        | some (y, S2) => (ixD S2 x y).map fun d => (d, S2))) else none
    | .Attribute a f _ => (match a with
      | .Name _ _ => (match evE m call n c δ S a with
        | some (.exc k v, S1) => (match m.exs k with
          | some x => if x.fld = f then some (v, S1) else none
          | none => none)
        | _ => none)
      | _ => none)
    | .Call (.Name f _) args kws _ => if dbg f || !isGl c.sc f then none else
      (match m.defs f with
      | some di => if kws.isEmpty && !args.isEmpty then (match evL (evE m call n c δ) S args with
        | none => none
        | some (xs, S1) => if decide (xs.length = di.ps.length) then call f xs S1 else none) else none
      | none => (match m.exs f with
        | some x => (match args, kws with
          | [], [] => if x.opt then some (.exc f .non, S) else none
          | [a], [] => if isStar a then none else (match evE m call n c δ S a with
            | none => none
            | some (v, S1) => some (.exc f v, S1))
          | [], [⟨some k, a, _⟩] => if k = x.fld then (match evE m call n c δ S a with
            | none => none
            | some (v, S1) => some (.exc f v, S1)) else none
          | _, _ => none)
        | none => if kws.isEmpty && m.bfn f && !args.isEmpty then (match evL (evE m call n c δ) S args with
          | none => none
          | some (xs, S1) => (bfnD m f xs).map fun d => (d, S1)) else none))
    | .ListComp elt [⟨tg, it, ifs, 0⟩] scope _ => if blkC c.N c.sc scope (ownOf c.N scope) && notSet it && decide (ifs.length ≤ 1) && tgOk ⟨c.N, relS scope c.sc, false⟩ tg then
      (match evE m call n c δ S it with
      | none => none
      | some (x, S1) => (match itemsD x with
        | none => none
        | some ds => (evC (fun d => bindT ⟨c.N, relS scope c.sc, false⟩ tg d (wipeD δ ((ownOf c.N scope).map (·.2))))
            (fun δ1 S => evIfs (evE m call n ⟨c.N, relS scope c.sc, false⟩ δ1) n S ifs)
            (fun δ1 S => evE m call n ⟨c.N, relS scope c.sc, false⟩ δ1 S elt) ds S1 []).map fun r => (.lst r.1, r.2))) else none
    | _ => none

/-! ### statements -/
inductive Out where
  | nx (δ : Dv) (S : List Ob)
  | ret (d : D) (S : List Ob)
  | brk (δ : Dv) (S : List Ob)
  | cnt (δ : Dv) (S : List Ob)
/-- the slot's list is the frame's own no longer -/
def frzD : Option SV → Option SV
  | some (.own xs) => some (.val (.lst xs))
  | o => o
/-- the names that stand in an expression -/
def namesE : Nat → Expr → List Str
  | 0, _ => []
  | n + 1, e => match e with
    | .Name x _ => [x]
    | .BoolOp _ es _ => es.flatMap (namesE n)
    | .BinOp a _ b _ => namesE n a ++ namesE n b
    | .UnaryOp _ a _ => namesE n a
    | .IfExp a b c _ => namesE n a ++ namesE n b ++ namesE n c
    | .Dict _ vs _ => vs.flatMap (namesE n)
    | .ListComp e gs _ _ => namesE n e ++ gs.flatMap fun g => namesE n g.iter ++ g.ifs.flatMap (namesE n)
    | .Compare a _ bs _ => namesE n a ++ bs.flatMap (namesE n)
    | .Call f as ks _ => namesE n f ++ as.flatMap (namesE n) ++ ks.flatMap fun k => namesE n k.value
    | .Attribute a _ _ => namesE n a
    | .Subscript a b _ => namesE n a ++ namesE n b
    | .Starred a _ => namesE n a
    | .List es _ => es.flatMap (namesE n)
    | .Tuple es _ _ => es.flatMap (namesE n)
    | .Slice a b c _ => (a.toList ++ b.toList ++ c.toList).flatMap (namesE n)
    | _ => []
def frzL (xs : List Str) : List Str → Dv → Dv
  | x :: N, sv :: δ => (if xs.contains x then frzD sv else sv) :: frzL xs N δ
  | _, δ => δ
def frz (c : Cf) (es : List Expr) (δ : Dv) : Dv := frzL (es.flatMap (namesE 40)) c.N δ
/-- the items that a for walks -/
def evI (m : Md) (call : CallF) (n : Nat) (c : Cf) (δ : Dv) (S : List Ob) (it : Expr) : Option (List D × List Ob) := match it with
  | .Call (.Name f _) [a] [] _ => if f = "enumerate" && isGl c.sc f && m.bfn f && !isStar a then (match evE m call n c δ S a with
      | some (.lst xs, S1) => some ((xs.mapIdx fun i x => D.tup [.int i, x]), S1)
      | _ => none)
    else if f = "range" && isGl c.sc f && m.bfn f && !isStar a then (match evE m call n c δ S a with
      | some (.int j, S1) => if decide (-(2 ^ 62) ≤ j) && decide (j < 2 ^ 62) then some ((List.range j.toNat).map fun (i : Nat) => D.int i, S1) else none
      | _ => none)
    else (match evE m call n c δ S it with
      | none => none
      | some (x, S1) => (itemsD x).map fun ds => (ds, S1))
  | _ => (match evE m call n c δ S it with
      | none => none
      | some (x, S1) => (itemsD x).map fun ds => (ds, S1))
def evFor (bind : D → Dv → Option Dv) (body : Dv → List Ob → Option Out) : List D → Dv → List Ob → Option Out
  | [], δ, S => some (.nx δ S)
  | d :: ds, δ, S => match bind d δ with
    | none => none
    | some δ1 => (match body δ1 S with
      | some (.nx δ2 S2) => evFor bind body ds δ2 S2
      | some (.cnt δ2 S2) => evFor bind body ds δ2 S2
      | some (.brk δ2 S2) => some (.nx δ2 S2)
      | some (.ret d S2) => some (.ret d S2)
      | none => none)
def isComp : Expr → Bool
  | .ListComp _ _ _ _ => true
  | .SetComp _ _ _ _ => true
  | .DictComp _ _ _ _ _ => true
  | _ => false
def isEmptyList : Expr → Bool
  | .List [] _ => true
  | _ => false
def forOk : Expr → Expr → Bool
  | .Tuple _ _ _, _ => true
  | _, .Call (.Name f _) _ _ _ => decide (f ≠ "enumerate")
  | _, _ => true
def exSs (ex : Dv → List Ob → Stmt → Option Out) : Dv → List Ob → List Stmt → Option Out
  | δ, S, [] => some (.nx δ S)
  | δ, S, st :: r => match ex δ S st with
    | some (.nx δ1 S1) => exSs ex δ1 S1 r
    | o => o
def exS (m : Md) (call : CallF) : Nat → Cf → Dv → List Ob → Stmt → Option Out
  | 0, _, _, _, _ => none
  | n + 1, c, δ, S, st => match st with
    | .Pass _ => some (.nx δ S)
    | .Break _ => some (.brk δ S)
    | .Continue _ => some (.cnt δ S)
    | .Expr (.Constant (.str _) _ _) _ => some (.nx δ S)
    | .Expr (.Call (.Attribute (.Name x p) f ap) [e] [] cp) _ => if f = "append" && isVis c.sc x && !dbg x && !isStar e && decide (ap.endLine = cp.line) then (match idx c.N x with
      | none => none
      | some i => (match evE m call n c (frz c [e] δ) S e with
        | none => none
        | some (y, S1) => (match (frz c [e] δ)[i]? with
          | some (some (.own xs)) => if xs.length < 16777216 then some (.nx ((frz c [e] δ).set i (some (.own (xs ++ [y])))) S1) else none
          | _ => none))) else none
    | .Return (some e) _ => (match evE m call n c (frz c [e] δ) S e with
      | none => none
      | some (d, S1) => some (.ret d S1))
    | .Assign [.Name x _] (.List [] _) _ => if isTg c x then (idx c.N x).map fun i => .nx (δ.set i (some (.own []))) S else none
    | .Assign [.Name x _] e _ => if isTg c x && !isComp e then (match evE m call n c (frz c [e] δ) S e with
        | none => none
        | some (d, S1) => (idx c.N x).map fun i => .nx ((frz c [e] δ).set i (some (.val d))) S1) else none
    | .Assign [.Subscript (.Name x _) k _] e _ => if plainIx k && !isComp e then (match evE m call n c (frz c [e, k] δ) S e with
      | none => none
      | some (v, S1) => (match evN m c (frz c [e, k] δ) x with
        | some (.ref j) => (match evE m call n c (frz c [e, k] δ) S1 k with
          | some (.str s, S2) => (match S2[j]? with
            | some (.dic kvs) => if decide (kvs.length < 16777216) then some (.nx (frz c [e, k] δ) (S2.set j (.dic (putD kvs (.inr s) v)))) else none
            | _ => none)
          | _ => none)
        | _ => none)) else none
    | .If t a b _ => (match evT (evE m call n c (frz c [t] δ)) n S t with
      | none => none
      | some (true, S1) => exSs (exS m call n c) (frz c [t] δ) S1 a
      | some (false, S1) => exSs (exS m call n c) (frz c [t] δ) S1 b)
    | .For tg it body [] _ => if notSet it && tgOk c tg && forOk tg it then (match evI m call n c (frz c [it] δ) S it with
      | none => none
      | some (ds, S1) => evFor (bindT c tg) (fun δ S => exSs (exS m call n c) δ S body) ds (frz c [it] δ) S1) else none
    | _ => none

/-! ### defs -/
def startD (N : List Str) (xs : List D) : Dv := xs.map (fun d => some (.val d)) ++ List.replicate (N.length - xs.length) none
def FUEL : Nat := 200
def runD (m : Md) (call : CallF) (di : DefI) (xs : List D) (S : List Ob) : Option (D × List Ob) :=
  if xs.length = di.ps.length then
    match exSs (exS m call FUEL ⟨di.N, defScope di.st, true⟩) (startD di.N xs) S (defBody di.st) with
    | some (.ret d S1) => some (d, S1)
    | some (.nx _ S1) => some (.non, S1)
    | _ => none
  else none
/-- a call, to a depth -/
def callN (m : Md) : Nat → CallF
  | 0 => fun _ _ _ => none
  | k + 1 => fun f xs S => match m.defs f with
    | some di => runD m (callN m k) di xs S
    | none => none
end Ev

/-! What the machine says, the text does: values. -/
namespace Ev
open PySem PySem.Spec PyProof.Rows L2

theorem PE.imp {X : Cx} {e : Expr} {t t' : TE} (h : PE X e t) (k : ∀ σ H Q, t' σ H Q → t σ H Q) : PE X e t' := ⟨fun pins s σ H Q I q => h.run pins s σ H Q I (k σ H Q q)⟩
theorem PT.imp {X : Cx} {e : Expr} {t t' : TT} (h : PT X e t) (k : ∀ σ H Q, t' σ H Q → t σ H Q) : PT X e t' := ⟨fun pins s σ H Q I q => h.run pins s σ H Q I (k σ H Q q)⟩
theorem PW.imp {X : Cx} {e : Expr} {t t' : TT} (h : PW X e t) (k : ∀ σ H Q, t' σ H Q → t σ H Q) : PW X e t' := ⟨fun wh pins s σ H Q I q => h.run wh pins s σ H Q I (k σ H Q q)⟩
theorem PA.imp {X : Cx} {es : List Expr} {t t' : TA} (h : PA X es t) (k : ∀ σ H Q, t' σ H Q → t σ H Q) : PA X es t' := ⟨fun pos pins s σ H Q I q => h.run pos pins s σ H Q I (k σ H Q q)⟩
theorem PS.imp {X : Cx} {st : Stmt} {t t' : TS} (h : PS X st t) (k : ∀ D σ H, t' D σ H → t D σ H) : PS X st t' := ⟨fun pins s σ H D I q => h.run pins s σ H D I (k D σ H q)⟩
theorem PSs.imp {X : Cx} {st : List Stmt} {t t' : TS} (h : PSs X st t) (k : ∀ D σ H, t' D σ H → t D σ H) : PSs X st t' := ⟨fun pins s σ H D I q => h.run pins s σ H D I (k D σ H q)⟩

/-- the reading of an expression whose datum is told -/
def rdE (T : Tb) (δ : Dv) (S : List Ob) (d : D) (S' : List Ob) : TE := fun σ H Q => ∃ (g : Sg) (O : Addr → Prop), StOk T g S H ∧ (∀ a, O a → g.B a) ∧ EnvOk T g O δ σ H ∧
  ∀ (g' : Sg) (H' : Hp) (v : V), Ext g H g' H' → StOk T g' S' H' → RepD T g' H' d v → Q v H'
def rdT (T : Tb) (δ : Dv) (S : List Ob) (b : Bool) (S' : List Ob) : TT := fun σ H Q => ∃ (g : Sg) (O : Addr → Prop), StOk T g S H ∧ (∀ a, O a → g.B a) ∧ EnvOk T g O δ σ H ∧
  ∀ (g' : Sg) (H' : Hp), Ext g H g' H' → StOk T g' S' H' → Q b H'
def rdA (T : Tb) (δ : Dv) (S : List Ob) (ds : List D) (S' : List Ob) : TA := fun σ H Q => ∃ (g : Sg) (O : Addr → Prop), StOk T g S H ∧ (∀ a, O a → g.B a) ∧ EnvOk T g O δ σ H ∧
  ∀ (g' : Sg) (H' : Hp) (vs : List V), Ext g H g' H' → StOk T g' S' H' → RepDs T g' H' ds vs → Q vs H'

section
variable {T : Tb} {δ : Dv} {S S1 S2 S3 : List Ob} {d d1 d2 d3 : D} {ds : List D} {σ : L2.St} {H : Hp} {g : Sg} {O : Addr → Prop}
theorem rd_two {R : V → V → Hp → Prop} (k : StOk T g S H) (hO : ∀ a, O a → g.B a) (e : EnvOk T g O δ σ H)
    (h : ∀ g' H' x y, Ext g H g' H' → StOk T g' S2 H' → RepD T g' H' d1 x → RepD T g' H' d2 y → R x y H') :
    rdE T δ S d1 S1 σ H fun x H1 => rdE T δ S1 d2 S2 σ H1 fun y H2 => R x y H2 :=
  ⟨g, O, k, hO, e, fun g1 H1 x x1 k1 r1 => ⟨g1, O, k1, fun a o => by rw [x1.eB]; exact hO a o, e.ext k hO x1, fun g2 H2 y x2 k2 r2 => h g2 H2 x y (x1.trans k1 x2) k2 (r1.mono x2.stp) r2⟩⟩
end

/-! ### data and == -/
mutual
theorem RepD.dp {T : Tb} {g : Sg} {H : Hp} : ∀ {d : D} {v : V} {p : PyData}, RepD T g H d v → toPy d = some p → Dp T.K H v p
  | _, _, _, .non, e => by cases e; exact .non
  | _, _, _, .bl b, e => by cases e; exact .bl b
  | _, _, _, .int i, e => by cases e; exact .int i
  | _, _, _, .str x, e => by cases e; exact .str x
  | _, _, _, .ty n, e => by cases e
  | _, _, _, .gl x, e => by cases e
  | .tup ds, _, p, .tup h m r, e => by
    unfold toPy at e
    cases q : toPys ds with
    | none => rw [q] at e; cases e
    | some ps => rw [q] at e; cases e; exact .tup (SqT.of h) (RepDs.dp r q)
  | .lst ds, _, p, .lst h m r, e => by
    unfold toPy at e
    cases q : toPys ds with
    | none => rw [q] at e; cases e
    | some ps => rw [q] at e; cases e; exact .lst (SqL.of h) (RepDs.dp r q)
  | .klst ds, _, p, .klst h r, e => by
    unfold toPy at e
    cases q : toPys ds with
    | none => rw [q] at e; cases e
    | some ps => rw [q] at e; cases e; exact .lst h.sq (RepDs.dp r q)
  | _, _, _, .exc _ _ _ _ _ _ _ _, e => by cases e
  | _, _, _, .ref _, e => by cases e
theorem RepDs.dp {T : Tb} {g : Sg} {H : Hp} : ∀ {ds : List D} {vs : List V} {ps : List PyData}, RepDs T g H ds vs → toPys ds = some ps → DpAll T.K H vs ps
  | _, _, _, .nil, e => by cases e; exact .nil
  | d :: ds, _, _, .cons r t, e => by
    unfold toPys at e
    cases q : toPy d with
    | none => rw [q] at e; cases e
    | some p =>
      cases q2 : toPys ds with
      | none => rw [q, q2] at e; cases e
      | some ps => rw [q, q2] at e; cases e; exact .cons (RepD.dp r q) (RepDs.dp t q2)
end
def rCmp (T : Tb) (op : CmpOp) : R2 := fun x y H Q => ∃ (g : Sg) (dx dy : D) (b : Bool), RepD T g H dx x ∧ RepD T g H dy y ∧ cmpD op dx dy = some b ∧ Q (.bl b) H
theorem eqD_of {x y : D} {b : Bool} (h : eqD x y = some b) : ∃ p q, toPy x = some p ∧ toPy y = some q ∧ SeqAt.shaped p = true ∧ SeqAt.shaped q = true ∧ b = PyData.eqv p q := by
  unfold eqD at h
  split at h
  · rename_i a c ea ec
    split at h
    · rename_i z
      obtain ⟨z1, z2⟩ := Bool.and_eq_true_iff.mp z
      cases h
      exact ⟨a, c, ea, ec, z1, z2, rfl⟩
    · cases h
  · cases h
theorem op_cmpD {T : Tb} {X : Cx} (hK : X.K = T.K) (hu : X.A.units + 64 < cLine) (op : CmpOp) : OpR X (compareOp op) (rCmp T op) := by
  intro pins s σ H x y v u Q I rx ry h
  obtain ⟨g, dx, dy, b, hx, hy, e, q⟩ := h
  have dec : ∀ {f : Int → Int → Bool} {o : CmpOp}, (∀ i j t t', wpAny (model X.prog X.w) X.A (compareOp o (.int i t) (.int j t')) (fun r s' => r = .bool (f i j) ∧ s' = s) X.xe s) →
      cmpI f dx dy = some b → wpAny (model X.prog X.w) X.A (compareOp o v u) (EP X pins σ Q) X.xe s := by
    intro f o rule e
    obtain ⟨i, j, rfl, rfl, rfl⟩ := cmpI_of e
    cases hx
    cases hy
    obtain ⟨t, rfl⟩ := rx
    obtain ⟨t', rfl⟩ := ry
    refine thn (rule _ _ t t') fun r s' z => ?_
    obtain ⟨rfl, rfl⟩ := z
    exact ⟨.bl _, H, I, rfl, q⟩
  cases op with
  | Eq =>
    obtain ⟨p, p', e1, e2, s1, s2, rfl⟩ := eqD_of e
    exact op_eqD hu pins s σ H x y v u Q I rx ry ⟨p, p', by rw [hK]; exact hx.dp e1, by rw [hK]; exact hy.dp e2, s1, s2, q⟩
  | NotEq =>
    obtain ⟨c, e0, rfl⟩ := Option.map_eq_some_iff.mp e
    obtain ⟨p, p', e1, e2, s1, s2, rfl⟩ := eqD_of e0
    exact op_neD hu pins s σ H x y v u Q I rx ry ⟨p, p', by rw [hK]; exact hx.dp e1, by rw [hK]; exact hy.dp e2, s1, s2, q⟩
  | Lt => exact dec (f := fun i j => decide (i < j)) (fun i j t t' => lt_int ⟨rfl, rfl⟩) e
  | LtE => exact dec (f := fun i j => decide (i ≤ j)) (fun i j t t' => le_int ⟨rfl, rfl⟩) e
  | Gt => exact dec (f := fun i j => decide (j < i)) (fun i j t t' => gt_int ⟨rfl, rfl⟩) e
  | GtE => exact dec (f := fun i j => decide (j ≤ i)) (fun i j t t' => ge_int ⟨rfl, rfl⟩) e
  | _ => cases e

/-! ### operators -/
def rBin (T : Tb) (op : Operator) : R2 := fun x y H Q => ∃ (g : Sg) (S : List Ob) (dx dy d : D), StOk T g S H ∧ RepD T g H dx x ∧ RepD T g H dy y ∧ binD op dx dy = some d ∧
  ∀ (H' : Hp) (v : V), Ext g H g H' → StOk T g S H' → RepD T g H' d v → Q v H'
theorem RepDs.list {T : Tb} {g : Sg} {S : List Ob} {H : Hp} {p : Addr} {ds : List D} {vs : List V} (k : StOk T g S H) (h : H p = none) (r : RepDs T g H ds vs) : RepD T g (upd H p (.lst vs)) (.lst ds) (.ref p) :=
  .lst upd_same (k.notM h) (r.mono (Ext.laid h).stp)
theorem RepDs.tuple {T : Tb} {g : Sg} {S : List Ob} {H : Hp} {p : Addr} {ds : List D} {vs : List V} (k : StOk T g S H) (h : H p = none) (r : RepDs T g H ds vs) : RepD T g (upd H p (.tup vs)) (.tup ds) (.ref p) :=
  .tup upd_same (k.notM h) (r.mono (Ext.laid h).stp)
theorem sizeB_ok {n : Nat} (h : sizeB n = true) : n ≤ sizeLine := by
  rw [sizeLine_eq]
  exact of_decide_eq_true h

theorem rep_size (x : Array Nat) : ∀ (n : Nat) (acc : Array Nat), (List.foldl (fun a b : Array Nat => a ++ b) acc (List.replicate n x)).size = acc.size + n * x.size
  | 0, acc => by simp
  | n + 1, acc => by
    rw [List.replicate_succ, List.foldl_cons, rep_size x n (acc ++ x), Array.size_append, Nat.succ_mul]
    omega
theorem repS_fin {X : Cx} {pins : List (Addr × Obj)} {σ : L2.St} {H : Hp} {s : Shared} {a : Str} {k : Int} {t t' : Tok} {Q : VK} (I : Inv X pins σ H s) (h0 : 0 ≤ k) (h1 : k < 1000) (hl : a.length < 1000) (q : Q (.str (repS a k.toNat)) H) :
    wpAny (model X.prog X.w) X.A (binaryOp .Mult (.str a t) (.int k t')) (EP X pins σ Q) X.xe s := by
  have hm : a.length * k.toNat ≤ 1000 * 1000 := Nat.mul_le_mul (by omega) (by omega)
  refine PySem.P.mul_str (by rw [decide_eq_false (by omega), decide_eq_false (by omega)]; rfl) (fun hn _ hc => ?_) (fun hn _ => ?_) ?_
  · have h2 : (1000 : Int) ≤ (2 ^ 63 - 1) / k := by
      rw [Int.le_ediv_iff_mul_le (by omega)]
      omega
    omega
  · unfold Builtin.Str.tooLong
    exact decide_eq_false (by first | (rw [sizeLine_eq]; omega) | omega)
  · by_cases c1 : k < 1
    · have e : k = 0 := by omega
      subst e
      rw [if_pos (by decide)]
      exact ⟨by decide, .str (repS a 0), H, I.tok _, ⟨_, rfl⟩, q⟩
    · rw [if_neg c1]
      by_cases c2 : (k == 1 || a.length == 0) = true
      · rw [if_pos c2]
        have e : repS a k.toNat = a := by
          unfold repS
          rcases Bool.or_eq_true_iff.mp c2 with z | z
          · have z' : k = 1 := by simpa using z
            subst z'
            simp [List.replicate]
          · have z' : a.cps = #[] := by
              have z2 : a.length = 0 := by simpa using z
              exact Array.eq_empty_of_size_eq_zero z2
            obtain ⟨c⟩ := a
            dsimp only at z'
            subst z'
            have : ∀ n : Nat, List.foldl (fun a b : Array Nat => a ++ b) #[] (List.replicate n #[]) = #[] := fun n => by
              induction n with
              | zero => rfl
              | succ n ih => rw [List.replicate_succ, List.foldl_cons]; simpa using ih
            rw [this]
        exact ⟨.str a, H, I, ⟨_, rfl⟩, by rw [← e]; exact q⟩
      · rw [if_neg c2]
        refine ⟨?_, .str (repS a k.toNat), H, I.tok _, ⟨_, rfl⟩, q⟩
        show (List.foldl (fun x1 x2 : Array Nat => x1 ++ x2) #[] (List.replicate k.toNat a.cps)).size ≤ sizeLine
        have e1 := rep_size a.cps k.toNat #[]
        have e2 : k.toNat * a.cps.size = a.length * k.toNat := Nat.mul_comm _ _
        rw [e1, e2, sizeLine_eq]
        have e3 : (#[] : Array Nat).size = 0 := rfl
        omega

theorem mulB_ok {i j : Int} (h : mulB i j = true) : CMul i j := by
  unfold mulB at h
  rcases Bool.or_eq_true_iff.mp h with z | z
  · obtain ⟨z1, z2⟩ := Bool.and_eq_true_iff.mp z
    exact .inr ⟨of_decide_eq_true z1, of_decide_eq_true z2⟩
  · obtain ⟨z1, z2⟩ := Bool.and_eq_true_iff.mp z
    exact .inl ⟨of_decide_eq_true z1, of_decide_eq_true z2⟩
theorem op_binD {T : Tb} {X : Cx} (hK : X.K = T.K) (op : Operator) : OpR X (binaryOp op) (rBin T op) := by
  intro pins s σ H x y v u Q I rx ry h
  obtain ⟨g, S, dx, dy, d, k, hx, hy, e, q⟩ := h
  have fin : ∀ {z : D} {y : V}, z = d → RepD T g H z y → Q y H := fun ez r => by subst ez; exact q H _ (Ext.refl g H) k r
  have finL : ∀ {zs : List D} {ws : List V} {p : Addr}, .lst zs = d → RepDs T g H zs ws → H p = none → Q (.ref p) (upd H p (.lst ws)) := fun ez r n => by
    subst ez
    exact q _ _ (Ext.laid n) (k.laid n) (r.list k n)
  have finT : ∀ {zs : List D} {ws : List V} {p : Addr}, .tup zs = d → RepDs T g H zs ws → H p = none → Q (.ref p) (upd H p (.tup ws)) := fun ez r n => by
    subst ez
    exact q _ _ (Ext.laid n) (k.laid n) (r.tuple k n)
  have num : ∀ {c : Int → Int → Bool} {f : Int → Int → Int} {o : Operator} {C : Int → Int → Prop}, OpR X (binaryOp o) (rI C fun i j => .int (f i j)) → (∀ i j, c i j = true → C i j) → intD c f dx dy = some d →
      wpAny (model X.prog X.w) X.A (binaryOp o v u) (EP X pins σ Q) X.xe s := by
    intro c f o C rule hc e
    obtain ⟨i, j, rfl, rfl, z, ez⟩ := intD_of e
    cases hx
    cases hy
    exact rule pins s σ H _ _ v u Q I rx ry ⟨i, j, rfl, rfl, hc _ _ z, fin ez.symm (.int _)⟩
  cases op with
  | Add =>
    have e : addD dx dy = some d := e
    unfold addD at e
    split at e
    · cases hx
      cases hy
      cases e
      exact op_add pins s σ H _ _ v u Q I rx ry ⟨_, _, rfl, rfl, fin rfl (.int _)⟩
    · split at e
      · rename_i z
        cases hx
        cases hy
        cases e
        exact op_add_str pins s σ H _ _ v u Q I rx ry ⟨_, _, rfl, rfl, sizeB_ok z, fin rfl (.str _)⟩
      · cases e
    · split at e
      · rename_i z
        cases hx with
        | lst h1 m1 r1 =>
          cases hy with
          | lst h2 m2 r2 =>
            cases e
            exact op_cat pins s σ H _ _ v u Q I rx ry ⟨_, _, _, _, rfl, rfl, h1, h2, by rw [← r1.length, ← r2.length]; exact sizeB_ok z, fun p n => finL rfl (r1.append r2) n⟩
      · cases e
    · cases e
  | Sub => exact num (C := fun _ _ => True) (fun pins s σ H x y v u Q I rx ry ⟨i, j, a, b, _, c⟩ => op_sub pins s σ H x y v u Q I rx ry ⟨i, j, a, b, c⟩) (fun _ _ _ => trivial) e
  | Mult =>
    have e : mulD dx dy = some d := e
    unfold mulD at e
    split at e
    · split at e
      · rename_i z
        cases hx
        cases hy
        cases e
        exact op_mul pins s σ H _ _ v u Q I rx ry ⟨_, _, rfl, rfl, mulB_ok z, fin rfl (.int _)⟩
      · cases e
    · split at e
      · rename_i z
        obtain ⟨z, z3⟩ := Bool.and_eq_true_iff.mp z
        obtain ⟨z1, z2⟩ := Bool.and_eq_true_iff.mp z
        cases hx
        cases hy
        cases e
        obtain ⟨t, rfl⟩ := rx
        obtain ⟨t', rfl⟩ := ry
        exact repS_fin I (of_decide_eq_true z1) (of_decide_eq_true z2) (of_decide_eq_true z3) (fin rfl (.str _))
      · cases e
    · split at e
      · rename_i a kk _ z
        obtain ⟨z, z3⟩ := Bool.and_eq_true_iff.mp z
        obtain ⟨z1, z2⟩ := Bool.and_eq_true_iff.mp z
        have z1 := of_decide_eq_true z1
        have z2 := of_decide_eq_true z2
        have z3 := of_decide_eq_true z3
        cases hx with
        | lst h1 m1 r1 =>
          cases hy
          cases e
          have hm : a.length * kk.toNat ≤ 1000 * 1000 := Nat.mul_le_mul (Nat.le_of_lt z3) (by omega)
          exact op_rep pins s σ H _ _ v u Q I rx ry ⟨_, _, _, rfl, rfl, h1, by omega, by omega, by rw [← r1.length, sizeLine_eq]; exact Nat.le_trans hm (by decide), fun p n => finL rfl (r1.replicate _) n⟩
      · cases e
    · split at e
      · rename_i z
        obtain ⟨z, z4⟩ := Bool.and_eq_true_iff.mp z
        obtain ⟨z, z3⟩ := Bool.and_eq_true_iff.mp z
        obtain ⟨z1, z2⟩ := Bool.and_eq_true_iff.mp z
        cases hx with
        | tup h1 m1 r1 =>
          cases hy
          cases e
          refine op_repT pins s σ H _ _ v u Q I rx ry ⟨_, _, _, rfl, rfl, SqT.of h1, fun en => ?_, of_decide_eq_true z1, of_decide_eq_true z2, by rw [← r1.length]; exact of_decide_eq_true z3, fun p n => finT rfl (r1.replicate _) n⟩
          subst en
          cases r1
          cases z4
      · cases e
    · cases e
  | FloorDiv => exact num (C := CDiv) op_fdiv (fun i j z => by obtain ⟨z1, z2⟩ := Bool.and_eq_true_iff.mp z; exact ⟨of_decide_eq_true z1, of_decide_eq_true z2⟩) e
  | Mod => exact num (C := fun _ j => 0 < j) op_mod (fun i j z => of_decide_eq_true z) e
  | Pow =>
    refine num (C := fun i j => 0 ≤ j ∧ ((Builtin.Int.intBits i : Nat) : Int) * j ≤ 2 ^ 27) (opI fun _ _ _ _ _ _ _ hc q => pow_int hc.1 hc.2 q) (fun i j z => ?_) e
    obtain ⟨z1, z2⟩ := Bool.and_eq_true_iff.mp z
    exact ⟨of_decide_eq_true z1, of_decide_eq_true z2⟩
  | _ => cases e
end Ev

/-! What the machine says, the text does: expressions. -/
namespace Ev
open PySem PySem.Spec PyProof.Rows L2

/-- a call of a def, as the machine says -/
def spF (T : Tb) (call : CallF) (f : Str) (n : Nat) : Sp := fun vs H Q _ => ∃ (g : Sg) (S : List Ob) (ds : List D) (d : D) (S' : List Ob), call f ds S = some (d, S') ∧ ds.length = n ∧ StOk T g S H ∧ RepDs T g H ds vs ∧
  ∀ (g' : Sg) (H' : Hp) (v : V), Ext g H g' H' → StOk T g' S' H' → RepD T g' H' d v → Q v H'

/-- what an own exception class c does -/
structure XOk (P : Program) (w : World) (K : PySem.W.Frag) (mg : Str → Option Value) (base : Heap) (c : Str) (x : ExI) : Prop where
  kp : PySem.W.keepIn K (.ref (He.ga K c)) = true
  made : ∀ (X : Cx) (pins : List (Addr × Obj)) (σ : L2.St) (H : Hp) (s : Shared) (us : List Value) (kw : List (Str × Value)) (y : V) (Q : VK), X.prog = P → X.w = w → X.K = K → X.mg = mg → X.base = base → Inv X pins σ H s → Room 4 X.A →
    ((∃ u, us = [u] ∧ kw = [] ∧ RelV y u) ∨ (∃ u, us = [] ∧ kw = [(x.fld, u)] ∧ RelV y u) ∨ (us = [] ∧ kw = [] ∧ x.opt = true ∧ y = .non)) →
    (∀ e t d, H e = none → H t = none → H d = none → e ≠ t → e ≠ d → t ≠ d → Q (.ref e) (upd (upd (upd H t (.tup [.str x.msg])) d (.xd [(x.fld, y)])) e (exq e (He.ga K c) t (some d)))) →
    wpAny (model P w) X.A (call (.ref (He.ga K c)) us kw) (EP X pins σ Q) X.xe s
  get : ∀ (X : Cx) (pins : List (Addr × Obj)) (σ : L2.St) (H : Hp) (s : Shared) (e t d : Addr) (y : V) (Q : Value → Shared → Prop) (E : Value → Shared → Prop), X.prog = P → X.w = w → X.K = K → Inv X pins σ H s →
    H e = some (exq e (He.ga K c) t (some d)) → H d = some (.xd [(x.fld, y)]) → (∀ u s', Inv X pins σ H s' → RelV y u → Q u s') → wpAny (model P w) X.A (getAttr (.ref e) x.fld true) Q E s
  str : ∀ (X : Cx) (pins : List (Addr × Obj)) (σ : L2.St) (H : Hp) (s : Shared) (e t : Addr) (d : Option Addr) (Q : VK), X.prog = P → X.w = w → X.K = K → Inv X pins σ H s → Room 4 X.A →
    H e = some (exq e (He.ga K c) t d) → H t = some (.tup [.str x.msg]) → Q (.str x.msg) H → wpAny (model P w) X.A (call (.type "str") [.ref e]) (EP X pins σ Q) X.xe s
  isi : ∀ (X : Cx) (pins : List (Addr × Obj)) (σ : L2.St) (H : Hp) (s : Shared) (e t d : Addr) (fs : List (Str × V)) (cv : Value) (b : Bool) (Q : VK), X.prog = P → X.w = w → X.K = K → Inv X pins σ H s →
    H e = some (exq e (He.ga K c) t (some d)) → H d = some (.xd fs) → PySem.W.kitOne K (.ref (He.ga K c)) cv = some b → Q (.bl b) H → wpAny (model P w) X.A (call (.builtin "isinstance") [.ref e, cv]) (EP X pins σ Q) X.xe s

/-- what is known of the text, at the level k -/
structure MdOk (P : Program) (w : World) (K : PySem.W.Frag) (mg : Str → Option Value) (base : Heap) (T : Tb) (m : Md) (call : CallF) (k : Nat) : Prop where
  K : K = T.K
  exs : T.exs = m.exs
  gl : ∀ x, ((m.exs x).isSome || m.own x) = true → mg x = some (.ref (He.ga T.K x))
  ty : ∀ x n, m.bty x = some n → mg x = none ∧ bootBuiltins x = some (.type n)
  fn : ∀ x, m.bfn x = true → mg x = none
  kitC : ∀ n x d, m.exs n = some x → ((m.exs d).isSome || m.own d) = true → PySem.W.kitOne T.K (.ref (He.ga T.K n)) (.ref (He.ga T.K d)) = some ((m.sub n).contains d)
  kitT : ∀ n x t, m.exs n = some x → m.tyk t = true → PySem.W.kitOne T.K (.ref (He.ga T.K n)) (.type t) = some ((m.subT n).contains t)
  x : ∀ c x, m.exs c = some x → XOk P w T.K mg base c x
  dfs : ∀ f di, m.defs f = some di → (∃ fd, FnOk P w T.K mg base CX0 (k + 4) (He.ga T.K f) fd di.ps (spF T call f di.ps.length) ∧ Binds T.K fd di.ps []) ∧ mg f = some (.ref (He.ga T.K f)) ∧ PySem.W.keepIn T.K (.ref (He.ga T.K f)) = true

/-- where the code stands -/
structure Cox (T : Tb) (m : Md) (call : CallF) (k : Nat) (X : Cx) (c : Cf) : Prop where
  md : MdOk X.prog X.w X.K X.mg X.base T m call k
  N : X.N = c.N
  sc : X.env.scope = c.sc
  calm : X.calm = true
  nd : X.N.Nodup
  room : Room (k + 4) X.A
  fnc : c.fn = true → ∀ x, X.fn x = true
  xe : X.xe = fun _ _ => False

section
variable {T : Tb} {m : Md} {call : CallF} {k : Nat} {X : Cx} {c : Cf} {δ : Dv} {S S1 S' : List Ob} {d : D}

theorem beq_of_ne {x y : Str} (h : x ≠ y) : (x == y) = false := by simpa using h
theorem dbg_of {x : Str} (h : dbg x = false) : x ≠ "__debug__" ∧ x ≠ "__classdict__" ∧ x ≠ "__name__" := by
  unfold dbg at h
  simp only [Bool.or_eq_false_iff, decide_eq_false_iff_not] at h
  exact ⟨h.1.1, h.1.2, h.2⟩
theorem vis_of {sc : Scope} {x : Str} (h : isVis sc x = true) : Vis sc x := by
  unfold isVis at h
  split at h <;> first | exact .inl (by assumption) | exact .inr (.inl (by assumption)) | exact .inr (.inr (by assumption)) | cases h
theorem isGl_of {sc : Scope} {x : Str} (h : isGl sc x = true) : sc.names.lookup x = some .globalImplicit := by
  unfold isGl at h
  split at h
  · assumption
  · cases h
theorem idx_of {N : List Str} {x : Str} {i : Nat} (h : idx N x = some i) : N[i]? = some x := by
  unfold idx at h
  obtain ⟨hi, e, _⟩ := List.findIdx?_eq_some_iff_getElem.mp h
  rw [List.getElem?_eq_getElem hi]
  exact congrArg some (of_decide_eq_true e)
theorem Cox.gl (C : Cox T m call k X c) {x : Str} (h : isGl c.sc x = true) : Gl X x := by
  show X.env.scope.names.lookup x = some .globalImplicit
  rw [C.sc]
  exact isGl_of h

theorem ok_name (C : Cox T m call k X c) {x : Str} {pos : Pos} (h : evN m c δ x = some d) : PE X (.Name x pos) (rdE T δ S d S) := by
  unfold evN at h
  split at h
  · cases h
  · rename_i hd
    obtain ⟨n1, n2, n3⟩ := dbg_of (Bool.eq_false_iff.mpr hd)
    split at h
    · rename_i hv
      split at h
      · rename_i i hi
        split at h
        · rename_i d' e
          cases h
          have hv' : Vis X.env.scope x := by rw [C.sc]; exact vis_of hv
          refine PE.imp (pe_var (i := i) (by rw [C.N]; exact idx_of hi) hv' (beq_of_ne n1) (beq_of_ne n2)) fun σ H Q ⟨g, O, k1, hO, en, q⟩ => ?_
          obtain ⟨v, hv2, r⟩ := en.at_ i _ e
          cases r with
          | val r => exact ⟨v, hv2, q g H v (Ext.refl g H) k1 r⟩
        · cases h
      · cases h
    · split at h
      · rename_i hg
        split at h
        · rename_i hx
          cases h
          refine PE.imp (pe_glob (v := .ref (He.ga T.K x)) (C.gl hg) (C.md.gl x hx) rfl (beq_of_ne n1)) fun σ H Q ⟨g, O, k1, hO, en, q⟩ => ?_
          exact q g H _ (Ext.refl g H) k1 (.gl x)
        · obtain ⟨n, hn, rfl⟩ := Option.map_eq_some_iff.mp h
          obtain ⟨h1, h2⟩ := C.md.ty x n hn
          refine PE.imp (pe_bltn (v := .ty n) (C.gl hg) h1 h2 rfl n3 (beq_of_ne n1)) fun σ H Q ⟨g, O, k1, hO, en, q⟩ => ?_
          exact q g H _ (Ext.refl g H) k1 (.ty n)
      · cases h
theorem ok_const {v : Const} {j : Nat} {pos : Pos} (h : cst v = some d) : PE X (.Constant v j pos) (rdE T δ S d S) := by
  unfold cst at h
  split at h
  · cases h
    exact PE.imp pe_non fun σ H Q ⟨g, O, k1, hO, en, q⟩ => q g H _ (Ext.refl g H) k1 .non
  · cases h
    exact PE.imp pe_bl fun σ H Q ⟨g, O, k1, hO, en, q⟩ => q g H _ (Ext.refl g H) k1 (.bl _)
  · cases h
    exact PE.imp pe_int fun σ H Q ⟨g, O, k1, hO, en, q⟩ => q g H _ (Ext.refl g H) k1 (.int _)
  · cases h
    exact PE.imp pe_str fun σ H Q ⟨g, O, k1, hO, en, q⟩ => q g H _ (Ext.refl g H) k1 (.str _)
  · cases h

/-- what an evaluator of the machine's is to the text -/
def EvOk (T : Tb) (X : Cx) (δ : Dv) (ev : EvF) : Prop := ∀ S e d S', ev S e = some (d, S') → PE X e (rdE T δ S d S')
theorem star_of {e : Expr} {es : List Expr} {env : Env} (h : isStar e = false) : starEach (e :: es) env = (false, eval e env) :: starEach es env := by
  cases e <;> first | rfl | cases h
theorem evL_star {ev : EvF} : ∀ {es : List Expr} {S : List Ob} {ds : List D} {S' : List Ob}, evL ev S es = some (ds, S') → es.all (fun e => !isStar e) = true
  | [], _, _, _, _ => rfl
  | e :: es, S, ds, S', h => by
    unfold evL at h
    split at h
    · cases h
    · rename_i hs
      split at h
      · cases h
      · split at h
        · cases h
        · rename_i q
          rw [List.all_cons, evL_star q, Bool.eq_false_iff.mpr hs] <;> rfl
theorem noStar : ∀ {es : List Expr} {env : Env} {pos : Pos}, es.all (fun e => !isStar e) = true → (backTo pos (starEach es env)).any (·.1) = false
  | [], _, _, _ => rfl
  | e :: es, env, pos, h => by
    rw [List.all_cons] at h
    obtain ⟨h1, h2⟩ := Bool.and_eq_true_iff.mp h
    rw [star_of (by simpa using h1)]
    show (false || (backTo pos (starEach es env)).any (·.1)) = false
    rw [noStar h2] <;> rfl
theorem ok_list {ev : EvF} (hev : EvOk T X δ ev) : ∀ {es : List Expr} {S : List Ob} {ds : List D} {S' : List Ob}, evL ev S es = some (ds, S') → PA X es (rdA T δ S ds S')
  | [], _, _, _, h => by
    unfold evL at h
    cases h
    exact PA.imp pa_nil fun σ H Q ⟨g, O, k1, hO, en, q⟩ => q g H _ (Ext.refl g H) k1 .nil
  | e :: es, S, ds, S', h => by
    unfold evL at h
    split at h
    · cases h
    · rename_i hs
      split at h
      · cases h
      · rename_i x S1 h1
        split at h
        · cases h
        · rename_i xs S2 h2
          cases h
          refine PA.imp (pa_cons (hev _ _ _ _ h1) (ok_list hev h2) (star_of (Bool.eq_false_iff.mpr hs))) fun σ H Q ⟨g, O, k1, hO, en, q⟩ => ?_
          exact ⟨g, O, k1, hO, en, fun g1 H1 v x1 k2 r1 => ⟨g1, O, k2, fun a o => by rw [x1.eB]; exact hO a o, en.ext k1 hO x1, fun g2 H2 vs x2 k3 r2 => q g2 H2 _ (x1.trans k2 x2) k3 (.cons (r1.mono x2.stp) r2)⟩⟩
theorem ok_tup {es : List Expr} {ds : List D} {j : Nat} {pos : Pos} (h : PA X es (rdA T δ S ds S')) (hz : sizeB ds.length = true) : PE X (.Tuple es j pos) (rdE T δ S (.tup ds) S') :=
  PE.imp (pe_tup h) fun σ H Q ⟨g, O, k1, hO, en, q⟩ => ⟨g, O, k1, hO, en, fun g' H' vs x1 k2 r => ⟨by rw [← r.length]; exact sizeB_ok hz, fun p n => q g' _ _ (x1.trans k2 (Ext.laid n)) (k2.laid n) (r.tuple k2 n)⟩⟩
theorem ok_lst {es : List Expr} {ds : List D} {pos : Pos} (h : PA X es (rdA T δ S ds S')) (hz : sizeB ds.length = true) : PE X (.List es pos) (rdE T δ S (.lst ds) S') :=
  PE.imp (pe_lst h) fun σ H Q ⟨g, O, k1, hO, en, q⟩ => ⟨g, O, k1, hO, en, fun g' H' vs x1 k2 r => ⟨by rw [← r.length]; exact sizeB_ok hz, fun p n => q g' _ _ (x1.trans k2 (Ext.laid n)) (k2.laid n) (r.list k2 n)⟩⟩
theorem ok_bin {a b : Expr} {op : Operator} {pos : Pos} {x y : D} {S2 : List Ob} (hK : X.K = T.K) (ha : PE X a (rdE T δ S x S1)) (hb : PE X b (rdE T δ S1 y S2)) (h : binD op x y = some d) : PE X (.BinOp a op b pos) (rdE T δ S d S2) :=
  PE.imp (pe_op (op_binD hK op) ha hb) fun σ H Q ⟨g, O, k1, hO, en, q⟩ => rd_two k1 hO en fun g' H' v w x1 k2 r1 r2 => ⟨g', _, x, y, d, k2, r1, r2, h, fun H2 z x2 k3 r => q g' H2 z (x1.trans k2 x2) k3 r⟩
theorem nomark' {op : CmpOp} {b : Expr} {x y : D} {r : Bool} (h : cmpD op x y = some r) : behindInMarks op b = false := by
  refine nobehind b ?_ ?_
  · rintro rfl; cases h
  · rintro rfl; cases h
theorem ok_cmp {a b : Expr} {op : CmpOp} {pos : Pos} {x y : D} {r : Bool} {S2 : List Ob} (hK : X.K = T.K) (hu : X.A.units + 64 < cLine) (ha : PE X a (rdE T δ S x S1)) (hb : PE X b (rdE T δ S1 y S2)) (h : cmpD op x y = some r) : PE X (.Compare a [op] [b] pos) (rdE T δ S (.bl r) S2) :=
  PE.imp (pe_cmpR (op_cmpD hK hu op) ha hb (nomark' h)) fun σ H Q ⟨g, O, k1, hO, en, q⟩ => rd_two k1 hO en fun g' H' v w x1 k2 r1 r2 => ⟨g', x, y, r, r1, r2, h, q g' H' _ x1 k2 (.bl r)⟩
theorem ok_cmpT {a b : Expr} {op : CmpOp} {pos : Pos} {x y : D} {r : Bool} {S2 : List Ob} (hK : X.K = T.K) (hu : X.A.units + 64 < cLine) (ha : PE X a (rdE T δ S x S1)) (hb : PE X b (rdE T δ S1 y S2)) (h : cmpD op x y = some r) : PT X (.Compare a [op] [b] pos) (rdT T δ S r S2) :=
  PT.imp (pt_cmpR (op_cmpD hK hu op) ha hb (nomark' h)) fun σ H Q ⟨g, O, k1, hO, en, q⟩ => rd_two k1 hO en fun g' H' v w x1 k2 r1 r2 => ⟨g', x, y, r, r1, r2, h, r, rfl, q g' H' x1 k2⟩
theorem tru_of {g : Sg} {H : Hp} {v : V} {b : Bool} (r : RepD T g H d v) (h : truD d = some b) : TruV T.K v H b := by
  unfold truD at h
  have len : ∀ {ds : List D} {vs : List V}, RepDs T g H ds vs → (!ds.isEmpty) = !vs.isEmpty := fun r => by cases r <;> rfl
  split at h
  · cases r; cases h; rfl
  · cases r; cases h; rfl
  · cases r; cases h; rfl
  · split at h
    · cases r with
      | lst h1 m1 r1 => cases h; exact .inl ⟨_, SqL.of h1, len r1⟩
    · cases h
  · split at h
    · cases r with
      | klst h1 r1 => cases h; exact .inl ⟨_, h1.sq, len r1⟩
    · cases h
  · split at h
    · cases r with
      | tup h1 m1 r1 => cases h; exact .inr (.inl ⟨_, SqT.of h1, len r1⟩)
    · cases h
  · cases h
theorem ok_tru {e : Expr} {b : Bool} (hK : X.K = T.K) (he : ∀ whole, isTrue e X.env whole = (do let v ← whole; standAt e.pos; holding [v] (truthy v))) (h : PE X e (rdE T δ S d S')) (hb : truD d = some b) : PT X e (rdT T δ S b S') :=
  PT.imp (pt_truth h he) fun σ H Q ⟨g, O, k1, hO, en, q⟩ => ⟨g, O, k1, hO, en, fun g' H' v x1 k2 r => ⟨b, by rw [hK]; exact tru_of r hb, q g' H' x1 k2⟩⟩
theorem rdT_then {b : Bool} {t : Bool → TT} {r : Bool} {S2 : List Ob} {u : TT} (hu : ∀ σ H Q, rdT T δ S1 r S2 σ H Q → u σ H Q) {σ : L2.St} {H : Hp} {Q : Bool → Hp → Prop} (h : rdT T δ S r S2 σ H Q) : rdT T δ S b S1 σ H fun c H1 => u σ H1 Q ∧ c = b := by
  obtain ⟨g, O, k1, hO, en, q⟩ := h
  exact ⟨g, O, k1, hO, en, fun g1 H1 x1 k2 => ⟨hu σ H1 Q ⟨g1, O, k2, fun a o => by rw [x1.eB]; exact hO a o, en.ext k1 hO x1, fun g2 H2 x2 k3 => q g2 H2 (x1.trans k2 x2) k3⟩, rfl⟩⟩
end
end Ev

/-! What the machine says, the text does: tests, targets, comprehensions. -/
namespace Ev
open PySem PySem.Spec PyProof.Rows L2
section
variable {T : Tb} {m : Md} {call : CallF} {k : Nat} {X : Cx} {c : Cf} {δ : Dv} {S S1 S' : List Ob} {d : D}

theorem PW.never {e : Expr} : PW X e fun _ _ _ => False := ⟨fun _ _ _ _ _ _ _ h => h.elim⟩
def isBool : Expr → Bool
  | .BoolOp _ _ _ => true
  | _ => false
theorem rdT_next {b : Bool} {r : Bool} {S2 : List Ob} {t : TT} {σ : L2.St} {H : Hp} {Q : Bool → Hp → Prop} {R : Bool → Hp → Prop} (h : rdT T δ S r S2 σ H Q)
    (hR : ∀ H1, rdT T δ S1 r S2 σ H1 Q → R b H1) : rdT T δ S b S1 σ H R := by
  obtain ⟨g, O, k1, hO, en, q⟩ := h
  exact ⟨g, O, k1, hO, en, fun g1 H1 x1 k2 => hR H1 ⟨g1, O, k2, fun a o => by rw [x1.eB]; exact hO a o, en.ext k1 hO x1, fun g2 H2 x2 k3 => q g2 H2 (x1.trans k2 x2) k3⟩⟩
theorem ok_test {ev : EvF} (hK : X.K = T.K) (hu : X.A.units + 64 < cLine) (hev : EvOk T X δ ev) : ∀ (n : Nat) (S : List Ob) (e : Expr) (b : Bool) (S' : List Ob), evT ev n S e = some (b, S') →
    PT X e (rdT T δ S b S') ∧ (isBool e = true → PW X e (rdT T δ S b S')) := by
  intro n
  induction n with
  | zero => intro S e b S' h; cases h
  | succ n ih =>
    intro S e b S' h
    unfold evT at h
    split at h
    · obtain ⟨⟨r, S1⟩, h1, h2⟩ := Option.map_eq_some_iff.mp h
      cases h2
      refine ⟨PT.imp (pt_not (ih _ _ _ _ h1).1) fun σ H Q q => q, fun z => by cases z⟩
    · have w := pw_or1 (pos := by assumption) (ih _ _ _ _ h).1
      exact ⟨w.pt, fun _ => w⟩
    · have w := pw_and1 (pos := by assumption) (ih _ _ _ _ h).1
      exact ⟨w.pt, fun _ => w⟩
    · rename_i a b' rest p
      have w : PW X (.BoolOp .Or (a :: b' :: rest) p) (rdT T δ S b S') := by
        split at h
        · rename_i S1 h1
          cases h
          exact PW.imp (pw_or (ih _ _ _ _ h1).1 PW.never) fun σ H Q ⟨g, O, k1, hO, en, q⟩ => ⟨g, O, k1, hO, en, fun g1 H1 x1 k2 => by
            exact iteT (q g1 H1 x1 k2)⟩
        · rename_i S1 h1
          have t := (ih _ _ _ _ h).2 rfl
          refine PW.imp (pw_or (ih _ _ _ _ h1).1 t) fun σ H Q q => ?_
          exact rdT_next (t := fun _ _ _ => True) q fun H1 z => iteF z
        · cases h
      exact ⟨w.pt, fun _ => w⟩
    · rename_i a b' rest p
      have w : PW X (.BoolOp .And (a :: b' :: rest) p) (rdT T δ S b S') := by
        split at h
        · rename_i S1 h1
          cases h
          exact PW.imp (pw_and (ih _ _ _ _ h1).1 PW.never) fun σ H Q ⟨g, O, k1, hO, en, q⟩ => ⟨g, O, k1, hO, en, fun g1 H1 x1 k2 => by
            exact iteF (q g1 H1 x1 k2)⟩
        · rename_i S1 h1
          have t := (ih _ _ _ _ h).2 rfl
          refine PW.imp (pw_and (ih _ _ _ _ h1).1 t) fun σ H Q q => ?_
          exact rdT_next (t := fun _ _ _ => True) q fun H1 z => iteT z
        · cases h
      exact ⟨w.pt, fun _ => w⟩
    · cases h
    · split at h
      · cases h
      · rename_i h1
        split at h
        · cases h
        · rename_i h2
          obtain ⟨r, h3, h4⟩ := Option.map_eq_some_iff.mp h
          cases h4
          exact ⟨ok_cmpT hK hu (hev _ _ _ _ h1) (hev _ _ _ _ h2) h3, fun z => by cases z⟩
    · cases h
    · split at h
      · cases h
      · rename_i h1
        obtain ⟨r, h3, h4⟩ := Option.map_eq_some_iff.mp h
        cases h4
        exact ⟨ok_tru hK (fun _ => rfl) (hev _ _ _ _ h1) h3, fun z => by cases z⟩
    · split at h
      · cases h
      · rename_i h1
        obtain ⟨r, h3, h4⟩ := Option.map_eq_some_iff.mp h
        cases h4
        exact ⟨ok_tru hK (fun _ => rfl) (hev _ _ _ _ h1) h3, fun z => by cases z⟩
    · cases h

/-! ### targets -/
def tgR1 (c : Cf) : Expr → TG
  | .Name x _ => gName ((idx c.N x).getD 0)
  | _ => fun _ _ _ _ => False
def tgRs (c : Cf) : List Expr → TGs
  | [] => gNil
  | e :: es => gCons (tgR1 c e) (tgRs c es)
def tgR (c : Cf) (K : PySem.W.Frag) : Expr → TG
  | .Name x p => tgR1 c (.Name x p)
  | .Tuple es _ _ => gTup K es.length (tgRs c es)
  | _ => fun _ _ _ _ => False
theorem isTg_of (C : Cox T m call k X c) {x : Str} (h : isTg c x = true) : Loc X.env.scope x ∧ (X.fn x = true ∨ X.env.scope.names.lookup x = some .local) := by
  unfold isTg at h
  rw [C.sc]
  split at h
  · exact ⟨.inl (by assumption), .inr (by assumption)⟩
  · exact ⟨.inr (by assumption), .inl (C.fnc h x)⟩
  · cases h
theorem pg_tg1 (C : Cox T m call k X c) {e : Expr} (h : tgName c e = true) : PG X e (tgR1 c e) := by
  unfold tgName at h
  split at h
  · rename_i x p
    obtain ⟨h1, h2⟩ := Bool.and_eq_true_iff.mp h
    obtain ⟨i, hi⟩ := Option.isSome_iff_exists.mp h2
    obtain ⟨l1, l2⟩ := isTg_of C h1
    show PG X (.Name x p) (gName ((idx c.N x).getD 0))
    rw [hi]
    exact pg_name C.nd (by rw [C.N]; exact idx_of hi) l1 l2
  · cases h
theorem tgName_is {c : Cf} {e : Expr} (h : tgName c e = true) : ∃ x p, e = .Name x p := by
  unfold tgName at h
  split at h
  · exact ⟨_, _, rfl⟩
  · cases h
theorem names_plain {env : Env} : ∀ {es : List Expr}, es.all (tgName c) = true → (assignEach es env).length = es.length ∧ (assignEach es env).findIdx? (·.1) = none
  | [], _ => ⟨rfl, rfl⟩
  | e :: es, h => by
    rw [List.all_cons] at h
    obtain ⟨h1, h2⟩ := Bool.and_eq_true_iff.mp h
    obtain ⟨x, p, rfl⟩ := tgName_is h1
    obtain ⟨i1, i2⟩ := names_plain (env := env) h2
    have e1 : assignEach (.Name x p :: es) env = (false, assign (.Name x p) env) :: assignEach es env := rfl
    refine ⟨by rw [e1, List.length_cons, List.length_cons, i1], ?_⟩
    rw [e1, List.findIdx?_cons]
    simp only [Bool.false_eq_true, if_false, i2, Option.map_none]
theorem pg_tgs (C : Cox T m call k X c) : ∀ {es : List Expr}, es.all (tgName c) = true → PGs X es (tgRs c es)
  | [], _ => pgs_nil
  | e :: es, h => by
    rw [List.all_cons] at h
    obtain ⟨h1, h2⟩ := Bool.and_eq_true_iff.mp h
    obtain ⟨x, p, rfl⟩ := tgName_is h1
    exact pgs_cons (pg_tg1 C h1) (pg_tgs C h2) rfl
theorem pg_tg (C : Cox T m call k X c) {e : Expr} (h : tgOk c e = true) : PG X e (tgR c X.K e) := by
  unfold tgOk at h
  split at h
  · exact pg_tg1 C h
  · rename_i es j p
    obtain ⟨i1, i2⟩ := names_plain (env := X.env) h
    exact pg_tup C.calm (pg_tgs C h) i1 i2
  · cases h

/-- slots that a target sets -/
def Alike (own : List Nat) (σ σ' : L2.St) : Prop := σ'.length = σ.length ∧ ∀ i, i ∉ own → σ'[i]? = σ[i]?
theorem env_set {g : Sg} {O : Addr → Prop} {σ : L2.St} {H : Hp} {i : Nat} {v : V} {sv : SV} (e : EnvOk T g O δ σ H) (r : RepS T g O H sv v) : EnvOk T g O (δ.set i (some sv)) (σ.set i (some v)) H := by
  refine ⟨by rw [List.length_set, List.length_set]; exact e.len, fun j sv' h => ?_⟩
  by_cases hj : i = j
  · subst hj
    have hl : i < δ.length := by
      have := (List.getElem?_eq_some_iff.mp h).1
      rwa [List.length_set] at this
    rw [List.getElem?_set_self hl] at h
    cases h
    exact ⟨v, List.getElem?_set_self (by rw [← e.len]; exact hl), r⟩
  · rw [List.getElem?_set_ne hj] at h
    obtain ⟨w, q, r'⟩ := e.at_ j sv' h
    exact ⟨w, by rw [List.getElem?_set_ne hj]; exact q, r'⟩
def exIx (c : Cf) : Expr → List Nat
  | .Name x _ => (idx c.N x).toList
  | _ => []
theorem bind1_ok {e : Expr} {δ' : Dv} {g : Sg} {O : Addr → Prop} {σ : L2.St} {H : Hp} {v : V} {Q : L2.St → Hp → Prop} (h : bind1 c e d δ = some δ') (en : EnvOk T g O δ σ H) (r : RepD T g H d v)
    (q : ∀ σ', EnvOk T g O δ' σ' H → Alike (exIx c e) σ σ' → Q σ' H) : tgR1 c e v σ H Q := by
  cases e with
  | Name x p =>
    have h : bindN c x d δ = some δ' := h
    unfold bindN at h
    split at h
    · obtain ⟨i, hi, rfl⟩ := Option.map_eq_some_iff.mp h
      show gName ((idx c.N x).getD 0) v σ H Q
      rw [hi]
      refine q _ (env_set en (.val r)) ⟨by rw [Option.getD_some, List.length_set], fun j hj => ?_⟩
      unfold exIx at hj
      dsimp only at hj
      rw [hi] at hj
      exact List.getElem?_set_ne fun z => hj (by rw [← z]; simp)
    · cases h
  | _ => cases h
theorem Alike.trans {a b : List Nat} {σ σ1 σ2 : L2.St} (x : Alike a σ σ1) (y : Alike b σ1 σ2) : Alike (a ++ b) σ σ2 :=
  ⟨y.1.trans x.1, fun i hi => (y.2 i fun z => hi (List.mem_append_right _ z)).trans (x.2 i fun z => hi (List.mem_append_left _ z))⟩
theorem binds {g : Sg} {O : Addr → Prop} {H : Hp} : ∀ {es : List Expr} {ds : List D} {δ δ' : Dv} {σ : L2.St} {vs : List V} {Q : L2.St → Hp → Prop}, bindNs c es ds δ = some δ' → EnvOk T g O δ σ H → RepDs T g H ds vs →
    (∀ σ', EnvOk T g O δ' σ' H → Alike (es.flatMap (exIx c)) σ σ' → Q σ' H) → tgRs c es vs σ H Q
  | [], [], δ, δ', σ, vs, Q, h, e, r, q => by
    cases h
    cases r
    exact ⟨rfl, q σ e ⟨rfl, fun _ _ => rfl⟩⟩
  | [], _ :: _, _, _, _, _, _, h, _, _, _ => by cases h
  | _ :: _, [], _, _, _, _, _, h, _, _, _ => by cases h
  | e0 :: es, d :: ds, δ, δ', σ, vs, Q, h, e, r, q => by
    unfold bindNs at h
    split at h
    · cases h
    · rename_i δ1 h1
      cases r with
      | cons r1 r2 =>
        refine ⟨_, _, rfl, bind1_ok h1 e r1 fun σ1 e1 a1 => ?_⟩
        exact binds h e1 r2 fun σ2 e2 a2 => q σ2 e2 (by rw [List.flatMap_cons]; exact a1.trans a2)
theorem bindNs_len : ∀ {es : List Expr} {ds : List D} {δ δ' : Dv}, bindNs c es ds δ = some δ' → es.length = ds.length
  | [], [], _, _, _ => rfl
  | [], _ :: _, _, _, h => by cases h
  | _ :: _, [], _, _, h => by cases h
  | e0 :: es, d :: ds, δ, δ', h => by
    unfold bindNs at h
    split at h
    · cases h
    · rw [List.length_cons, List.length_cons, bindNs_len h]
def tgIx (c : Cf) : Expr → List Nat
  | .Name x p => exIx c (.Name x p)
  | .Tuple es _ _ => es.flatMap (exIx c)
  | _ => []
theorem bindT_ok {K : PySem.W.Frag} (hK : K = T.K) {tg : Expr} {δ' : Dv} {g : Sg} {O : Addr → Prop} {σ : L2.St} {H : Hp} {v : V} {Q : L2.St → Hp → Prop} (h : bindT c tg d δ = some δ') (e : EnvOk T g O δ σ H) (r : RepD T g H d v)
    (q : ∀ σ', EnvOk T g O δ' σ' H → Alike (tgIx c tg) σ σ' → Q σ' H) : tgR c K tg v σ H Q := by
  cases tg with
  | Name x p => exact bind1_ok (e := .Name x p) h e r q
  | Tuple es j p =>
    cases r with
    | tup h1 m1 r1 => exact ⟨_, _, rfl, SqT.of h1, by rw [← r1.length]; exact (bindNs_len h).symm, binds h e r1 q⟩
    | _ => cases h
  | _ => cases h
end
end Ev

/-! What the machine says, the text does: list comprehensions. -/
namespace Ev
open PySem PySem.Spec PyProof.Rows L2

def Sg.wB (g : Sg) (B : Addr → Prop) : Sg := ⟨g.ρ, g.n, B⟩
theorem Ext.wB {g g' : Sg} {H H' : Hp} (x : Ext g H g' H') (B : Addr → Prop) : Ext (g.wB B) H (g'.wB B) H' := ⟨rfl, x.le, x.pre, x.keep, x.fresh⟩
theorem Ext.trans' {g g1 g2 : Sg} {H H1 H2 : Hp} (a : Ext g H g1 H1) (ht : ∀ i, i < g1.n → ∃ ho, H1 (g1.ρ i) = some ho) (b : Ext g1 H1 g2 H2) : Ext g H g2 H2 := by
  refine ⟨b.eB.trans a.eB, Nat.le_trans a.le b.le, fun i hi => (b.pre i (Nat.lt_of_lt_of_le hi a.le)).trans (a.pre i hi), fun x o h m => b.keep x o (a.keep x o h m) fun i hi e => ?_, fun i h1 h2 => ?_⟩
  · by_cases hi' : i < g.n
    · exact m i hi' (by rw [e, a.pre i hi'])
    · have := a.fresh i (by omega) hi
      rw [← e, h] at this; cases this
  · by_cases hi : i < g1.n
    · rw [b.pre i hi]
      exact a.fresh i h1 hi
    · have f := b.fresh i (by omega) h2
      cases q : H (g2.ρ i) with
      | none => rfl
      | some o =>
        by_cases m : ∃ j, j < g.n ∧ g2.ρ i = g.ρ j
        · obtain ⟨j, hj, e⟩ := m
          obtain ⟨ho, z⟩ := ht j (Nat.lt_of_lt_of_le hj a.le)
          rw [a.pre j hj, ← e, f] at z; cases z
        · have z := a.keep _ o q fun j hj e => m ⟨j, hj, e⟩
          rw [f] at z; cases z
/-- a place that was free at the start is set -/
theorem Ext.setN {g g' : Sg} {H H' : Hp} {p : Addr} {o : HO} (x : Ext g H g' H') (h : H p = none) : Ext g H g' (upd H' p o) :=
  ⟨x.eB, x.le, x.pre, fun a u q m => by rw [upd_ne (ne_of_none q h)]; exact x.keep a u q m, x.fresh⟩
theorem Stp.setB {g : Sg} {H : Hp} {p : Addr} {o : HO} (h : g.B p) : Stp g H g (upd H p o) :=
  ⟨fun a u q m => ⟨by rw [upd_ne (fun e => m (.inr (by rw [e]; exact h)))]; exact q, m⟩, Nat.le_refl _, fun _ _ => rfl⟩
theorem StOk.setB {T : Tb} {g : Sg} {S : List Ob} {H : Hp} {p : Addr} {o : HO} (k : StOk T g S H) (h : g.B p) : StOk T g S (upd H p o) := by
  refine ⟨k.n, fun i ob e => ?_, k.inj, k.nB, fun a b => ?_⟩
  · obtain ⟨ho, q, r⟩ := k.st i ob e
    have hi : i < g.n := by rw [k.n]; exact (List.getElem?_eq_some_iff.mp e).1
    exact ⟨ho, by rw [upd_ne (fun z => k.nB i hi (by rw [z]; exact h))]; exact q, r.mono (Stp.setB h)⟩
  · by_cases e : a = p
    · exact ⟨o, by rw [e, upd_same]⟩
    · obtain ⟨u, q⟩ := k.tB a b
      exact ⟨u, by rw [upd_ne e]; exact q⟩
theorem Stp.shrink {g : Sg} {H : Hp} {B : Addr → Prop} (h : ∀ a, B a → g.B a) : Stp g H (g.wB B) H :=
  ⟨fun a o q m => ⟨q, fun z => m (z.elim .inl fun b => .inr (h a b))⟩, Nat.le_refl _, fun _ _ => rfl⟩
theorem StOk.shrink {T : Tb} {g : Sg} {S : List Ob} {H : Hp} {B : Addr → Prop} (k : StOk T g S H) (h : ∀ a, B a → g.B a) : StOk T (g.wB B) S H :=
  ⟨k.n, fun i o e => let ⟨ho, q, r⟩ := k.st i o e; ⟨ho, q, r.mono (Stp.shrink h)⟩, k.inj, fun i hi z => k.nB i hi (h _ z), fun a b => k.tB a (h a b)⟩
/-- a new place that changes -/
def orB (B : Addr → Prop) (p : Addr) : Addr → Prop := fun a => B a ∨ a = p
theorem Stp.more {g : Sg} {H : Hp} {p : Addr} {o : HO} (h : H p = none) : Stp g H (g.wB (orB g.B p)) (upd H p o) :=
  ⟨fun a u q m => ⟨by rw [upd_ne (ne_of_none q h)]; exact q, fun z => z.elim (fun z => m (.inl z)) fun z => z.elim (fun z => m (.inr z)) fun z => ne_of_none q h z⟩, Nat.le_refl _, fun _ _ => rfl⟩
theorem StOk.more {T : Tb} {g : Sg} {S : List Ob} {H : Hp} {p : Addr} {o : HO} (k : StOk T g S H) (h : H p = none) : StOk T (g.wB (orB g.B p)) S (upd H p o) := by
  refine ⟨k.n, fun i ob e => ?_, k.inj, fun i hi z => ?_, fun a b => ?_⟩
  · obtain ⟨ho, q, r⟩ := k.st i ob e
    exact ⟨ho, by rw [show (g.wB (orB g.B p)).ρ i = g.ρ i from rfl, upd_ne (ne_of_none q h)]; exact q, r.mono (Stp.more h)⟩
  · rcases z with z | z
    · exact k.nB i hi z
    · obtain ⟨ho, q⟩ := k.trk hi
      exact ne_of_none q h z
  · rcases b with b | b
    · obtain ⟨u, q⟩ := k.tB a b
      exact ⟨u, by rw [upd_ne (ne_of_none q h)]; exact q⟩
    · exact ⟨o, by rw [b, upd_same]⟩
/-- from the start to a state with one more changing place -/
theorem Stp.ofMore {T : Tb} {g g' : Sg} {H H' : Hp} {p : Addr} (x : Ext g H (g'.wB g.B) H') (h : H p = none) : Stp g H (g'.wB (orB g.B p)) H' := by
  have s := x.stp
  exact ⟨fun a o q m => let ⟨q', m'⟩ := s.keep a o q m; ⟨q', fun z => z.elim (fun z => m' (.inl z)) fun z => z.elim (fun z => m' (.inr z)) fun z => ne_of_none q h z⟩, x.le, x.pre⟩

section
variable {T : Tb} {m : Md} {call : CallF} {k : Nat} {X : Cx} {c : Cf} {δ : Dv} {S S1 S' : List Ob} {d : D}

theorem wipe_in {σ : L2.St} : ∀ {vs : List Nat} {i : Nat}, i ∈ vs → i < σ.length → (wipe σ vs)[i]? = some none
  | v :: vs, i, h, hl => by
    show ((wipe σ vs).set v none)[i]? = some none
    by_cases e : v = i
    · subst e
      exact List.getElem?_set_self (by rw [wipe_length]; exact hl)
    · rw [List.getElem?_set_ne e]
      rcases List.mem_cons.mp h with z | z
      · exact absurd z.symm e
      · exact wipe_in z hl
theorem wipe_none {σ : L2.St} {vs : List Nat} {i : Nat} (hl : σ.length ≤ i) : (wipe σ vs)[i]? = none := List.getElem?_eq_none (by rw [wipe_length]; exact hl)
theorem wipe_alike {own vs : List Nat} {σ σ1 : L2.St} (a : Alike own (wipe σ vs) σ1) (h : ∀ i ∈ own, i ∈ vs) : wipe σ1 vs = wipe σ vs := by
  have hl : σ1.length = σ.length := by rw [a.1, wipe_length]
  refine List.ext_getElem? fun i => ?_
  by_cases hi : i < σ.length
  · by_cases hv : i ∈ vs
    · rw [wipe_in hv hi, wipe_in hv (by rw [hl]; exact hi)]
    · rw [wipe_out hv, a.2 i fun z => hv (h i z)]
  · rw [wipe_none (by omega), wipe_none (by omega)]
theorem wipeD_length (δ : Dv) : ∀ vs : List Nat, (wipeD δ vs).length = δ.length
  | [] => rfl
  | v :: vs => by unfold wipeD; rw [List.length_set, wipeD_length δ vs]
theorem wipeD_some {sv : SV} : ∀ {vs : List Nat} {i : Nat}, (wipeD δ vs)[i]? = some (some sv) → δ[i]? = some (some sv) ∧ i ∉ vs
  | [], i, h => ⟨h, by simp⟩
  | v :: vs, i, h => by
    unfold wipeD at h
    by_cases hi : v = i
    · subst hi
      by_cases hv : v < (wipeD δ vs).length
      · rw [List.getElem?_set_self hv] at h; cases h
      · rw [List.getElem?_eq_none (by simpa using hv)] at h; cases h
    · rw [List.getElem?_set_ne hi] at h
      obtain ⟨h1, h2⟩ := wipeD_some h
      exact ⟨h1, by simp only [List.mem_cons, not_or]; exact ⟨fun e => hi e.symm, h2⟩⟩
theorem EnvOk.wipe {g : Sg} {O : Addr → Prop} {σ : L2.St} {H : Hp} (e : EnvOk T g O δ σ H) (vs : List Nat) : EnvOk T g O (wipeD δ vs) (L2.wipe σ vs) H := by
  refine ⟨by rw [wipeD_length, wipe_length]; exact e.len, fun i sv h => ?_⟩
  obtain ⟨h1, h2⟩ := wipeD_some h
  obtain ⟨v, q, r⟩ := e.at_ i sv h1
  exact ⟨v, by rw [wipe_out h2]; exact q, r⟩
theorem relS_local {scope sc : Scope} {x : Str} (h : (relS scope sc).names.lookup x = some .local) : (x, NameKind.local) ∈ scope.names := by
  have hm := PySem.mem_of_lookup h
  unfold relS at hm
  obtain ⟨⟨n, kk⟩, h1, h2⟩ := List.mem_map.mp hm
  dsimp only at h2
  split at h2
  · cases h2
  · cases h2
    exact h1
theorem exIx_own {N : List Str} {scope sc : Scope} {e : Expr} (h : tgName ⟨N, relS scope sc, false⟩ e = true) : ∀ i ∈ exIx ⟨N, relS scope sc, false⟩ e, i ∈ (ownOf N scope).map (·.2) := by
  obtain ⟨x, p, rfl⟩ := tgName_is h
  obtain ⟨h1, h2⟩ := Bool.and_eq_true_iff.mp h
  intro i hi
  have hi' : idx N x = some i := by
    have z : i ∈ (idx N x).toList := hi
    simpa using z
  have hl : (relS scope sc).names.lookup x = some .local := by
    have z : isTg ⟨N, relS scope sc, false⟩ x = true := h1
    unfold isTg at z
    split at z
    · assumption
    · cases z
    · cases z
  refine List.mem_map.mpr ⟨(x, i), List.mem_filterMap.mpr ⟨(x, .local), relS_local hl, ?_⟩, rfl⟩
  show (idx N x).map _ = _
  rw [hi']
  rfl
theorem tgIx_own {N : List Str} {scope sc : Scope} {e : Expr} (h : tgOk ⟨N, relS scope sc, false⟩ e = true) : ∀ i ∈ tgIx ⟨N, relS scope sc, false⟩ e, i ∈ (ownOf N scope).map (·.2) := by
  cases e with
  | Name x p => exact exIx_own (e := .Name x p) h
  | Tuple es j p =>
    intro i hi
    obtain ⟨e, he, hi⟩ := List.mem_flatMap.mp hi
    exact exIx_own (List.all_eq_true.mp h e he) i hi
  | _ => cases h

/-- the readings of a comprehension's parts, whatever the turn -/
def anyE (T : Tb) (ev : Dv → List Ob → Option (D × List Ob)) : TE := fun σ H Q => ∃ δ S d S', ev δ S = some (d, S') ∧ rdE T δ S d S' σ H Q
def anyT (T : Tb) (ev : Dv → List Ob → Option (Bool × List Ob)) : TT := fun σ H Q => ∃ δ S d S', ev δ S = some (d, S') ∧ rdT T δ S d S' σ H Q
theorem any_pe {e : Expr} {ev : Dv → List Ob → Option (D × List Ob)} (h : ∀ δ S d S', ev δ S = some (d, S') → PE X e (rdE T δ S d S')) : PE X e (anyE T ev) :=
  ⟨fun pins s σ H Q I ⟨δ, S, d, S', e, q⟩ => (h δ S d S' e).run pins s σ H Q I q⟩
theorem any_pts {es : List Expr} {ev : Dv → List Ob → Option (Bool × List Ob)} (h : ∀ δ S d S', ev δ S = some (d, S') → PTs X es (rdT T δ S d S')) : PTs X es (anyT T ev) :=
  ⟨fun pins s σ H Q I ⟨δ, S, d, S', e, q⟩ => (h δ S d S' e).run pins s σ H Q I q⟩

/-- one turn -/
theorem comp_turn {N : List Str} {scope sc : Scope} {K : PySem.W.Frag} (hK : K = T.K) {tg : Expr} {test : Dv → List Ob → Option (Bool × List Ob)} {elt : Dv → List Ob → Option (D × List Ob)} {σ : L2.St} {g1 : Sg} {O : Addr → Prop} {H1 : Hp} {Da : Addr}
    (hD : H1 Da = none) (k1 : StOk T g1 S1 H1) (hO : ∀ a, O a → g1.B a) (en : EnvOk T g1 O δ σ H1) (ht : tgOk ⟨N, relS scope sc, false⟩ tg = true) {ds : List D} {out : List D} {vs : List V} (rep : RepDs T g1 H1 ds vs) :
    let vv := (ownOf N scope).map (·.2)
    let Pv : Nat → Hp → Prop := fun i Hc => ∃ (g2 : Sg) (S2 : List Ob) (acc : List D) (ws : List V), Ext g1 H1 (g2.wB g1.B) Hc ∧ StOk T (g2.wB (orB g1.B Da)) S2 Hc ∧ Hc Da = some (.lst ws) ∧ RepDs T (g2.wB (orB g1.B Da)) Hc acc ws ∧
      evC (fun d => bindT ⟨N, relS scope sc, false⟩ tg d (wipeD δ vv)) test elt (ds.drop i) S2 acc = some (out, S')
    ∀ i x H, vs[i]? = some x → Pv i H → tgR ⟨N, relS scope sc, false⟩ K tg x (wipe σ vv) H fun σ2 H2 => wipe σ2 vv = wipe σ vv ∧ anyT T test σ2 H2 fun b H3 =>
      if b = true then anyE T elt σ2 H3 fun y H4 => ∃ acc, H4 Da = some (.lst acc) ∧ acc.length < sizeLine ∧ Pv (i + 1) (upd H4 Da (.lst (acc ++ [y]))) else Pv (i + 1) H3 := by
  intro vv Pv i x H hx ⟨g2, S2, acc, ws, x2, k2, hDa, ra, hev⟩
  obtain ⟨d, hd, rd⟩ := rep.getV hx
  have st := Stp.ofMore (T := T) x2 hD
  have rd2 := rd.mono st
  have hil : i < ds.length := (List.getElem?_eq_some_iff.mp hd).1
  have edrop : ds.drop i = d :: ds.drop (i + 1) := by
    rw [List.drop_eq_getElem_cons hil]
    rw [List.getElem?_eq_getElem hil] at hd
    rw [Option.some.inj hd]
  rw [edrop] at hev
  unfold evC at hev
  split at hev
  · cases hev
  · rename_i δ1 hb
    have en2 : EnvOk T (g2.wB (orB g1.B Da)) O δ σ H := by
      refine ⟨en.len, fun j sv h => ?_⟩
      obtain ⟨v, q, r⟩ := en.at_ j sv h
      refine ⟨v, q, ?_⟩
      cases r with
      | val r => exact .val (r.mono st)
      | own h' o r => exact .own (x2.keep _ _ h' fun i hi e => k1.nB i hi (by rw [← e]; exact hO _ o)) o (r.mono st)
    refine bindT_ok hK hb (en2.wipe vv) rd2 fun σ1 en3 al => ⟨wipe_alike al (tgIx_own ht), ?_⟩
    have hO2 : ∀ a, O a → (g2.wB (orB g1.B Da)).B a := fun a o => .inl (hO a o)
    have keepD : ∀ {g3 : Sg} {H3 : Hp} {u : HO}, Ext (g2.wB (orB g1.B Da)) H g3 H3 → H Da = some u → H3 Da = some u := fun x3 h => x3.keep _ _ h fun i hi e => k2.nB i hi (.inr e.symm)
    have tr : ∀ {g3 : Sg} {H3 : Hp}, Ext (g2.wB (orB g1.B Da)) H g3 H3 → Ext g1 H1 (g3.wB g1.B) H3 := fun x3 => x2.trans' (fun i hi => k2.trk (i := i) hi) (x3.wB g1.B)
    have eqg : ∀ {g3 : Sg} {H3 : Hp}, Ext (g2.wB (orB g1.B Da)) H g3 H3 → g3 = g3.wB (orB g1.B Da) := fun {g3 H3} x3 => by
      obtain ⟨r, n, B⟩ := g3
      have e : B = orB g1.B Da := x3.eB
      subst e
      rfl
    split at hev
    · cases hev
    · rename_i S3 ht3
      refine ⟨δ1, S2, false, S3, ht3, g2.wB (orB g1.B Da), O, k2, hO2, en3, fun g3 H3 x3 k3 => iteF ?_⟩
      have e3 := eqg x3
      rw [e3] at k3
      exact ⟨g3, S3, acc, ws, tr x3, k3, keepD x3 hDa, by have := ra.mono x3.stp; rw [e3] at this; exact this, hev⟩
    · rename_i S3 ht3
      split at hev
      · cases hev
      · rename_i y S4 he4
        split at hev
        · rename_i hsz
          refine ⟨δ1, S2, true, S3, ht3, g2.wB (orB g1.B Da), O, k2, hO2, en3, fun g3 H3 x3 k3 => iteT ?_⟩
          refine ⟨δ1, S3, y, S4, he4, g3, O, k3, fun a o => by rw [x3.eB]; exact hO2 a o, en3.ext k2 hO2 x3, fun g4 H4 v x4 k4 r4 => ?_⟩
          have x34 := x3.trans k3 x4
          have hDa4 := keepD x34 hDa
          have e4 := eqg x34
          have hB : g4.B Da := by rw [x34.eB]; exact .inr rfl
          have ra4 := ra.mono x34.stp
          refine ⟨ws, hDa4, by rw [← ra.length, sizeLine_eq]; exact hsz, g4, S4, acc ++ [y], ws ++ [v], (tr x34).setN hD, ?_, upd_same, ?_, hev⟩
          · rw [← e4]
            exact k4.setB hB
          · rw [← e4]
            exact (ra4.append (.cons r4 .nil)).mono (Stp.setB hB)
        · cases hev
end
end Ev

/-! What the machine says, the text does: all expressions. -/
namespace Ev
open PySem PySem.Spec PyProof.Rows L2
section
variable {T : Tb} {m : Md} {call : CallF} {k : Nat} {X : Cx} {c : Cf} {δ : Dv} {S S1 S2 S' : List Ob} {d : D}

theorem Cox.blk (C : Cox T m call k X c) (s : Shared) (H : Hp) (scope : Scope) (cl : List (Str × Addr)) (Ca : Addr) (fp : List Addr) :
    Cox T m call k (X.blk s H scope (compEnvC scope cl Ca X.env) fp) ⟨c.N, relS scope c.sc, false⟩ :=
  ⟨C.md, C.N, by show relS scope X.env.scope = relS scope c.sc; rw [C.sc], C.calm, C.nd, C.room, fun z => (by cases z), rfl⟩
theorem Cox.K (C : Cox T m call k X c) : X.K = T.K := C.md.K
theorem Cox.hu (C : Cox T m call k X c) : X.A.units + 64 < cLine := C.room.units

/-! ### comprehensions -/
theorem EnvOk.more {g : Sg} {O : Addr → Prop} {σ : L2.St} {H : Hp} {p : Addr} {o : HO} (e : EnvOk T g O δ σ H) (h : H p = none) : EnvOk T (g.wB (orB g.B p)) O δ σ (upd H p o) := by
  refine ⟨e.len, fun i sv q => ?_⟩
  obtain ⟨v, z, r⟩ := e.at_ i sv q
  refine ⟨v, z, ?_⟩
  cases r with
  | val r => exact .val (r.mono (Stp.more h))
  | own h' o' r => exact .own (by rw [upd_ne (ne_of_none h' h)]; exact h') o' (r.mono (Stp.more h))
theorem ok_comp (C : Cox T m call k X c) {elt tg it : Expr} {ifs : List Expr} {scope : Scope} {pos : Pos} {x : D} {ds out : List D} {test : Dv → List Ob → Option (Bool × List Ob)} {ee : Dv → List Ob → Option (D × List Ob)}
    (hblk : blkC c.N c.sc scope (ownOf c.N scope) = true) (hns : notSet it = true) (ht : tgOk ⟨c.N, relS scope c.sc, false⟩ tg = true) (hit : PE X it (rdE T δ S x S1)) (hi : itemsD x = some ds)
    (hel : ∀ s H Ca cl fp δ1 S d S', ee δ1 S = some (d, S') → PE (X.blk s H scope (compEnvC scope cl Ca X.env) fp) elt (rdE T δ1 S d S'))
    (hte : ∀ s H Ca cl fp δ1 S d S', test δ1 S = some (d, S') → PTs (X.blk s H scope (compEnvC scope cl Ca X.env) fp) ifs (rdT T δ1 S d S'))
    (hev : evC (fun d => bindT ⟨c.N, relS scope c.sc, false⟩ tg d (wipeD δ ((ownOf c.N scope).map (·.2)))) test ee ds S1 [] = some (out, S')) :
    PE X (.ListComp elt [⟨tg, it, ifs, 0⟩] scope pos) (rdE T δ S (.lst out) S') := by
  have ok : BlkOk X.N X.env.scope scope (ownOf c.N scope) := by rw [C.N, C.sc]; exact blkOk_by hblk
  have hg : ∀ (s : Shared) (H : Hp) (Ca : Addr) (cl : List (Str × Addr)) (fp : List Addr), PG (X.blk s H scope (compEnvC scope cl Ca X.env) fp) tg (tgR ⟨c.N, relS scope c.sc, false⟩ X.K tg) := fun s H Ca cl fp => pg_tg (C.blk s H scope cl Ca fp) ht
  have hs : ∀ v, foldedSetIterable it X.env v = pure v := fun v => by
    cases it <;> first | rfl | cases hns
  have start : ∀ {σ : L2.St} {H1 : Hp} {g1 : Sg} {O : Addr → Prop} {Da : Addr} {vs : List V}, StOk T g1 S1 H1 → H1 Da = none → RepDs T g1 H1 ds vs →
      ∃ (g2 : Sg) (S2 : List Ob) (acc : List D) (ws : List V), Ext g1 H1 (g2.wB g1.B) (upd H1 Da (.lst [])) ∧ StOk T (g2.wB (orB g1.B Da)) S2 (upd H1 Da (.lst [])) ∧ (upd H1 Da (.lst [])) Da = some (.lst ws) ∧ RepDs T (g2.wB (orB g1.B Da)) (upd H1 Da (.lst [])) acc ws ∧
        evC (fun d => bindT ⟨c.N, relS scope c.sc, false⟩ tg d (wipeD δ ((ownOf c.N scope).map (·.2)))) test ee (ds.drop 0) S2 acc = some (out, S') := fun k1 hD r =>
    ⟨_, S1, [], [], Ext.laid hD, k1.more hD, upd_same, .nil, hev⟩
  have stop : ∀ {H1 Hc : Hp} {Q : VK} {g g1 : Sg} {H : Hp} {Da : Addr} {vs : List V}, (∀ (g' : Sg) (H' : Hp) (v : V), Ext g H g' H' → StOk T g' S' H' → RepD T g' H' (.lst out) v → Q v H') → Ext g H g1 H1 → StOk T g1 S1 H1 → H1 Da = none → RepDs T g1 H1 ds vs →
      (∃ (g2 : Sg) (S2 : List Ob) (acc : List D) (ws : List V), Ext g1 H1 (g2.wB g1.B) Hc ∧ StOk T (g2.wB (orB g1.B Da)) S2 Hc ∧ Hc Da = some (.lst ws) ∧ RepDs T (g2.wB (orB g1.B Da)) Hc acc ws ∧
        evC (fun d => bindT ⟨c.N, relS scope c.sc, false⟩ tg d (wipeD δ ((ownOf c.N scope).map (·.2)))) test ee (ds.drop vs.length) S2 acc = some (out, S')) → Q (.ref Da) Hc := by
    rintro H1 Hc Q g g1 H Da vs q x1 k1 hD rep ⟨g2, S2, acc, ws, x2, k2, hDa, ra, he⟩
    rw [← rep.length, List.drop_length] at he
    cases he
    have hsub : ∀ a, g1.B a → (g2.wB (orB g1.B Da)).B a := fun a b => .inl b
    refine q (g2.wB g1.B) Hc (.ref Da) (x1.trans k1 x2) (k2.shrink hsub) (.lst hDa ?_ (ra.mono (Stp.shrink hsub)))
    rintro (⟨i, hi, e⟩ | b)
    · exact k2.nB i hi (.inr e.symm)
    · obtain ⟨o, z⟩ := k1.tB _ b
      rw [hD] at z; cases z
  cases x with
  | lst xs =>
    cases hi
    refine PE.imp (pe_lc C.calm C.nd (pi_list hit) ok hg (fun s H Ca cl fp => any_pts (hte s H Ca cl fp)) (fun s H Ca cl fp => any_pe (hel s H Ca cl fp)) hs) fun σ H Q ⟨g, O, k1, hO, en, q⟩ => ?_
    refine ⟨g, O, k1, hO, en, fun g1 H1 v x1 k2 r => ?_⟩
    cases r with
    | @lst a _ vs h1 m1 r1 =>
      refine ⟨a, rfl, ⟨vs, SqL.of h1⟩, fun Da hD => lc_list (K := X.K) (xs := vs) _ (start (σ := σ) (O := O) k2 hD r1) (fun i Hc _ ⟨g2, S2, acc, ws, x2, _⟩ => SqL.of (x2.keep _ _ h1 fun i hi e => m1 (.inl ⟨i, hi, e⟩)))
        (comp_turn C.K hD k2 (fun a o => by rw [x1.eB]; exact hO a o) (en.ext k1 hO x1) ht r1) fun Hc p => stop q x1 k2 hD r1 p⟩
  | klst xs =>
    cases hi
    refine PE.imp (pe_lc C.calm C.nd (pi_list hit) ok hg (fun s H Ca cl fp => any_pts (hte s H Ca cl fp)) (fun s H Ca cl fp => any_pe (hel s H Ca cl fp)) hs) fun σ H Q ⟨g, O, k1, hO, en, q⟩ => ?_
    refine ⟨g, O, k1, hO, en, fun g1 H1 v x1 k2 r => ?_⟩
    cases r with
    | @klst a _ vs h1 r1 =>
      refine ⟨a, rfl, ⟨vs, by rw [C.K]; exact h1.sq⟩, fun Da hD => lc_list (K := X.K) (xs := vs) _ (start (σ := σ) (O := O) k2 hD r1) (fun i Hc _ ⟨g2, S2, acc, ws, x2, _⟩ => by rw [C.K]; exact (h1.mono x2.stp).sq)
        (comp_turn C.K hD k2 (fun a o => by rw [x1.eB]; exact hO a o) (en.ext k1 hO x1) ht r1) fun Hc p => stop q x1 k2 hD r1 p⟩
  | tup xs =>
    cases hi
    refine PE.imp (pe_lc C.calm C.nd (pi_tup hit) ok hg (fun s H Ca cl fp => any_pts (hte s H Ca cl fp)) (fun s H Ca cl fp => any_pe (hel s H Ca cl fp)) hs) fun σ H Q ⟨g, O, k1, hO, en, q⟩ => ?_
    refine ⟨g, O, k1, hO, en, fun g1 H1 v x1 k2 r => ?_⟩
    cases r with
    | @tup a _ vs h1 m1 r1 =>
      refine ⟨a, rfl, ⟨vs, SqT.of h1⟩, fun Da hD => lc_tup (K := X.K) (xs := vs) _ (start (σ := σ) (O := O) k2 hD r1) (fun i Hc _ ⟨g2, S2, acc, ws, x2, _⟩ => SqT.of (x2.keep _ _ h1 fun i hi e => m1 (.inl ⟨i, hi, e⟩)))
        (comp_turn C.K hD k2 (fun a o => by rw [x1.eB]; exact hO a o) (en.ext k1 hO x1) ht r1) fun Hc p => stop q x1 k2 hD r1 p⟩
  | _ => cases hi

/-! ### subscripts -/
theorem atI_rep {g : Sg} {H : Hp} {ds : List D} {vs : List V} {i : Int} (r : RepDs T g H ds vs) (h : atI ds i = some d) : ∃ v, atI vs i = some v ∧ RepD T g H d v := by
  unfold atI at h ⊢
  rw [← r.length]
  cases e : ixN ds.length i with
  | none => rw [e] at h; cases h
  | some j => rw [e] at h; exact r.get h
theorem plainIx_ok {b : Expr} (h : plainIx b = true) : PlainIx b := fun o i => by
  cases b <;> first | rfl | cases h
theorem kv_find {g : Sg} {H : Hp} {key : Key} : ∀ {kvs : List (Key × D)} {kws : List (Key × V)}, RepKv T g H kvs kws → (kvs.find? fun kv => decide (kv.1 = key)).map (·.2) = some d → ∃ v, valV kws key = some v ∧ RepD T g H d v
  | _, _, .nil, h => by cases h
  | _, _, .cons (k := k') r t, h => by
    by_cases e : k' = key
    · subst e
      rw [List.find?_cons_of_pos (by simp)] at h
      cases h
      exact ⟨_, valV_pos rfl, r⟩
    · rw [List.find?_cons_of_neg (by simpa using e)] at h
      obtain ⟨v, h1, h2⟩ := kv_find t h
      exact ⟨v, by rw [valV_neg e]; exact h1, h2⟩
theorem ok_sub (C : Cox T m call k X c) {a b : Expr} {pos : Pos} {x y : D} (hp : plainIx b = true) (ha : PE X a (rdE T δ S x S1)) (hb : PE X b (rdE T δ S1 y S2)) (h : ixD S2 x y = some d) : PE X (.Subscript a b pos) (rdE T δ S d S2) := by
  unfold ixD at h
  split at h
  · refine PE.imp (pe_ix ix_seq ha hb (plainIx_ok hp)) fun σ H Q ⟨g, O, k1, hO, en, q⟩ => rd_two k1 hO en fun g' H' v w x1 k2 r1 r2 => ?_
    cases r2
    cases r1 with
    | lst h1 m1 r1 =>
      obtain ⟨v, e, r⟩ := atI_rep r1 h
      exact .inl ⟨_, _, _, v, rfl, rfl, SqL.of h1, e, q g' H' v x1 k2 r⟩
  · refine PE.imp (pe_ix ix_seq ha hb (plainIx_ok hp)) fun σ H Q ⟨g, O, k1, hO, en, q⟩ => rd_two k1 hO en fun g' H' v w x1 k2 r1 r2 => ?_
    cases r2
    cases r1 with
    | klst h1 r1 =>
      obtain ⟨v, e, r⟩ := atI_rep r1 h
      exact .inl ⟨_, _, _, v, rfl, rfl, by rw [C.K]; exact h1.sq, e, q g' H' v x1 k2 r⟩
  · refine PE.imp (pe_ix ix_seq ha hb (plainIx_ok hp)) fun σ H Q ⟨g, O, k1, hO, en, q⟩ => rd_two k1 hO en fun g' H' v w x1 k2 r1 r2 => ?_
    cases r2
    cases r1 with
    | tup h1 m1 r1 =>
      obtain ⟨v, e, r⟩ := atI_rep r1 h
      exact .inr (.inl ⟨_, _, _, v, rfl, rfl, SqT.of h1, e, q g' H' v x1 k2 r⟩)
  · split at h
    · rename_i kvs hs
      have hu := C.hu
      refine PE.imp (pe_dget (by omega) ha hb (plainIx_ok hp)) fun σ H Q ⟨g, O, k1, hO, en, q⟩ => rd_two k1 hO en fun g' H' v w x1 k2 r1 r2 => ?_
      cases r2
      cases r1 with
      | ref hi =>
        obtain ⟨ho, e1, e2⟩ := k2.st _ _ hs
        cases e2 with
        | dic r =>
          obtain ⟨v, e3, r3⟩ := kv_find r h
          refine ⟨_, v, rfl, ?_, q g' H' v x1 k2 r3⟩
          rw [← e3]
          exact DGet.k (k := .inr _) e1
    · cases h
  · cases h

/-! ### slices -/
theorem ok_part {ev : EvF} (hev : EvOk T X δ ev) {o : Option Expr} {i : Option Int} (h : partE ev S o = some (i, S')) : ∃ t : TO, PO X o t ∧ ∀ σ H (Q : Option Int → Hp → Prop), (∃ (g : Sg) (O : Addr → Prop), StOk T g S H ∧ (∀ a, O a → g.B a) ∧ EnvOk T g O δ σ H ∧ ∀ g' H', Ext g H g' H' → StOk T g' S' H' → Q i H') → t σ H Q := by
  unfold partE at h
  split at h
  · cases h
    exact ⟨_, po_none, fun σ H Q ⟨g, O, k1, hO, en, q⟩ => q g H (Ext.refl g H) k1⟩
  · split at h
    · rename_i h1
      cases h
      refine ⟨_, po_some (hev _ _ _ _ h1), fun σ H Q ⟨g, O, k1, hO, en, q⟩ => ⟨g, O, k1, hO, en, fun g' H' v x1 k2 r => ?_⟩⟩
      cases r
      exact ⟨_, rfl, q g' H' x1 k2⟩
    · cases h
theorem cut_rep {g : Sg} {H : Hp} {ds : List D} {vs : List V} (r : RepDs T g H ds vs) (lo hi : Option Int) : RepDs T g H (cutD ds lo hi) (cutV vs lo hi) := by
  unfold cutD cutV
  rw [r.length]
  exact (r.drop _).take _
theorem ok_slice {ev : EvF} (hK : X.K = T.K) (hev : EvOk T X δ ev) {a : Expr} {lo hi : Option Expr} {p pos : Pos} {xs : List D} {l h : Option Int} {S3 : List Ob} (ha : PE X a (rdE T δ S (.klst xs) S1)) (hl : partE ev S1 lo = some (l, S2)) (hh : partE ev S2 hi = some (h, S3)) :
    PE X (.Subscript a (.Slice lo hi none p) pos) (rdE T δ S (.lst (cutD xs l h)) S3) := by
  obtain ⟨tl, pl, ql⟩ := ok_part hev hl
  obtain ⟨th, ph, qh⟩ := ok_part hev hh
  refine PE.imp (pe_slice sl_list ha pl ph) fun σ H Q ⟨g, O, k1, hO, en, q⟩ => ⟨g, O, k1, hO, en, fun g1 H1 v x1 k2 r1 => ?_⟩
  have hO1 : ∀ a, O a → g1.B a := fun a o => by rw [x1.eB]; exact hO a o
  have en1 := en.ext k1 hO x1
  refine ql σ H1 _ ⟨g1, O, k2, hO1, en1, fun g2 H2 x2 k3 => ?_⟩
  refine qh σ H2 _ ⟨g2, O, k3, fun a o => by rw [x2.eB]; exact hO1 a o, en1.ext k2 hO1 x2, fun g3 H3 x3 k4 => ?_⟩
  have r3 := (r1.mono x2.stp).mono x3.stp
  cases r3 with
  | klst h1 r =>
    exact ⟨_, _, rfl, by rw [hK]; exact h1.sq, fun p n => q g3 _ _ (((x1.trans k2 x2).trans k3 x3).trans k4 (Ext.laid n)) (k4.laid n) ((cut_rep r l h).list k4 n)⟩
end
end Ev

/-! What the machine says, the text does: displays of dicts, fields, calls; every expression. -/
namespace Ev
open PySem PySem.Spec PyProof.Rows L2
section
variable {T : Tb} {m : Md} {call : CallF} {k : Nat} {X : Cx} {c : Cf} {δ : Dv} {S S1 S2 S' : List Ob} {d : D}

/-! ### displays of dicts -/
def rdP (T : Tb) (δ : Dv) (S : List Ob) (kvs : List (Key × D)) (S' : List Ob) (σ : L2.St) (H : Hp) (Q : List (V × V) → Hp → Prop) : Prop := ∃ (g : Sg) (O : Addr → Prop), StOk T g S H ∧ (∀ a, O a → g.B a) ∧ EnvOk T g O δ σ H ∧
  ∀ (g' : Sg) (H' : Hp) (kws : List (Key × V)), Ext g H g' H' → StOk T g' S' H' → RepKv T g' H' kvs kws → Q (kws.map fun kv => (kV kv.1, kv.2)) H'
theorem ok_pairs {ev : EvF} (hev : EvOk T X δ ev) {pos : Pos} : ∀ {ks : List (Option Expr)} {vs : List Expr} {S : List Ob} {kvs : List (Key × D)} {S' : List Ob}, evP ev S ks vs = some (kvs, S') →
    ∃ trs, PPs X pos ks vs trs ∧ ∀ σ H Q, rdP T δ S kvs S' σ H Q → tPairs trs σ H Q
  | [], [], S, kvs, S', h => by
    cases h
    exact ⟨[], pps_nil, fun σ H Q ⟨g, O, k1, hO, en, q⟩ => q g H [] (Ext.refl g H) k1 .nil⟩
  | [], _ :: _, _, _, _, h => by cases h
  | none :: _, _, _, _, _, h => by unfold evP at h; cases h
  | some _ :: _, [], _, _, _, h => by unfold evP at h; cases h
  | some ke :: ks, v :: vs, S, kvs, S', h => by
    unfold evP at h
    split at h
    · rename_i s S1 h1
      split at h
      · cases h
      · rename_i y S2 h2
        split at h
        · cases h
        · rename_i r S3 h3
          cases h
          obtain ⟨trs, p, q⟩ := ok_pairs hev (pos := pos) h3
          refine ⟨_, pps_cons (hev _ _ _ _ h1) (hev _ _ _ _ h2) p, fun σ H Q ⟨g, O, k1, hO, en, z⟩ => ?_⟩
          refine ⟨g, O, k1, hO, en, fun g1 H1 v1 x1 k2 r1 => ?_⟩
          have hO1 : ∀ a, O a → g1.B a := fun a o => by rw [x1.eB]; exact hO a o
          have en1 := en.ext k1 hO x1
          refine ⟨g1, O, k2, hO1, en1, fun g2 H2 v2 x2 k3 r2 => ?_⟩
          refine q σ H2 _ ⟨g2, O, k3, fun a o => by rw [x2.eB]; exact hO1 a o, en1.ext k2 hO1 x2, fun g3 H3 kws x3 k4 r3 => ?_⟩
          cases r1
          exact z g3 H3 ((.inr s, v2) :: kws) ((x1.trans k2 x2).trans k3 x3) k4 (.cons (r2.mono x3.stp) r3)
    · cases h
theorem kv_put {g : Sg} {H : Hp} {key : Key} {y : V} {kvs : List (Key × D)} {kws : List (Key × V)} (r : RepKv T g H kvs kws) (ry : RepD T g H d y) : RepKv T g H (putD kvs key d) (putK kws key y) := by
  have any : ∀ {kvs : List (Key × D)} {kws : List (Key × V)}, RepKv T g H kvs kws → (kvs.any fun kv => decide (kv.1 = key)) = kws.any fun kv => decide (kv.1 = key) := by
    intro kvs kws r
    induction kvs generalizing kws with
    | nil => cases r; rfl
    | cons p ps ih =>
      cases r with
      | cons r t => rw [List.any_cons, List.any_cons, ih t]
  have mp : ∀ {kvs : List (Key × D)} {kws : List (Key × V)}, RepKv T g H kvs kws → RepKv T g H (kvs.map fun kv => if kv.1 = key then (kv.1, d) else kv) (kws.map fun kv => if kv.1 = key then (kv.1, y) else kv) := by
    intro kvs kws r
    induction kvs generalizing kws with
    | nil => cases r; exact .nil
    | cons p ps ih =>
      cases r with
      | @cons k' d' v' _ vs' r t =>
        rw [List.map_cons, List.map_cons]
        by_cases e : k' = key
        · rw [if_pos e, if_pos e]
          exact .cons ry (ih t)
        · rw [if_neg e, if_neg e]
          exact .cons r (ih t)
  have sn : ∀ {kvs : List (Key × D)} {kws : List (Key × V)}, RepKv T g H kvs kws → RepKv T g H (kvs ++ [(key, d)]) (kws ++ [(key, y)]) := by
    intro kvs kws r
    induction kvs generalizing kws with
    | nil => cases r; exact .cons ry .nil
    | cons p ps ih =>
      cases r with
      | cons r t => exact .cons r (ih t)
  unfold putD putK
  rw [any r]
  split
  · exact mp r
  · exact sn r
theorem kv_merge {g : Sg} {H : Hp} {more : List (Key × D)} {mws : List (Key × V)} (rm : RepKv T g H more mws) : ∀ {kvs : List (Key × D)} {kws : List (Key × V)}, RepKv T g H kvs kws →
    RepKv T g H (more.foldl (fun acc kv => putD acc kv.1 kv.2) kvs) (mergeK kws mws) := by
  induction more generalizing mws with
  | nil => cases rm; exact fun r => r
  | cons p ps ih =>
    cases rm with
    | cons rd t => exact fun r => ih t (kv_put r rd)
theorem RepKv.length {g : Sg} {H : Hp} : ∀ {kvs : List (Key × D)} {kws : List (Key × V)}, RepKv T g H kvs kws → kvs.length = kws.length
  | _, _, .nil => rfl
  | _, _, .cons _ t => by rw [List.length_cons, List.length_cons, RepKv.length t]
/-- a new object of the store at a place that was kept for it -/
def Sg.push (g : Sg) (B : Addr → Prop) (p : Addr) : Sg := ⟨fun i => if i = g.n then p else g.ρ i, g.n + 1, B⟩
theorem Stp.push {g : Sg} {H : Hp} {B : Addr → Prop} {p : Addr} {o : HO} : Stp (g.wB (orB B p)) H (g.push B p) (upd H p o) := by
  refine ⟨fun a u q m => ⟨by rw [upd_ne fun e => m (.inr (.inr e))]; exact q, ?_⟩, Nat.le_succ _, fun i hi => if_neg (Nat.ne_of_lt hi)⟩
  rintro (⟨i, hi, e⟩ | b)
  · by_cases h : i = g.n
    · rw [show (g.push B p).ρ i = p from if_pos h] at e
      exact m (.inr (.inr e))
    · rw [show (g.push B p).ρ i = g.ρ i from if_neg h] at e
      have hi' : i < g.n + 1 := hi
      exact m (.inl ⟨i, by show i < g.n; omega, e⟩)
  · exact m (.inr (.inl b))
theorem StOk.push {g : Sg} {S : List Ob} {H : Hp} {B : Addr → Prop} {p : Addr} {ob : Ob} {ho : HO} (k : StOk T (g.wB (orB B p)) S H) (hB : ¬ B p) (r : RepOb T (g.wB (orB B p)) H ob ho) :
    StOk T (g.push B p) (S ++ [ob]) (upd H p ho) := by
  have hn : g.n = S.length := k.n
  have np : ∀ i, i < g.n → g.ρ i ≠ p := fun i hi e => k.nB i hi (.inr e)
  refine ⟨by show g.n + 1 = _; rw [List.length_append, hn]; rfl, fun i o h => ?_, fun i j hi hj e => ?_, fun i hi b => ?_, fun a b => ?_⟩
  · by_cases hi : i < S.length
    · rw [List.getElem?_append_left hi] at h
      obtain ⟨u, q, r'⟩ := k.st i o h
      refine ⟨u, ?_, r'.mono Stp.push⟩
      rw [show (g.push B p).ρ i = g.ρ i from if_neg (by omega), upd_ne (np i (by omega))]
      exact q
    · have hl := (List.getElem?_eq_some_iff.mp h).1
      rw [List.length_append] at hl
      have e : i = S.length := by simp at hl; omega
      subst e
      rw [List.getElem?_append_right (Nat.le_refl _), Nat.sub_self] at h
      cases h
      refine ⟨ho, ?_, r.mono Stp.push⟩
      rw [show (g.push B p).ρ S.length = p from if_pos hn.symm, upd_same]
  · have hi' : i < g.n + 1 := hi
    have hj' : j < g.n + 1 := hj
    by_cases a : i = g.n
    · by_cases b : j = g.n
      · omega
      · rw [show (g.push B p).ρ i = p from if_pos a, show (g.push B p).ρ j = g.ρ j from if_neg b] at e
        exact absurd e.symm (np j (by omega))
    · by_cases b : j = g.n
      · rw [show (g.push B p).ρ j = p from if_pos b, show (g.push B p).ρ i = g.ρ i from if_neg a] at e
        exact absurd e (np i (by omega))
      · rw [show (g.push B p).ρ i = g.ρ i from if_neg a, show (g.push B p).ρ j = g.ρ j from if_neg b] at e
        exact k.inj i j (by show i < g.n; omega) (by show j < g.n; omega) e
  · have hi' : i < g.n + 1 := hi
    by_cases a : i = g.n
    · rw [show (g.push B p).ρ i = p from if_pos a] at b
      exact hB b
    · rw [show (g.push B p).ρ i = g.ρ i from if_neg a] at b
      exact k.nB i (by show i < g.n; omega) (.inl b)
  · by_cases e : a = p
    · exact ⟨ho, by rw [e, upd_same]⟩
    · obtain ⟨u, q⟩ := k.tB a (.inl b)
      exact ⟨u, by rw [upd_ne e]; exact q⟩
theorem Ext.push {g g' : Sg} {H H' : Hp} {p : Addr} {o : HO} (x : Ext g H (g'.wB g.B) H') (h : H p = none) : Ext g H (g'.push g.B p) (upd H' p o) := by
  refine ⟨rfl, Nat.le_trans x.le (Nat.le_succ _), fun i hi => ?_, fun a u q m => by rw [upd_ne (ne_of_none q h)]; exact x.keep a u q m, fun i h1 h2 => ?_⟩
  · have hl : g.n ≤ g'.n := x.le
    rw [show (g'.push g.B p).ρ i = g'.ρ i from if_neg (by omega)]
    exact x.pre i hi
  · have h2' : i < g'.n + 1 := h2
    by_cases a : i = g'.n
    · rw [show (g'.push g.B p).ρ i = p from if_pos a]
      exact h
    · rw [show (g'.push g.B p).ρ i = g'.ρ i from if_neg a]
      exact x.fresh i h1 (by show i < g'.n; omega)
theorem ok_dict {ev : EvF} (hev : EvOk T X δ ev) {ks : List (Option Expr)} {vs : List Expr} {pos : Pos} {kvs : List (Key × D)} (h : evP ev S ks vs = some (kvs, S')) (h1 : ks.all (·.isSome) = true) (h2 : ks.length = vs.length) (h3 : ks ≠ []) (h4 : ks.length ≤ 15) (h5 : kvs.length ≤ 15) :
    PE X (.Dict ks vs pos) (rdE T δ S (.ref S'.length) (S' ++ [.dic (kvs.foldl (fun acc kv => putD acc kv.1 kv.2) [])])) := by
  obtain ⟨trs, p, q⟩ := ok_pairs hev (pos := pos) h
  refine PE.imp (pe_disp p h1 h2 h3 h4) fun σ H Q ⟨g, O, k1, hO, en, z⟩ pa hp => ?_
  refine q σ _ _ ⟨g.wB (orB g.B pa), O, k1.more hp, fun a o => .inl (hO a o), en.more hp, fun g' H' kws x1 k2 r => ?_⟩
  have eg : g' = g'.wB (orB g.B pa) := by
    obtain ⟨r, n, B⟩ := g'
    have e : B = orB g.B pa := x1.eB
    subst e
    rfl
  rw [eg] at k2 r
  have hpa : H' pa = some (.dK []) := x1.keep pa _ upd_same fun i hi e => by
    obtain ⟨ho, z⟩ := k1.trk (i := i) hi
    have e' : pa = g.ρ i := e
    rw [← e', hp] at z; cases z
  have nB : ¬ g.B pa := fun b => by
    obtain ⟨o, z⟩ := k1.tB _ b
    rw [hp] at z; cases z
  have x0 : Ext g H (g'.wB g.B) H' := by
    have y := (Ext.laid (g := g) (p := pa) (o := .dK []) hp).trans' (fun i hi => (k1.laid hp).trk hi) (x1.wB g.B)
    exact y
  refine ⟨hpa, kws, rfl, by rw [← r.length]; exact h5, ?_⟩
  have k3 := k2.push nB (ob := .dic (kvs.foldl (fun acc kv => putD acc kv.1 kv.2) [])) (.dic (kv_merge r .nil))
  have e1 : (V.ref pa) = .ref ((g'.push g.B pa).ρ S'.length) := by
    have e2 : g'.n = S'.length := k2.n
    show V.ref pa = .ref (if S'.length = g'.n then pa else g'.ρ S'.length)
    rw [if_pos e2.symm]
  rw [e1]
  exact z (g'.push g.B pa) _ _ (x0.push hp) k3 (.ref (by show S'.length < g'.n + 1; rw [show g'.n = S'.length from k2.n]; exact Nat.lt_succ_self _))

/-! ### fields of exceptions -/
theorem Cox.x (C : Cox T m call k X c) {n : Str} {x : ExI} (h : m.exs n = some x) : XOk X.prog X.w T.K X.mg X.base n x := C.md.x n x h
theorem rdE_run {e : Expr} {pins : List (Addr × Obj)} {s : Shared} {σ : L2.St} {H : Hp} {g : Sg} {O : Addr → Prop} (h : PE X e (rdE T δ S d S')) (I : Inv X pins σ H s) (k1 : StOk T g S H) (hO : ∀ a, O a → g.B a) (en : EnvOk T g O δ σ H) :
    wpAny (model X.prog X.w) X.A (eval e X.env) (fun u s' => ∃ g' H' v, Inv X pins σ H' s' ∧ RelV v u ∧ Ext g H g' H' ∧ StOk T g' S' H' ∧ RepD T g' H' d v) X.xe s := by
  refine thn (h.run pins s σ H (fun v H' => ∃ g', Ext g H g' H' ∧ StOk T g' S' H' ∧ RepD T g' H' d v) I ⟨g, O, k1, hO, en, fun g' H' v x1 k2 r => ⟨g', x1, k2, r⟩⟩) fun u s' ⟨v, H', I', rv, g', x1, k2, r⟩ => ?_
  exact ⟨g', H', v, I', rv, x1, k2, r⟩
theorem ok_fld (C : Cox T m call k X c) {y : Str} {p pos : Pos} {n : Str} {x : ExI} {f : Str} (hx : m.exs n = some x) (hf : x.fld = f) (ha : PE X (.Name y p) (rdE T δ S (.exc n d) S')) : PE X (.Attribute (.Name y p) f pos) (rdE T δ S d S') := by
  subst hf
  refine ⟨fun pins s σ H Q I ⟨g, O, k1, hO, en, q⟩ => ?_⟩
  refine attr_of rfl (thn (rdE_run ha I k1 hO en) fun u s1 ⟨g1, H1, v, I1, rv, x1, k2, r⟩ => ?_)
  cases r with
  | @exc _ x' e t da _ w hx' he me ht mt hd md r =>
    have ex : x' = x := by
      rw [C.md.exs, hx] at hx'
      exact (Option.some.inj hx').symm
    subst ex
    obtain rfl : u = Value.ref e := rv
    exact (C.x hx).get X pins σ H1 s1 e t da w _ _ rfl rfl C.K I1 he hd fun u' s2 I2 ru => ⟨w, H1, I2, ru, q g1 H1 w x1 k2 r⟩

/-! ### calls -/
theorem ok_call (C : Cox T m call k X c) {f : Str} {p pos : Pos} {a : Expr} {as : List Expr} {di : DefI} {ds : List D} (hg : isGl c.sc f = true) (hdb : dbg f = false) (hd : m.defs f = some di) (hs : (a :: as).all (fun e => !isStar e) = true) (ha : PA X (a :: as) (rdA T δ S ds S1)) (hl : ds.length = di.ps.length) (h : call f ds S1 = some (d, S')) :
    PE X (.Call (.Name f p) (a :: as) [] pos) (rdE T δ S d S') := by
  obtain ⟨⟨fd, F, hb⟩, hm, hk⟩ := C.md.dfs f di hd
  rw [List.all_cons] at hs
  obtain ⟨s1, s2⟩ := Bool.and_eq_true_iff.mp hs
  have hKK := C.K
  rw [← hKK] at F hb hm hk
  refine PE.imp (pe_call F C.room (C.gl hg) hm hk hb .nil pass0 ha (beq_of_ne (dbg_of hdb).1) (star_of (by simpa using s1)) (noStar s2)) fun σ H Q ⟨g, O, k1, hO, en, q⟩ => ?_
  refine ⟨g, O, k1, hO, en, fun g1 H1 vs x1 k2 r => ?_⟩
  show spF T call f di.ps.length (vs ++ []) H1 Q E0
  rw [List.append_nil]
  exact ⟨g1, S1, ds, d, S', h, hl, k2, r, fun g2 H2 v x2 k3 r2 => q g2 H2 v (x1.trans k2 x2) k3 r2⟩

/-- a new exception, laid -/
theorem exc_laid {g : Sg} {H : Hp} {e t da : Addr} {n : Str} {x : ExI} {y : V} {S : List Ob} (hx : T.exs n = some x) (k : StOk T g S H) (he : H e = none) (ht : H t = none) (hd : H da = none) (n1 : e ≠ t) (n2 : e ≠ da) (n3 : t ≠ da) (r : RepD T g H d y) :
    let H3 := upd (upd (upd H t (.tup [.str x.msg])) da (.xd [(x.fld, y)])) e (exq e (He.ga T.K n) t (some da))
    Ext g H g H3 ∧ StOk T g S H3 ∧ RepD T g H3 (.exc n d) (.ref e) := by
  intro H3
  have x1 := Ext.laid (g := g) (p := t) (o := HO.tup [.str x.msg]) ht
  have k1 := k.laid (p := t) (o := HO.tup [.str x.msg]) ht
  have hd1 : (upd H t (HO.tup [.str x.msg])) da = none := by rw [upd_ne (Ne.symm n3)]; exact hd
  have x2 := Ext.laid (g := g) (p := da) (o := HO.xd [(x.fld, y)]) hd1
  have k2 := k1.laid (p := da) (o := HO.xd [(x.fld, y)]) hd1
  have he2 : (upd (upd H t (HO.tup [.str x.msg])) da (HO.xd [(x.fld, y)])) e = none := by rw [upd_ne n2, upd_ne n1]; exact he
  have x3 := Ext.laid (g := g) (p := e) (o := exq e (He.ga T.K n) t (some da)) he2
  have xx := (x1.trans k1 x2).trans k2 x3
  refine ⟨xx, k2.laid he2, .exc hx upd_same (k.notM he) ?_ (k.notM ht) ?_ (k.notM hd) (r.mono xx.stp)⟩
  · show upd _ e _ t = _
    rw [upd_ne (Ne.symm n1), upd_ne n3, upd_same]
  · show upd _ e _ da = _
    rw [upd_ne (Ne.symm n2), upd_same]
theorem ok_mk1 (C : Cox T m call k X c) {f : Str} {p pos : Pos} {a : Expr} {x : ExI} (hg : isGl c.sc f = true) (hdb : dbg f = false) (hx : m.exs f = some x) (hs : isStar a = false) (ha : PE X a (rdE T δ S d S')) : PE X (.Call (.Name f p) [a] [] pos) (rdE T δ S (.exc f d) S') := by
  have hm : X.mg f = some (.ref (He.ga T.K f)) := C.md.gl f (by rw [hx]; rfl)
  have hp : PA X [a] (tCons (rdE T δ S d S') tNil) := pa_cons ha pa_nil (star_of hs)
  refine ⟨fun pins s σ H Q I ⟨g, O, k1, hO, en, q⟩ => ?_⟩
  refine wpAny_Call_Name_kw (ld_glob I (C.gl hg) hm ?_ (beq_of_ne (dbg_of hdb).1))
  refine PySem.W.callWith_K (h₀ := X.base) (K := X.K) I.ok.mod.kin (by rw [C.K]; exact (C.x hx).kp) (thn (hp.run pos pins s σ H (fun vs H' => ∃ g' v, vs = [v] ∧ Ext g H g' H' ∧ StOk T g' S' H' ∧ RepD T g' H' d v) I ⟨g, O, k1, hO, en, fun g' H' v x1 k2 r => ⟨g', v, rfl, x1, k2, r⟩⟩) fun us s1 ⟨vs, H1, I1, rv, g1, v, ev, x1, k2, r⟩ => ⟨I1.kIn, ?_⟩) (star_of hs) rfl
  subst ev
  obtain ⟨u, rfl, ru⟩ := vals1 rv
  exact (C.x hx).made X pins σ H1 s1 [u] [] v Q rfl rfl C.K rfl rfl I1 (C.room.mono (by omega)) (.inl ⟨u, rfl, rfl, ru⟩) fun e t da he ht hd n1 n2 n3 => by
    obtain ⟨y1, y2, y3⟩ := exc_laid (T := T) (n := f) (by rw [C.md.exs]; exact hx) k2 he ht hd n1 n2 n3 r
    exact q g1 _ _ (x1.trans k2 y1) y2 y3
theorem ok_mk0 (C : Cox T m call k X c) {f : Str} {p pos : Pos} {x : ExI} (hg : isGl c.sc f = true) (hdb : dbg f = false) (hx : m.exs f = some x) (ho : x.opt = true) : PE X (.Call (.Name f p) [] [] pos) (rdE T δ S (.exc f .non) S) := by
  have hm : X.mg f = some (.ref (He.ga T.K f)) := C.md.gl f (by rw [hx]; rfl)
  refine ⟨fun pins s σ H Q I ⟨g, O, k1, hO, en, q⟩ => ?_⟩
  refine wpAny_Call_Name_kw (ld_glob I (C.gl hg) hm ?_ (beq_of_ne (dbg_of hdb).1))
  refine PySem.W.callWith_K0 (K := X.K) I.kIn (by rw [C.K]; exact (C.x hx).kp) ?_
  exact (C.x hx).made X pins σ H s [] [] .non Q rfl rfl C.K rfl rfl I (C.room.mono (by omega)) (.inr (.inr ⟨rfl, rfl, ho, rfl⟩)) fun e t da he ht hd n1 n2 n3 => by
    obtain ⟨y1, y2, y3⟩ := exc_laid (T := T) (n := f) (by rw [C.md.exs]; exact hx) k1 he ht hd n1 n2 n3 (RepD.non)
    exact q g _ _ y1 y2 y3
theorem ok_mkK (C : Cox T m call k X c) {f kk : Str} {p pos kp : Pos} {a : Expr} {x : ExI} (hg : isGl c.sc f = true) (hdb : dbg f = false) (hx : m.exs f = some x) (hk : kk = x.fld) (ha : PE X a (rdE T δ S d S')) : PE X (.Call (.Name f p) [] [⟨some kk, a, kp⟩] pos) (rdE T δ S (.exc f d) S') := by
  have hm : X.mg f = some (.ref (He.ga T.K f)) := C.md.gl f (by rw [hx]; rfl)
  have hp : PK X [⟨some kk, a, kp⟩] (tCons (rdE T δ S d S') tNil) := pk_cons ha pk_nil
  subst hk
  refine ⟨fun pins s σ H Q I ⟨g, O, k1, hO, en, q⟩ => ?_⟩
  refine wpAny_Call_Name_kw (ld_glob I (C.gl hg) hm ?_ (beq_of_ne (dbg_of hdb).1))
  refine PySem.W.callWith_KW0 (h₀ := X.base) (K := X.K) I.ok.mod.kin (by rw [C.K]; exact (C.x hx).kp) rfl (thn (hp.run pos pins s σ H (fun vs H' => ∃ g' v, vs = [v] ∧ Ext g H g' H' ∧ StOk T g' S' H' ∧ RepD T g' H' d v) I ⟨g, O, k1, hO, en, fun g' H' v x1 k2 r => ⟨g', v, rfl, x1, k2, r⟩⟩) fun us s1 ⟨vs, H1, I1, rv, g1, v, ev, x1, k2, r⟩ => ⟨I1.kIn, ?_⟩) rfl
  subst ev
  obtain ⟨u, rfl, ru⟩ := vals1 rv
  exact (C.x hx).made X pins σ H1 s1 [] [(x.fld, u)] v Q rfl rfl C.K rfl rfl I1 (C.room.mono (by omega)) (.inr (.inl ⟨u, rfl, rfl, ru⟩)) fun e t da he ht hd n1 n2 n3 => by
    obtain ⟨y1, y2, y3⟩ := exc_laid (T := T) (n := f) (by rw [C.md.exs]; exact hx) k2 he ht hd n1 n2 n3 r
    exact q g1 _ _ (x1.trans k2 y1) y2 y3
end
end Ev

/-! What the machine says, the text does: built-in functions; every expression. -/
namespace Ev
open PySem PySem.Spec PyProof.Rows L2
section
variable {T : Tb} {m : Md} {call : CallF} {k : Nat} {X : Cx} {c : Cf} {δ : Dv} {S S1 S2 S' : List Ob} {d : D}

/-- a built-in function at data -/
def rBf (T : Tb) (m : Md) (f : Str) : List V → Hp → VK → Prop := fun xs H Q => ∃ (g : Sg) (ds : List D) (d : D), RepDs T g H ds xs ∧ bfnD m f ds = some d ∧ ∀ v, RepD T g H d v → Q v H
theorem ints_rep {g : Sg} {H : Hp} : ∀ {ds : List D} {vs : List V} {ns : List Int}, RepDs T g H ds vs → intsD ds = some ns → vs = ns.map V.int
  | _, _, _, .nil, h => by cases h; rfl
  | .int i :: ds, _, ns, .cons (.int _) t, h => by
    unfold intsD at h
    obtain ⟨ns', h1, rfl⟩ := Option.map_eq_some_iff.mp h
    rw [ints_rep t h1]
    rfl
  | .non :: _, _, _, .cons _ _, h => by unfold intsD at h; cases h
  | .bl _ :: _, _, _, .cons _ _, h => by unfold intsD at h; cases h
  | .str _ :: _, _, _, .cons _ _, h => by unfold intsD at h; cases h
  | .ty _ :: _, _, _, .cons _ _, h => by unfold intsD at h; cases h
  | .gl _ :: _, _, _, .cons _ _, h => by unfold intsD at h; cases h
  | .tup _ :: _, _, _, .cons _ _, h => by unfold intsD at h; cases h
  | .lst _ :: _, _, _, .cons _ _, h => by unfold intsD at h; cases h
  | .klst _ :: _, _, _, .cons _ _, h => by unfold intsD at h; cases h
  | .exc _ _ :: _, _, _, .cons _ _, h => by unfold intsD at h; cases h
  | .ref _ :: _, _, _, .cons _ _, h => by unfold intsD at h; cases h
theorem call_isiD (C : Cox T m call k X c) : CallR X (.builtin "isinstance") (rBf T m "isinstance") := by
  intro pins s σ H xs us Q I r ⟨g, ds, d, rd, h, q⟩
  have h : isiA m ds = some d := by
    unfold bfnD at h; rw [if_pos rfl] at h; exact h
  unfold isiA at h
  split at h
  · rename_i x y
    obtain ⟨b, h1, rfl⟩ := Option.map_eq_some_iff.mp h
    cases rd with
    | cons r1 rd =>
      cases rd with
      | cons r2 rd =>
        cases rd
        obtain ⟨u1, u2, rfl, q1, q2⟩ := vals2 r
        unfold isiD at h1
        split at h1
        · rename_i n v dn
          split at h1
          · rename_i hc
            cases h1
            cases r2
            cases r1 with
            | @exc _ x e t da _ w hx he me ht mt hd md r =>
              rw [C.md.exs] at hx
              obtain rfl : u1 = Value.ref e := q1
              obtain rfl : u2 = Value.ref _ := q2
              exact (C.x hx).isi X pins σ H s e t da _ _ _ Q rfl rfl C.K I he hd (C.md.kitC n x dn hx hc) (q _ (.bl _))
          · cases h1
        · rename_i n v tn
          split at h1
          · rename_i hc
            cases h1
            cases r2
            cases r1 with
            | @exc _ x e t da _ w hx he me ht mt hd md r =>
              rw [C.md.exs] at hx
              obtain rfl : u1 = Value.ref e := q1
              obtain rfl : u2 = Value.type tn := q2
              exact (C.x hx).isi X pins σ H s e t da _ _ _ Q rfl rfl C.K I he hd (C.md.kitT n x tn hx hc) (q _ (.bl _))
          · cases h1
        · cases h1
  · cases h
theorem call_sumD (C : Cox T m call k X c) : CallR X (.builtin "sum") (rBf T m "sum") := by
  intro pins s σ H xs us Q I r ⟨g, ds, d, rd, h, q⟩
  have h : sumA ds = some d := by
    unfold bfnD at h; rw [if_neg (by decide), if_pos rfl] at h; exact h
  unfold sumA at h
  split at h
  · obtain ⟨ns, h1, rfl⟩ := Option.map_eq_some_iff.mp h
    cases rd with
    | cons r1 rd =>
      cases rd
      cases r1 with
      | klst e1 r1 =>
        have ev := ints_rep r1 h1
        subst ev
        exact cr_sum C.calm pins s σ H _ us Q I r ⟨_, ns, rfl, by rw [C.K]; exact e1.sq, q _ (.int _)⟩
  · cases h
theorem call_strD (C : Cox T m call k X c) : CallR X (.type "str") (rBf T m "str") := by
  intro pins s σ H xs us Q I r ⟨g, ds, d, rd, h, q⟩
  have h : strA m ds = some d := by
    unfold bfnD at h; rw [if_neg (by decide), if_neg (by decide), if_pos rfl] at h; exact h
  unfold strA at h
  split at h
  · obtain ⟨x, hx, rfl⟩ := Option.map_eq_some_iff.mp h
    cases rd with
    | cons r1 rd =>
      cases rd
      cases r1 with
      | @exc _ x' e t da _ w hx' he me ht mt hd md r1 =>
        have ex : x' = x := by
          rw [C.md.exs, hx] at hx'
          exact (Option.some.inj hx').symm
        subst ex
        obtain ⟨u, rfl, ru⟩ := vals1 r
        obtain rfl : u = Value.ref e := ru
        exact (C.x hx).str X pins σ H s e t _ Q rfl rfl C.K I (C.room.mono (by omega)) he ht (q _ (.str _))
  · cases h
theorem ok_bfn (C : Cox T m call k X c) {f : Str} {p pos : Pos} {a : Expr} {as : List Expr} {ds : List D} (hg : isGl c.sc f = true) (hdb : dbg f = false) (hd : m.bfn f = true) (hs : (a :: as).all (fun e => !isStar e) = true) (ha : PA X (a :: as) (rdA T δ S ds S')) (h : bfnD m f ds = some d) :
    PE X (.Call (.Name f p) (a :: as) [] pos) (rdE T δ S d S') := by
  rw [List.all_cons] at hs
  obtain ⟨s1, s2⟩ := Bool.and_eq_true_iff.mp hs
  have s1 : isStar a = false := by simpa using s1
  have hm := C.md.fn f hd
  obtain ⟨n1, n2, n3⟩ := dbg_of hdb
  have fin : ∀ σ H Q, rdE T δ S d S' σ H Q → tCB (rBf T m f) (rdA T δ S ds S') σ H Q := fun σ H Q ⟨g, O, k1, hO, en, q⟩ => ⟨g, O, k1, hO, en, fun g1 H1 vs x1 k2 r => ⟨g1, ds, d, r, h, fun v rv => q g1 H1 v x1 k2 rv⟩⟩
  have h0 := h
  unfold bfnD at h
  split at h
  · rename_i e
    subst e
    exact PE.imp (pe_callB (call_isiD C) (C.gl hg) hm boot_isinstance ha n3 (beq_of_ne n1) (star_of s1) (noStar s2)) fin
  · split at h
    · rename_i e
      subst e
      exact PE.imp (pe_callB (call_sumD C) (C.gl hg) hm boot_sum ha n3 (beq_of_ne n1) (star_of s1) (noStar s2)) fin
    · split at h
      · rename_i e
        subst e
        exact PE.imp (pe_callTy (call_strD C) (C.gl hg) hm PyProof.Rows.boot_str ha n3 (beq_of_ne n1) (star_of s1) (noStar s2)) fin
      · cases h

theorem ok_if (C : Cox T m call k X c) {t a b : Expr} {pos : Pos} {r : Bool} (ht : PT X t (rdT T δ S r S1)) (h : PE X (if r = true then a else b) (rdE T δ S1 d S')) : PE X (.IfExp t a b pos) (rdE T δ S d S') := by
  have never : ∀ e : Expr, PE X e fun _ _ _ => False := fun e => ⟨fun _ _ _ _ _ _ z => z.elim⟩
  have mid : ∀ {R : Bool → Hp → Prop} {σ : L2.St} {H : Hp} {Q : VK}, rdE T δ S d S' σ H Q → (∀ H1, rdE T δ S1 d S' σ H1 Q → R r H1) → rdT T δ S r S1 σ H R := fun ⟨g, O, k1, hO, en, q⟩ hR =>
    ⟨g, O, k1, hO, en, fun g1 H1 x1 k2 => hR H1 ⟨g1, O, k2, fun a o => by rw [x1.eB]; exact hO a o, en.ext k1 hO x1, fun g2 H2 v x2 k3 rv => q g2 H2 v (x1.trans k2 x2) k3 rv⟩⟩
  cases r with
  | true => exact PE.imp (pe_ifExp ht h (never b)) fun σ H Q q => mid q fun H1 z => iteT z
  | false => exact PE.imp (pe_ifExp ht (never a) h) fun σ H Q q => mid q fun H1 z => iteF z

theorem evIfs_ok {ev : EvF} (hK : X.K = T.K) (hu : X.A.units + 64 < cLine) (hev : EvOk T X δ ev) {n : Nat} {ifs : List Expr} {b : Bool} (h : evIfs ev n S ifs = some (b, S')) : PTs X ifs (rdT T δ S b S') := by
  unfold evIfs at h
  split at h
  · cases h
    exact ⟨fun pins s σ H Q I ⟨g, O, k1, hO, en, q⟩ => pts_nil.run pins s σ H Q I (q g H (Ext.refl g H) k1)⟩
  · exact pts_one (ok_test hK hu hev n _ _ _ _ h).1
  · cases h

theorem evE_ok : ∀ (n : Nat) {X : Cx} {c : Cf}, Cox T m call k X c → ∀ δ, EvOk T X δ (evE m call n c δ) := by
  intro n
  induction n with
  | zero => intro X c C δ S e d S' h; cases h
  | succ n ih =>
    intro X c C δ S e d S' h
    have ev : EvOk T X δ (evE m call n c δ) := ih C δ
    have hK := C.K
    have hu := C.hu
    unfold evE at h
    split at h
    · -- constants
      obtain ⟨v, h1, h2⟩ := Option.map_eq_some_iff.mp h
      cases h2
      exact ok_const h1
    · obtain ⟨v, h1, h2⟩ := Option.map_eq_some_iff.mp h
      cases h2
      exact ok_name C h1
    · split at h
      · cases h
      · rename_i h1
        split at h
        · cases h
        · rename_i h2
          obtain ⟨z, h3, h4⟩ := Option.map_eq_some_iff.mp h
          cases h4
          exact ok_bin hK (ev _ _ _ _ h1) (ev _ _ _ _ h2) h3
    · split at h
      · cases h
      · rename_i h1
        split at h
        · cases h
        · rename_i h2
          obtain ⟨z, h3, h4⟩ := Option.map_eq_some_iff.mp h
          cases h4
          exact ok_cmp hK hu (ev _ _ _ _ h1) (ev _ _ _ _ h2) h3
    · split at h
      · cases h
      · rename_i h1
        exact ok_if C (r := true) (ok_test hK hu ev n _ _ _ _ h1).1 (ev _ _ _ _ h)
      · rename_i h1
        exact ok_if C (r := false) (ok_test hK hu ev n _ _ _ _ h1).1 (ev _ _ _ _ h)
    · split at h
      · cases h
      · rename_i h1
        split at h
        · rename_i hz
          cases h
          exact ok_tup (ok_list ev h1) hz
        · cases h
    · split at h
      · cases h
      · rename_i h1
        split at h
        · rename_i hz
          cases h
          exact ok_lst (ok_list ev h1) hz
        · cases h
    · split at h
      · rename_i hc
        split at h
        · cases h
        · rename_i h1
          split at h
          · rename_i hz
            cases h
            obtain ⟨hc, c3⟩ := Bool.and_eq_true_iff.mp hc
            obtain ⟨c1, c2⟩ := Bool.and_eq_true_iff.mp hc
            have len : ∀ {ks : List (Option Expr)} {vs : List Expr} {S : List Ob} {kvs : List (Key × D)} {S' : List Ob}, evP (evE m call n c δ) S ks vs = some (kvs, S') → ks.length = kvs.length := by
              intro ks
              induction ks with
              | nil =>
                intro vs S kvs S' h
                cases vs with
                | nil => cases h; rfl
                | cons _ _ => cases h
              | cons k0 ks ihk =>
                intro vs S kvs S' h
                cases vs with
                | nil => cases k0 <;> (unfold evP at h; cases h)
                | cons v vs =>
                  cases k0 with
                  | none => unfold evP at h; cases h
                  | some ke =>
                    unfold evP at h
                    split at h
                    · split at h
                      · cases h
                      · split at h
                        · cases h
                        · rename_i h3
                          cases h
                          rw [List.length_cons, List.length_cons, ihk h3]
                    · cases h
            have hz := of_decide_eq_true hz
            exact ok_dict ev h1 c1 (of_decide_eq_true c2) (fun e => by subst e; cases c3) (by rw [len h1]; exact hz) hz
          · cases h
      · cases h
    · split at h
      · rename_i h1
        split at h
        · cases h
        · rename_i h2
          split at h
          · cases h
          · rename_i h3
            cases h
            exact ok_slice hK ev (ev _ _ _ _ h1) h2 h3
      · cases h
    · split at h
      · rename_i hp
        split at h
        · cases h
        · rename_i h1
          split at h
          · cases h
          · rename_i h2
            obtain ⟨z, h3, h4⟩ := Option.map_eq_some_iff.mp h
            cases h4
            exact ok_sub C hp (ev _ _ _ _ h1) (ev _ _ _ _ h2) h3
      · cases h
    · split at h
      · split at h
        · rename_i h1
          split at h
          · rename_i x hx
            split at h
            · rename_i hf
              cases h
              exact ok_fld C hx hf (ev _ _ _ _ h1)
            · cases h
          · cases h
        · cases h
      · cases h
    · -- calls
      split at h
      · cases h
      · rename_i hc
        have hc := Bool.eq_false_iff.mpr hc
        rw [Bool.or_eq_false_iff] at hc
        obtain ⟨hdb, hg⟩ := hc
        simp only [Bool.not_eq_false'] at hg
        split at h
        · rename_i di hd
          split at h
          · rename_i hz
            obtain ⟨z1, z2⟩ := Bool.and_eq_true_iff.mp hz
            split at h
            · cases h
            · rename_i h1
              split at h
              · rename_i hl
                rename_i args kws _ _ _ _ _
                cases kws with
                | cons _ _ => cases z1
                | nil =>
                  cases args with
                  | nil => cases z2
                  | cons a as => exact ok_call C hg hdb hd (evL_star h1) (ok_list ev h1) (of_decide_eq_true hl) h
              · cases h
          · cases h
        · split at h
          · rename_i x hx
            split at h
            · split at h
              · rename_i ho
                cases h
                exact ok_mk0 C hg hdb hx ho
              · cases h
            · split at h
              · cases h
              · rename_i hs
                split at h
                · cases h
                · rename_i h1
                  cases h
                  exact ok_mk1 C hg hdb hx (Bool.eq_false_iff.mpr hs) (ev _ _ _ _ h1)
            · split at h
              · rename_i hk
                split at h
                · cases h
                · rename_i h1
                  cases h
                  exact ok_mkK C hg hdb hx hk (ev _ _ _ _ h1)
              · cases h
            · cases h
          · split at h
            · rename_i hz
              obtain ⟨hz, z3⟩ := Bool.and_eq_true_iff.mp hz
              obtain ⟨z1, z2⟩ := Bool.and_eq_true_iff.mp hz
              split at h
              · cases h
              · rename_i h1
                obtain ⟨z, h3, h4⟩ := Option.map_eq_some_iff.mp h
                cases h4
                rename_i args kws _ _ _ _ _ _ _ _
                cases kws with
                | cons _ _ => cases z1
                | nil =>
                  cases args with
                  | nil => cases z3
                  | cons a as => exact ok_bfn C hg hdb z2 (evL_star h1) (ok_list ev h1) h3
            · cases h
    · -- comprehensions
      split at h
      · rename_i hc
        obtain ⟨hc, c4⟩ := Bool.and_eq_true_iff.mp hc
        obtain ⟨hc, c3⟩ := Bool.and_eq_true_iff.mp hc
        obtain ⟨c1, c2⟩ := Bool.and_eq_true_iff.mp hc
        split at h
        · cases h
        · rename_i h1
          split at h
          · cases h
          · rename_i hi
            obtain ⟨⟨out, S2⟩, h3, h4⟩ := Option.map_eq_some_iff.mp h
            cases h4
            exact ok_comp C c1 c2 c4 (ev _ _ _ _ h1) hi (fun s H Ca cl fp δ1 S d S' z => ih (C.blk s H _ cl Ca fp) δ1 _ _ _ _ z)
              (fun s H Ca cl fp δ1 S d S' z => evIfs_ok (X := X.blk s H _ (compEnvC _ cl Ca X.env) fp) hK hu (ih (C.blk s H _ cl Ca fp) δ1) z) h3
      · cases h
    · cases h
end
end Ev

/-! What the machine says, the text does: statements. -/
namespace Ev
open PySem PySem.Spec PyProof.Rows L2

/-- a state of the frame: O, the places of its own lists -/
structure Frm (T : Tb) (B0 : Addr → Prop) (g : Sg) (O : Addr → Prop) (δ : Dv) (S : List Ob) (σ : L2.St) (H : Hp) : Prop where
  st : StOk T g S H
  eB : g.B = fun a => B0 a ∨ O a
  dis : ∀ a, O a → ¬ B0 a
  en : EnvOk T g O δ σ H
  inj : ∀ (i j : Nat) (xs ys : List D) (v : V), δ[i]? = some (some (SV.own xs)) → δ[j]? = some (some (SV.own ys)) → σ[i]? = some (some v) → σ[j]? = some (some v) → i = j
/-- from one state to a later -/
structure Rn (g : Sg) (O : Addr → Prop) (H : Hp) (g' : Sg) (O' : Addr → Prop) (H' : Hp) : Prop where
  le : g.n ≤ g'.n
  pre : ∀ i, i < g.n → g'.ρ i = g.ρ i
  keep : ∀ a o, H a = some o → (∀ i, i < g.n → a ≠ g.ρ i) → ¬ O a → H' a = some o
  fresh : ∀ i, g.n ≤ i → i < g'.n → H (g'.ρ i) = none
  ofr : ∀ a, O' a → O a ∨ H a = none
  trk : ∀ a o, H a = some o → ∃ o', H' a = some o'
theorem Rn.refl (g : Sg) (O : Addr → Prop) (H : Hp) : Rn g O H g O H := ⟨Nat.le_refl _, fun _ _ => rfl, fun _ _ h _ _ => h, fun i h1 h2 => by omega, fun _ o => .inl o, fun _ o h => ⟨o, h⟩⟩
theorem Rn.trans {g g1 g2 : Sg} {O O1 O2 : Addr → Prop} {H H1 H2 : Hp} (a : Rn g O H g1 O1 H1) (b : Rn g1 O1 H1 g2 O2 H2) : Rn g O H g2 O2 H2 := by
  have nn : ∀ x, H1 x = none → H x = none := fun x h => by
    cases q : H x with
    | none => rfl
    | some o =>
      obtain ⟨o', z⟩ := a.trk x o q
      rw [h] at z; cases z
  refine ⟨Nat.le_trans a.le b.le, fun i hi => (b.pre i (Nat.lt_of_lt_of_le hi a.le)).trans (a.pre i hi), fun x o h m no => ?_, fun i h1 h2 => ?_, fun x o => ?_, fun x o h => ?_⟩
  · refine b.keep x o (a.keep x o h m no) (fun i hi e => ?_) fun o1 => ?_
    · by_cases hi' : i < g.n
      · exact m i hi' (by rw [e, a.pre i hi'])
      · have := a.fresh i (by omega) hi
        rw [← e, h] at this; cases this
    · rcases a.ofr x o1 with z | z
      · exact no z
      · rw [h] at z; cases z
  · by_cases hi : i < g1.n
    · rw [b.pre i hi]
      exact a.fresh i h1 hi
    · exact nn _ (b.fresh i (by omega) h2)
  · rcases b.ofr x o with z | z
    · exact a.ofr x z
    · exact .inr (nn x z)
  · obtain ⟨o1, z⟩ := a.trk x o h
    exact b.trk x o1 z
section
variable {T : Tb} {B0 : Addr → Prop} {g g' g1 : Sg} {O O' O1 : Addr → Prop} {δ δ' : Dv} {S S' S1 : List Ob} {σ σ' : L2.St} {H H' H1 : Hp} {d : D}
theorem Frm.hO (f : Frm T B0 g O δ S σ H) : ∀ a, O a → g.B a := fun a o => by rw [f.eB]; exact .inr o
theorem Rn.stp (r : Rn g O H g' O' H') (e : g.B = fun a => B0 a ∨ O a) (e' : g'.B = fun a => B0 a ∨ O' a) : Stp g H g' H' := by
  refine ⟨fun a o h m => ?_, r.le, r.pre⟩
  have n1 : ∀ i, i < g.n → a ≠ g.ρ i := fun i hi z => m (.inl ⟨i, hi, z⟩)
  have n2 : ¬ B0 a := fun z => m (.inr (by rw [e]; exact .inl z))
  have n3 : ¬ O a := fun z => m (.inr (by rw [e]; exact .inr z))
  refine ⟨r.keep a o h n1 n3, ?_⟩
  rintro (⟨i, hi, z⟩ | z)
  · by_cases hi' : i < g.n
    · exact n1 i hi' (by rw [z, r.pre i hi'])
    · have := r.fresh i (by omega) hi
      rw [← z, h] at this; cases this
  · rw [e'] at z
    rcases z with z | z
    · exact n2 z
    · rcases r.ofr a z with z | z
      · exact n3 z
      · rw [h] at z; cases z
theorem Rn.ofExt (f : Frm T B0 g O δ S σ H) (x : Ext g H g' H') (k : StOk T g' S' H') : Rn g O H g' O H' := by
  refine ⟨x.le, x.pre, fun a o h m _ => x.keep a o h m, x.fresh, fun a o => .inl o, fun a o h => ?_⟩
  by_cases m : ∃ i, i < g.n ∧ a = g.ρ i
  · obtain ⟨i, hi, e⟩ := m
    obtain ⟨ho, z⟩ := k.trk (i := i) (Nat.lt_of_lt_of_le hi x.le)
    exact ⟨ho, by rw [e, ← x.pre i hi]; exact z⟩
  · exact ⟨o, x.keep a o h fun i hi e => m ⟨i, hi, e⟩⟩
theorem Frm.ext (f : Frm T B0 g O δ S σ H) (x : Ext g H g' H') (k : StOk T g' S' H') : Frm T B0 g' O δ S' σ H' :=
  ⟨k, by rw [x.eB]; exact f.eB, f.dis, f.en.ext f.st f.hO x, f.inj⟩

/-! ### freezing -/
theorem frzL_len {xs : List Str} : ∀ {N : List Str} {δ : Dv}, (frzL xs N δ).length = δ.length
  | x :: N, sv :: δ => by
    show (_ :: frzL xs N δ).length = _
    rw [List.length_cons, List.length_cons, frzL_len]
  | [], _ => by rfl
  | _ :: _, [] => rfl
theorem frzL_at {xs : List Str} : ∀ {N : List Str} {δ : Dv} (i : Nat), (frzL xs N δ)[i]? = δ[i]? ∨ (frzL xs N δ)[i]? = (δ[i]?).map frzD
  | x :: N, sv :: δ, 0 => by
    show (((if xs.contains x then frzD sv else sv) :: frzL xs N δ))[0]? = _ ∨ _
    by_cases h : xs.contains x = true
    · right
      show some (if xs.contains x = true then frzD sv else sv) = _
      rw [if_pos h]; rfl
    · left
      show some (if xs.contains x = true then frzD sv else sv) = _
      rw [if_neg h]; rfl
  | x :: N, sv :: δ, i + 1 => by
    show (frzL xs N δ)[i]? = δ[i]? ∨ (frzL xs N δ)[i]? = (δ[i]?).map frzD
    exact frzL_at i
  | [], _, _ => .inl rfl
  | _ :: _, [], _ => .inl rfl
theorem frz_at {c : Cf} {es : List Expr} {δ : Dv} (i : Nat) {sv : SV} (h : (frz c es δ)[i]? = some (some sv)) : δ[i]? = some (some sv) ∨ ∃ xs, δ[i]? = some (some (.own xs)) ∧ sv = .val (.lst xs) := by
  rcases frzL_at (xs := es.flatMap (namesE 40)) (N := c.N) (δ := δ) i with z | z
  · exact .inl (z ▸ h)
  · have h : (frzL (es.flatMap (namesE 40)) c.N δ)[i]? = some (some sv) := h
    rw [h] at z
    cases q : δ[i]? with
    | none => rw [q] at z; cases z
    | some o =>
      rw [q] at z
      cases o with
      | none => cases z
      | some sv' =>
        cases sv' with
        | val d => cases z; exact .inl rfl
        | own xs => cases z; exact .inr ⟨xs, rfl, rfl⟩
theorem frz_own {c : Cf} {es : List Expr} {δ : Dv} (i : Nat) {xs : List D} (h : (frz c es δ)[i]? = some (some (.own xs))) : δ[i]? = some (some (.own xs)) := by
  rcases frz_at i h with z | ⟨_, _, z⟩
  · exact z
  · cases z
theorem Frm.frz (f : Frm T B0 g O δ S σ H) (c : Cf) (es : List Expr) : ∃ g2 O2, Frm T B0 g2 O2 (Ev.frz c es δ) S σ H ∧ Rn g O H g2 O2 H := by
  let O2 : Addr → Prop := fun a => O a ∧ ∃ (i : Nat) (xs : List D), (Ev.frz c es δ)[i]? = some (some (SV.own xs)) ∧ σ[i]? = some (some (V.ref a))
  have sub : ∀ a, (B0 a ∨ O2 a) → g.B a := fun a z => by
    rw [f.eB]
    exact z.elim .inl fun z => .inr z.1
  refine ⟨g.wB fun a => B0 a ∨ O2 a, O2, ⟨f.st.shrink sub, rfl, fun a z => f.dis a z.1, ⟨by rw [show (Ev.frz c es δ).length = δ.length from frzL_len]; exact f.en.len, fun i sv h => ?_⟩, fun i j xs ys v h1 h2 => f.inj i j xs ys v (frz_own i h1) (frz_own j h2)⟩,
    ⟨Nat.le_refl _, fun _ _ => rfl, fun _ _ h _ _ => h, fun i h1 h2 => by have : i < g.n := h2; omega, fun a z => .inl z.1, fun _ o h => ⟨o, h⟩⟩⟩
  rcases frz_at i h with z | ⟨xs, z, rfl⟩
  · obtain ⟨v, q, r⟩ := f.en.at_ i sv z
    refine ⟨v, q, ?_⟩
    cases r with
    | val r => exact .val (r.mono (Stp.shrink sub))
    | own h1 h2 r => exact .own h1 ⟨h2, i, _, h, q⟩ (r.mono (Stp.shrink sub))
  · obtain ⟨v, q, r⟩ := f.en.at_ i _ z
    refine ⟨v, q, ?_⟩
    cases r with
    | @own a _ vs h1 h2 r =>
      refine .val (.lst h1 ?_ (r.mono (Stp.shrink sub)))
      rintro (⟨j, hj, e⟩ | b | b)
      · exact f.st.nB j hj (e ▸ f.hO a h2)
      · exact f.dis a h2 b
      · obtain ⟨_, j, ys, h3, h4⟩ := b
        have e := f.inj i j _ _ _ z (frz_own j h3) q h4
        subst e
        rw [h] at h3
        cases h3
theorem Frm.rd (f : Frm T B0 g O δ S σ H) (c : Cf) (es : List Expr) {Q : VK} (q : ∀ g' O' H' v, Frm T B0 g' O' (Ev.frz c es δ) S1 σ H' → Rn g O H g' O' H' → RepD T g' H' d v → Q v H') : rdE T (Ev.frz c es δ) S d S1 σ H Q := by
  obtain ⟨g2, O2, f2, r2⟩ := f.frz c es
  exact ⟨g2, O2, f2.st, f2.hO, f2.en, fun g' H' v x k r => q g' O2 H' v (f2.ext x k) (r2.trans (Rn.ofExt f2 x k)) r⟩
theorem Frm.rdE' (f : Frm T B0 g O δ S σ H) {Q : VK} (q : ∀ g' H' v, Frm T B0 g' O δ S1 σ H' → Rn g O H g' O H' → RepD T g' H' d v → Q v H') : rdE T δ S d S1 σ H Q :=
  ⟨g, O, f.st, f.hO, f.en, fun g' H' v x k r => q g' H' v (f.ext x k) (Rn.ofExt f x k) r⟩
theorem Frm.rdb (f : Frm T B0 g O δ S σ H) (c : Cf) (es : List Expr) {b : Bool} {Q : Bool → Hp → Prop} (q : ∀ g' O' H', Frm T B0 g' O' (Ev.frz c es δ) S1 σ H' → Rn g O H g' O' H' → Q b H') : rdT T (Ev.frz c es δ) S b S1 σ H Q := by
  obtain ⟨g2, O2, f2, r2⟩ := f.frz c es
  exact ⟨g2, O2, f2.st, f2.hO, f2.en, fun g' H' x k => q g' O2 H' (f2.ext x k) (r2.trans (Rn.ofExt f2 x k))⟩
/-- a thing is laid -/
theorem Frm.laid (f : Frm T B0 g O δ S σ H) {p : Addr} {o : HO} (h : H p = none) : Frm T B0 g O δ S σ (upd H p o) := f.ext (Ext.laid h) (f.st.laid h)
theorem Rn.laid {p : Addr} {o : HO} (h : H p = none) : Rn g O H g O (upd H p o) :=
  ⟨Nat.le_refl _, fun _ _ => rfl, fun a u q _ _ => by rw [upd_ne (ne_of_none q h)]; exact q, fun i h1 h2 => by omega, fun _ o => .inl o, fun a u q => ⟨u, by rw [upd_ne (ne_of_none q h)]; exact q⟩⟩
/-- a slot is set -/
theorem Frm.set (f : Frm T B0 g O δ S σ H) (i : Nat) {v : V} (r : RepD T g H d v) : Frm T B0 g O (δ.set i (some (.val d))) S (σ.set i (some v)) H := by
  have back : ∀ {i' : Nat} {xs : List D}, (δ.set i (some (SV.val d)))[i']? = some (some (.own xs)) → i ≠ i' ∧ δ[i']? = some (some (.own xs)) := fun {i' xs} z => by
    by_cases e : i = i'
    · subst e
      have hl := (List.getElem?_eq_some_iff.mp z).1
      rw [List.length_set] at hl
      rw [List.getElem?_set_self hl] at z
      cases z
    · rw [List.getElem?_set_ne e] at z
      exact ⟨e, z⟩
  refine ⟨f.st, f.eB, f.dis, env_set f.en (.val r), fun a b xs ys w h1 h2 h3 h4 => ?_⟩
  obtain ⟨n1, h1⟩ := back h1
  obtain ⟨n2, h2⟩ := back h2
  rw [List.getElem?_set_ne n1] at h3
  rw [List.getElem?_set_ne n2] at h4
  exact f.inj a b xs ys w h1 h2 h3 h4
/-- a list of the frame's own is made -/
theorem Frm.own (f : Frm T B0 g O δ S σ H) (i : Nat) {p : Addr} (h : H p = none) : ∃ g' O', Frm T B0 g' O' (δ.set i (some (.own []))) S (σ.set i (some (.ref p))) (upd H p (.lst [])) ∧ Rn g O H g' O' (upd H p (.lst [])) := by
  have fr : ∀ a, O a → a ≠ p := fun a o e => by
    obtain ⟨u, q⟩ := f.st.tB a (f.hO a o)
    exact ne_of_none q h e
  have eB' : orB g.B p = fun a => B0 a ∨ (O a ∨ a = p) := by
    funext a
    apply propext
    unfold orB
    rw [f.eB]
    constructor
    · rintro ((z | z) | z)
      · exact .inl z
      · exact .inr (.inl z)
      · exact .inr (.inr z)
    · rintro (z | z | z)
      · exact .inl (.inl z)
      · exact .inl (.inr z)
      · exact .inr z
  have nb : ¬ B0 p := fun z => by
    obtain ⟨u, q⟩ := f.st.tB p (by rw [f.eB]; exact .inl z)
    rw [h] at q; cases q
  refine ⟨g.wB (orB g.B p), fun a => O a ∨ a = p, ⟨f.st.more h, eB', fun a z => z.elim (f.dis a) fun e => e ▸ nb, ?_, ?_⟩, ⟨Nat.le_refl _, fun _ _ => rfl, fun a u q _ _ => by rw [upd_ne (ne_of_none q h)]; exact q, fun i h1 h2 => by have : i < g.n := h2; omega, fun a z => z.elim .inl fun e => .inr (e ▸ h), fun a u q => ⟨u, by rw [upd_ne (ne_of_none q h)]; exact q⟩⟩⟩
  · have e1 : EnvOk T (g.wB (orB g.B p)) (fun a => O a ∨ a = p) δ σ (upd H p (.lst [])) := ⟨f.en.len, fun j sv q => by
      obtain ⟨v, z, r⟩ := f.en.at_ j sv q
      refine ⟨v, z, ?_⟩
      cases r with
      | val r => exact .val (r.mono (Stp.more h))
      | own h1 h2 r => exact .own (by rw [upd_ne (ne_of_none h1 h)]; exact h1) (.inl h2) (r.mono (Stp.more h))⟩
    exact env_set e1 (.own upd_same (.inr rfl) .nil)
  · have back : ∀ {i' : Nat} {xs : List D} {w : V}, (δ.set i (some (SV.own [])))[i']? = some (some (.own xs)) → (σ.set i (some (V.ref p)))[i']? = some (some w) → (i' = i ∧ w = .ref p) ∨ (i ≠ i' ∧ δ[i']? = some (some (.own xs)) ∧ σ[i']? = some (some w)) := fun {i' xs w} z zw => by
      by_cases e : i = i'
      · subst e
        have hl := (List.getElem?_eq_some_iff.mp zw).1
        rw [List.length_set] at hl
        rw [List.getElem?_set_self hl] at zw
        cases zw
        exact .inl ⟨rfl, rfl⟩
      · rw [List.getElem?_set_ne e] at z zw
        exact .inr ⟨e, z, zw⟩
    have no : ∀ {i' : Nat} {xs : List D}, δ[i']? = some (some (.own xs)) → σ[i']? = some (some (.ref p)) → False := fun {i' xs} z zw => by
      obtain ⟨v, q, r⟩ := f.en.at_ i' _ z
      rw [zw] at q
      cases q
      cases r with
      | own h1 h2 r => exact fr p h2 rfl
    intro a b xs ys w h1 h2 h3 h4
    rcases back h1 h3 with ⟨e1, w1⟩ | ⟨n1, z1, q1⟩
    · rcases back h2 h4 with ⟨e2, w2⟩ | ⟨n2, z2, q2⟩
      · rw [e1, e2]
      · subst w1
        exact (no z2 q2).elim
    · rcases back h2 h4 with ⟨e2, w2⟩ | ⟨n2, z2, q2⟩
      · subst w2
        exact (no z1 q1).elim
      · exact f.inj a b xs ys w z1 z2 q1 q2
/-- an own list grows -/
theorem Frm.app (f : Frm T B0 g O δ S σ H) {i : Nat} {xs : List D} {v : V} (hi : δ[i]? = some (some (.own xs))) (r : RepD T g H d v) : ∃ a vs, σ[i]? = some (some (.ref a)) ∧ H a = some (.lst vs) ∧ vs.length = xs.length ∧ Frm T B0 g O (δ.set i (some (.own (xs ++ [d])))) S σ (upd H a (.lst (vs ++ [v]))) ∧ Rn g O H g O (upd H a (.lst (vs ++ [v]))) := by
  obtain ⟨w, q, rw'⟩ := f.en.at_ i _ hi
  cases rw' with
  | @own a _ vs h1 h2 r1 =>
    have hB := f.hO a h2
    have st : Stp g H g (upd H a (.lst (vs ++ [v]))) := Stp.setB hB
    have hl : i < δ.length := (List.getElem?_eq_some_iff.mp hi).1
    refine ⟨a, vs, q, h1, r1.length.symm, ⟨f.st.setB hB, f.eB, f.dis, ⟨by rw [List.length_set]; exact f.en.len, fun j sv h => ?_⟩, ?_⟩, ⟨Nat.le_refl _, fun _ _ => rfl, fun b u z _ no => by rw [upd_ne (fun e => no (by rw [e]; exact h2))]; exact z, fun i h1 h2 => by omega, fun _ o => .inl o, fun b u z => ?_⟩⟩
    · by_cases e : i = j
      · subst e
        rw [List.getElem?_set_self hl] at h
        cases h
        exact ⟨_, q, .own upd_same h2 ((r1.mono st).append (.cons (r.mono st) .nil))⟩
      · rw [List.getElem?_set_ne e] at h
        obtain ⟨w, z, rz⟩ := f.en.at_ j sv h
        refine ⟨w, z, ?_⟩
        cases rz with
        | val rz => exact .val (rz.mono st)
        | @own b _ ws h3 h4 rz =>
          refine .own ?_ h4 (rz.mono st)
          rw [upd_ne]
          · exact h3
          · intro eb
            subst eb
            exact e (f.inj i j _ _ _ hi h q z)
    · have back : ∀ {i' : Nat} {ys : List D}, (δ.set i (some (SV.own (xs ++ [d]))))[i']? = some (some (.own ys)) → ∃ zs, δ[i']? = some (some (.own zs)) := fun {i' ys} z => by
        by_cases e : i = i'
        · subst e; exact ⟨_, hi⟩
        · rw [List.getElem?_set_ne e] at z; exact ⟨_, z⟩
      intro a b xs ys w h1 h2 h3 h4
      obtain ⟨_, h1⟩ := back h1
      obtain ⟨_, h2⟩ := back h2
      exact f.inj a b _ _ w h1 h2 h3 h4
    · by_cases e : b = a
      · exact ⟨_, by rw [e, upd_same]⟩
      · exact ⟨u, by rw [upd_ne e]; exact z⟩
/-- an object of the store is set anew -/
theorem StOk.put (k : StOk T g S H) {j : Nat} {ob : Ob} {ho : HO} (hj : j < g.n) (r : RepOb T g H ob ho) : StOk T g (S.set j ob) (upd H (g.ρ j) ho) ∧ Ext g H g (upd H (g.ρ j) ho) := by
  have x : Ext g H g (upd H (g.ρ j) ho) := ⟨rfl, Nat.le_refl _, fun _ _ => rfl, fun a u q n => by rw [upd_ne (n j hj)]; exact q, fun i h1 h2 => by omega⟩
  refine ⟨⟨by rw [List.length_set]; exact k.n, fun i o h => ?_, k.inj, k.nB, fun a b => ?_⟩, x⟩
  · by_cases e : j = i
    · subst e
      rw [List.getElem?_set_self (by rw [← k.n]; exact hj)] at h
      cases h
      exact ⟨ho, upd_same, r.mono x.stp⟩
    · rw [List.getElem?_set_ne e] at h
      obtain ⟨o', q, r'⟩ := k.st i o h
      have hi : i < g.n := by rw [k.n]; exact (List.getElem?_eq_some_iff.mp h).1
      exact ⟨o', by rw [upd_ne (fun z => e (k.inj i j hi hj z).symm)]; exact q, r'.mono x.stp⟩
  · obtain ⟨o, q⟩ := k.tB a b
    exact ⟨o, by rw [upd_ne (fun z => k.nB j hj (by rw [← z]; exact b))]; exact q⟩
end

/-! ### readings of statements -/
def wnt (T : Tb) (B0 : Addr → Prop) (g : Sg) (O : Addr → Prop) (H : Hp) (E : Ends) : Out → Prop
  | .nx δ S => ∀ g' O' σ' H', Frm T B0 g' O' δ S σ' H' → Rn g O H g' O' H' → E.nx σ' H'
  | .brk δ S => ∀ g' O' σ' H', Frm T B0 g' O' δ S σ' H' → Rn g O H g' O' H' → E.bk σ' H'
  | .cnt δ S => ∀ g' O' σ' H', Frm T B0 g' O' δ S σ' H' → Rn g O H g' O' H' → E.ct σ' H'
  | .ret d S => ∀ g' O' v H', StOk T g' S H' → (g'.B = fun a => B0 a ∨ O' a) → Rn g O H g' O' H' → RepD T g' H' d v → E.rt v H'
def rdS (T : Tb) (f : Dv → List Ob → Option Out) : TS := fun E σ H => ∃ B0 g O δ S o, Frm T B0 g O δ S σ H ∧ f δ S = some o ∧ wnt T B0 g O H E o
section
variable {T : Tb} {B0 : Addr → Prop} {g g' g1 : Sg} {O O' O1 : Addr → Prop} {δ δ' : Dv} {S S' S1 : List Ob} {σ σ' : L2.St} {H H' H1 : Hp} {d : D} {E E' : Ends}
theorem wnt.from (r : Rn g O H g1 O1 H1) : ∀ {o : Out}, wnt T B0 g O H E o → wnt T B0 g1 O1 H1 E o
  | .nx _ _, w => fun g' O' σ' H' f r' => w g' O' σ' H' f (r.trans r')
  | .brk _ _, w => fun g' O' σ' H' f r' => w g' O' σ' H' f (r.trans r')
  | .cnt _ _, w => fun g' O' σ' H' f r' => w g' O' σ' H' f (r.trans r')
  | .ret _ _, w => fun g' O' v H' k e r' => w g' O' v H' k e (r.trans r')
end
end Ev

/-! What the machine says, the text does: every statement. -/
namespace Ev
open PySem PySem.Spec PyProof.Rows L2
section
variable {T : Tb} {m : Md} {call : CallF} {k : Nat} {X : Cx} {c : Cf}
variable {B0 : Addr → Prop} {g g' g1 : Sg} {O O' O1 : Addr → Prop} {δ δ' : Dv} {S S' S1 : List Ob} {σ σ' : L2.St} {H H' H1 : Hp} {d : D} {E E' : Ends}

theorem exSs_ok {ex : Dv → List Ob → Stmt → Option Out} (h : ∀ st, PS X st (rdS T fun δ S => ex δ S st)) : ∀ sts, PSs X sts (rdS T fun δ S => exSs ex δ S sts)
  | [] => PSs.imp pss_nil fun E σ H ⟨B0, g, O, δ, S, o, f, h, w⟩ => by
    have h : some (Out.nx δ S) = some o := h
    cases h
    exact w g O σ H f (Rn.refl g O H)
  | st :: r => PSs.imp (pss_cons (h st) (exSs_ok h r)) fun E σ H ⟨B0, g, O, δ, S, o, f, h, w⟩ => by
    show rdS T (fun δ S => ex δ S st) { E with nx := rdS T (fun δ S => exSs ex δ S r) E } σ H
    have h : exSs ex δ S (st :: r) = some o := h
    unfold exSs at h
    split at h
    · rename_i δ1 S1 h1
      exact ⟨B0, g, O, δ, S, _, f, h1, fun g' O' σ' H' f' r' => ⟨B0, g', O', δ1, S1, o, f', h, w.from r'⟩⟩
    · rename_i ho
      refine ⟨B0, g, O, δ, S, o, f, h, ?_⟩
      cases o with
      | nx δ1 S1 => exact (ho δ1 S1 h).elim
      | brk _ _ => exact w
      | cnt _ _ => exact w
      | ret _ _ => exact w

/-! ### targets and own lists -/
theorem bind1_own {e : Expr} (h : bind1 c e d δ = some δ') {i : Nat} {xs : List D} (hi : δ'[i]? = some (some (.own xs))) : δ[i]? = some (some (.own xs)) ∧ i ∉ exIx c e := by
  cases e with
  | Name x p =>
    have h : bindN c x d δ = some δ' := h
    unfold bindN at h
    split at h
    · obtain ⟨j, hj, rfl⟩ := Option.map_eq_some_iff.mp h
      by_cases e : j = i
      · subst e
        have hl := (List.getElem?_eq_some_iff.mp hi).1
        rw [List.length_set] at hl
        rw [List.getElem?_set_self hl] at hi
        cases hi
      · rw [List.getElem?_set_ne e] at hi
        refine ⟨hi, fun z => ?_⟩
        unfold exIx at z
        dsimp only at z
        rw [hj] at z
        have z : i ∈ (some j).toList := z
        simp at z
        exact e z.symm
    · cases h
  | _ => cases h
theorem bindNs_own : ∀ {es : List Expr} {ds : List D} {δ δ' : Dv}, bindNs c es ds δ = some δ' → ∀ {i : Nat} {xs : List D}, δ'[i]? = some (some (.own xs)) → δ[i]? = some (some (.own xs)) ∧ i ∉ es.flatMap (exIx c)
  | [], [], δ, δ', h, i, xs, hi => by
    cases h
    exact ⟨hi, by simp⟩
  | [], _ :: _, _, _, h, _, _, _ => by cases h
  | _ :: _, [], _, _, h, _, _, _ => by cases h
  | e0 :: es, d :: ds, δ, δ', h, i, xs, hi => by
    unfold bindNs at h
    split at h
    · cases h
    · rename_i δ1 h1
      obtain ⟨z1, z2⟩ := bindNs_own h hi
      obtain ⟨z3, z4⟩ := bind1_own h1 z1
      exact ⟨z3, by rw [List.flatMap_cons]; exact fun z => (List.mem_append.mp z).elim z4 z2⟩
theorem bindT_own {tg : Expr} (h : bindT c tg d δ = some δ') {i : Nat} {xs : List D} (hi : δ'[i]? = some (some (.own xs))) : δ[i]? = some (some (.own xs)) ∧ i ∉ tgIx c tg := by
  cases tg with
  | Name x p => exact bind1_own (e := .Name x p) h hi
  | Tuple es j p =>
    cases d with
    | tup ds => exact bindNs_own h hi
    | _ => cases h
  | _ => cases h
theorem Frm.bind (f : Frm T B0 g O δ S σ H) {tg : Expr} (h : bindT c tg d δ = some δ') (e : EnvOk T g O δ' σ' H) (a : Alike (tgIx c tg) σ σ') : Frm T B0 g O δ' S σ' H :=
  ⟨f.st, f.eB, f.dis, e, fun i j xs ys v h1 h2 h3 h4 => by
    obtain ⟨a1, a2⟩ := bindT_own h h1
    obtain ⟨b1, b2⟩ := bindT_own h h2
    rw [a.2 i a2] at h3
    rw [a.2 j b2] at h4
    exact f.inj i j xs ys v a1 b1 h3 h4⟩
theorem for_ok {J : It} {n : Nat} {G : Hp → Prop} {Y : Nat → Hp → V → Hp → Prop} (wk : Walk J n G Y) {K : PySem.W.Frag} (hK : K = T.K) {tg : Expr} {ex : Dv → List Ob → Option Out} {ds : List D} {o : Out} (hn : n = ds.length) (f : Frm T B0 g O δ S σ H)
    (h : evFor (bindT c tg) ex ds δ S = some o) (wn : wnt T B0 g O H E o) (hG : ∀ g' O' H', Rn g O H g' O' H' → (g'.B = fun a => B0 a ∨ O' a) → G H')
    (hY : ∀ i g' O' δ' S' σ' H' x H'', i < n → Frm T B0 g' O' δ' S' σ' H' → Rn g O H g' O' H' → Y i H' x H'' → ∃ d, ds[i]? = some d ∧ RepD T g' H'' d x ∧ Frm T B0 g' O' δ' S' σ' H'' ∧ Rn g' O' H' g' O' H'') :
    ∃ W : Nat → Nat → L2.St → Hp → Prop, (∃ m, W 0 m σ H) ∧ ∀ i m σ H, W i m σ H → (J.stop i H ∧ E.nx σ H) ∨ (J.go i H ∧ ∃ N : L2.St → Hp → Prop, (∀ σ' H', N σ' H' → ∃ m', m' < m ∧ W (i + 1) m' σ' H') ∧
      ∀ x H', J.yld i H x H' → tgR c K tg x σ H' fun σ2 H2 => rdS T ex { E with nx := N, ct := N, bk := E.nx } σ2 H2) := by
  subst hn
  refine for_it (tb := rdS T ex) wk (fun i σ' H' => ∃ g' O' δ' S', Frm T B0 g' O' δ' S' σ' H' ∧ Rn g O H g' O' H' ∧ evFor (bindT c tg) ex (ds.drop i) δ' S' = some o) ⟨g, O, δ, S, f, Rn.refl g O H, h⟩ (fun i σ' H' _ ⟨g', O', δ', S', f', r', _⟩ => hG g' O' H' r' f'.eB)
    (fun i x σ' H' H'' hi ⟨g', O', δ', S', f', r', h'⟩ y => ?_) (fun σ' H' ⟨g', O', δ', S', f', r', h'⟩ => ?_)
  · obtain ⟨d, hd, rd, f2, r2⟩ := hY i g' O' δ' S' σ' H' x H'' hi f' r' y
    have e : ds.drop i = d :: ds.drop (i + 1) := by
      obtain ⟨hl, e⟩ := List.getElem?_eq_some_iff.mp hd
      rw [← e]
      exact List.drop_eq_getElem_cons hl
    rw [e] at h'
    unfold evFor at h'
    split at h'
    · cases h'
    · rename_i δ1 h1
      have rr := r'.trans r2
      refine bindT_ok hK h1 f2.en rd fun σ1 e1 a1 => ?_
      have f3 := f2.bind h1 e1 a1
      split at h'
      · rename_i δ2 S2 h2
        exact ⟨B0, g', O', δ1, S', _, f3, h2, fun g3 O3 σ3 H3 f4 r4 => ⟨g3, O3, δ2, S2, f4, rr.trans r4, h'⟩⟩
      · rename_i δ2 S2 h2
        exact ⟨B0, g', O', δ1, S', _, f3, h2, fun g3 O3 σ3 H3 f4 r4 => ⟨g3, O3, δ2, S2, f4, rr.trans r4, h'⟩⟩
      · rename_i δ2 S2 h2
        cases h'
        exact ⟨B0, g', O', δ1, S', _, f3, h2, fun g3 O3 σ3 H3 f4 r4 => wn g3 O3 σ3 H3 f4 (rr.trans r4)⟩
      · rename_i d2 S2 h2
        cases h'
        exact ⟨B0, g', O', δ1, S', _, f3, h2, fun g3 O3 v H3 k4 e4 r4 => wn g3 O3 v H3 k4 e4 (rr.trans r4)⟩
      · cases h'
  · rw [List.drop_length] at h'
    have h' : some (Out.nx δ' S') = some o := h'
    cases h'
    exact wn g' O' σ' H' f' r'

/-- the items stand -/
theorem items_at {ds : List D} {vs : List V} (hr : RepDs T g H ds vs) (eg : g.B = fun a => B0 a ∨ O a) {i : Nat} {x : V} {H'' : Hp} (r' : Rn g O H g' O' H') (f' : Frm T B0 g' O' δ' S' σ' H') (y : YAt vs i H' x H'') :
    ∃ d, ds[i]? = some d ∧ RepD T g' H'' d x ∧ Frm T B0 g' O' δ' S' σ' H'' ∧ Rn g' O' H' g' O' H'' := by
  obtain ⟨e, hx⟩ := y
  subst e
  obtain ⟨d, hd, r⟩ := hr.getV hx
  exact ⟨d, hd, r.mono (r'.stp eg f'.eB), f', Rn.refl _ _ _⟩
abbrev Loop (T : Tb) (c : Cf) (K : PySem.W.Frag) (J : It) (tg : Expr) (ex : Dv → List Ob → Option Out) (E : Ends) (σ : L2.St) (H : Hp) : Prop := ∃ W : Nat → Nat → L2.St → Hp → Prop, (∃ m, W 0 m σ H) ∧ ∀ i m σ H, W i m σ H → (J.stop i H ∧ E.nx σ H) ∨ (J.go i H ∧ ∃ N : L2.St → Hp → Prop, (∀ σ' H', N σ' H' → ∃ m', m' < m ∧ W (i + 1) m' σ' H') ∧
      ∀ x H', J.yld i H x H' → tgR c K tg x σ H' fun σ2 H2 => rdS T ex { E with nx := N, ct := N, bk := E.nx } σ2 H2)
theorem for_itemsL {K : PySem.W.Frag} (hK : K = T.K) {v : V} {tg : Expr} {ex : Dv → List Ob → Option Out} {ds : List D} {o : Out} (f : Frm T B0 g O δ S σ H) (r : RepD T g H (.lst ds) v) (h : evFor (bindT c tg) ex ds δ S = some o) (wn : wnt T B0 g O H E o) :
    ∃ a, v = .ref a ∧ (∃ xs, SqL K H a xs) ∧ Loop T c K (Itl K a) tg ex E σ H := by
  cases r with
  | @lst a _ vs h1 m1 r1 =>
    exact ⟨a, rfl, ⟨vs, SqL.of h1⟩, for_ok walk_list hK r1.length.symm f h wn (fun g' O' H' r' e' => SqL.of ((r'.stp f.eB e').keep _ _ h1 m1).1) fun i g' O' δ' S' σ' H' x H'' _ f' r' y => items_at r1 f.eB r' f' y⟩
theorem for_itemsK {K : PySem.W.Frag} (hK : K = T.K) {v : V} {tg : Expr} {ex : Dv → List Ob → Option Out} {ds : List D} {o : Out} (f : Frm T B0 g O δ S σ H) (r : RepD T g H (.klst ds) v) (h : evFor (bindT c tg) ex ds δ S = some o) (wn : wnt T B0 g O H E o) :
    ∃ a, v = .ref a ∧ (∃ xs, SqL K H a xs) ∧ Loop T c K (Itl K a) tg ex E σ H := by
  cases r with
  | @klst a _ vs h1 r1 =>
    exact ⟨a, rfl, ⟨vs, by rw [hK]; exact h1.sq⟩, for_ok (walk_list (xs := vs)) hK r1.length.symm f h wn (fun g' O' H' r' e' => by rw [hK]; exact (h1.mono (r'.stp f.eB e')).sq) fun i g' O' δ' S' σ' H' x H'' _ f' r' y => items_at r1 f.eB r' f' y⟩
theorem for_itemsT {K : PySem.W.Frag} (hK : K = T.K) {v : V} {tg : Expr} {ex : Dv → List Ob → Option Out} {ds : List D} {o : Out} (f : Frm T B0 g O δ S σ H) (r : RepD T g H (.tup ds) v) (h : evFor (bindT c tg) ex ds δ S = some o) (wn : wnt T B0 g O H E o) :
    ∃ a, v = .ref a ∧ (∃ xs, SqT K H a xs) ∧ Loop T c K (Itt K a) tg ex E σ H := by
  cases r with
  | @tup a _ vs h1 m1 r1 =>
    exact ⟨a, rfl, ⟨vs, SqT.of h1⟩, for_ok walk_tup hK r1.length.symm f h wn (fun g' O' H' r' e' => SqT.of ((r'.stp f.eB e').keep _ _ h1 m1).1) fun i g' O' δ' S' σ' H' x H'' _ f' r' y => items_at r1 f.eB r' f' y⟩
theorem mapIdx_rep {ds : List D} {vs : List V} (r : RepDs T g H ds vs) {i : Nat} {x : V} (hx : vs[i]? = some x) : ∃ d, (ds.mapIdx fun i x => D.tup [.int i, x])[i]? = some (.tup [.int i, d]) ∧ RepD T g H d x := by
  obtain ⟨d, hd, rd⟩ := r.getV hx
  exact ⟨d, by rw [List.getElem?_mapIdx, hd]; rfl, rd⟩
/-- the loop -/
theorem ok_for (C : Cox T m call k X c) {n : Nat} {tg it : Expr} {body : List Stmt} {pos : Pos} {ex : Dv → List Ob → Option Out} {ds : List D} {o : Out} (hb : PSs X body (rdS T ex)) (hns : notSet it = true) (ht : tgOk c tg = true) (hf : forOk tg it = true) (f : Frm T B0 g O δ S σ H)
    (hi : evI m call n c (frz c [it] δ) S it = some (ds, S1)) (h : evFor (bindT c tg) ex ds (frz c [it] δ) S1 = some o) (wn : wnt T B0 g O H E o) {pins : List (Addr × Obj)} {s : Shared} (I : Inv X pins σ H s) :
    wpAny (model X.prog X.w) X.A (exec (.For tg it body [] pos) X.env) (SP X pins E) X.xe s := by
  have hp : PassesOwn (model X.prog X.w) X.A X.env X.xe := by rw [C.xe]; exact PassesOwn.never
  have hs : ∀ v, foldedSetIterable it X.env v = pure v := fun v => by
    cases it <;> first | rfl | cases hns
  have hg := pg_tg C ht
  have plain : (match evE m call n c (frz c [it] δ) S it with
      | none => none
      | some (x, S1) => (itemsD x).map fun ds => (ds, S1)) = some (ds, S1) → wpAny (model X.prog X.w) X.A (exec (.For tg it body [] pos) X.env) (SP X pins E) X.xe s := by
    intro hi
    split at hi
    · cases hi
    · rename_i x S2 h1
      obtain ⟨ds', h2, h3⟩ := Option.map_eq_some_iff.mp hi
      cases h3
      have pe := evE_ok n C (frz c [it] δ) S it x _ h1
      cases x with
      | tup xs =>
        cases h2
        exact (ps_for hp C.calm (pi_tup pe) hg hb hs).run pins s σ H E I (f.rd c [it] fun g' O' H' v f' r' rv => for_itemsT C.K f' rv h (wn.from r'))
      | lst xs =>
        cases h2
        exact (ps_for hp C.calm (pi_list pe) hg hb hs).run pins s σ H E I (f.rd c [it] fun g' O' H' v f' r' rv => for_itemsL C.K f' rv h (wn.from r'))
      | klst xs =>
        cases h2
        exact (ps_for hp C.calm (pi_list pe) hg hb hs).run pins s σ H E I (f.rd c [it] fun g' O' H' v f' r' rv => for_itemsK C.K f' rv h (wn.from r'))
      | _ => cases h2
  unfold evI at hi
  split at hi
  · rename_i fn p a pos'
    split at hi
    · rename_i hc
      obtain ⟨hc, c4⟩ := Bool.and_eq_true_iff.mp hc
      obtain ⟨hc, c3⟩ := Bool.and_eq_true_iff.mp hc
      obtain ⟨c1, c2⟩ := Bool.and_eq_true_iff.mp hc
      obtain rfl := of_decide_eq_true c1
      have c4 : isStar a = false := by simpa using c4
      split at hi
      · rename_i xs S2 h1
        cases hi
        have pe := evE_ok n C _ S a _ _ h1
        cases tg with
        | Tuple es j tp =>
          refine (ps_for hp C.calm (pi_enum (C.gl c2) (C.md.fn _ c3) (pa_cons pe pa_nil (star_of c4)) (star_of c4)) hg hb hs).run pins s σ H E I (f.rd c _ fun g' O' H' v f' r' rv => ?_)
          cases rv with
          | @lst b _ vs h4 m4 r4 =>
            refine ⟨b, vs, rfl, SqL.of h4, for_ok walk_enum C.K (by rw [List.length_mapIdx]; exact r4.length.symm) f' h (wn.from r') (fun g2 O2 H2 r2 e2 => SqL.of ((r2.stp f'.eB e2).keep _ _ h4 m4).1) fun i g2 O2 δ2 S2 σ2 H2 x H3 _ f2 r2 y => ?_⟩
            obtain ⟨t, u, w, rfl, hT, rfl, e1, e2⟩ := y
            cases e1
            obtain ⟨dd, q1, q2⟩ := mapIdx_rep r4 e2
            exact ⟨_, q1, RepDs.tuple f2.st hT (.cons (.int _) (.cons (q2.mono (r2.stp f'.eB f2.eB)) .nil)), f2.laid hT, Rn.laid hT⟩
        | _ => first | (exact absurd hf (by simp [forOk])) | (cases ht)
      · cases hi
    · split at hi
      · rename_i hc
        obtain ⟨hc, c4⟩ := Bool.and_eq_true_iff.mp hc
        obtain ⟨hc, c3⟩ := Bool.and_eq_true_iff.mp hc
        obtain ⟨c1, c2⟩ := Bool.and_eq_true_iff.mp hc
        obtain rfl := of_decide_eq_true c1
        have c4 : isStar a = false := by simpa using c4
        split at hi
        · rename_i j S2 h1
          split at hi
          · rename_i hj
            obtain ⟨j1, j2⟩ := Bool.and_eq_true_iff.mp hj
            cases hi
            have pe := evE_ok n C _ S a _ _ h1
            refine (ps_for hp C.calm (pi_range1 (C.gl c2) (C.md.fn _ c3) (pa_cons pe pa_nil (star_of c4)) (star_of c4)) hg hb hs).run pins s σ H E I (f.rd c _ fun g' O' H' v f' r' rv => ?_)
            cases rv
            refine ⟨j, rfl, of_decide_eq_true j1, of_decide_eq_true j2, for_ok walk_range C.K (by simp) f' h (wn.from r') (fun _ _ _ _ _ => trivial) fun i g2 O2 δ2 S2 σ2 H2 x H3 hi2 f2 r2 y => ?_⟩
            obtain ⟨rfl, rfl⟩ := y
            refine ⟨.int i, by simp [hi2], ?_, f2, Rn.refl _ _ _⟩
            show RepD T _ _ (.int (i : Nat)) (.int (0 + (i : Nat)))
            rw [Int.zero_add]
            exact .int _
          · cases hi
        · cases hi
      · exact plain hi
  · exact plain hi
end
end Ev

/-! What the machine says, the text does: every statement; a def. -/
namespace Ev
open PySem PySem.Spec PyProof.Rows L2
section
variable {T : Tb} {m : Md} {call : CallF} {k : Nat} {X : Cx} {c : Cf}
variable {B0 : Addr → Prop} {g g' g1 : Sg} {O O' O1 : Addr → Prop} {δ δ' : Dv} {S S' S1 : List Ob} {σ σ' : L2.St} {H H' H1 : Hp} {d : D} {E E' : Ends}

theorem noswap {e : Expr} {t : Option Expr} {l : Nat} {env : Env} (h : isComp e = false) : swapsWith e t l env = pure false := by
  cases e <;> first | rfl | cases h
theorem ok_append (C : Cox T m call k X c) {ev : EvF} {n : Nat} {x : Str} {p ap cp pos : Pos} {e : Expr} {i : Nat} {y : D} {xs : List D} (hv : isVis c.sc x = true) (hd : dbg x = false) (hs : isStar e = false) (hl : ap.endLine = cp.line) (hi : idx c.N x = some i) (f : Frm T B0 g O δ S σ H)
    (he : evE m call n c (frz c [e] δ) S e = some (y, S1)) (hown : (frz c [e] δ)[i]? = some (some (.own xs))) (hz : xs.length < 16777216) (wn : wnt T B0 g O H E (.nx ((frz c [e] δ).set i (some (.own (xs ++ [y])))) S1)) {pins : List (Addr × Obj)} {s : Shared} (I : Inv X pins σ H s) :
    wpAny (model X.prog X.w) X.A (exec (.Expr (.Call (.Attribute (.Name x p) "append" ap) [e] [] cp) pos) X.env) (SP X pins E) X.xe s := by
  obtain ⟨n1, n2, n3⟩ := dbg_of hd
  have hv' : Vis X.env.scope x := by rw [C.sc]; exact vis_of hv
  have pe := evE_ok n C _ S e _ _ he
  have r := ps_expr (pos := pos) (pe_bm (X := X) (apos := ap) (cpos := cp) PySem.F.plainAttrs_list PySem.F.slot_list_append PySem.F.type_list_append mt_append (pe_var (i := i) (pos := p) (by rw [C.N]; exact idx_of hi) hv' (beq_of_ne n1) (beq_of_ne n2)) (pa_cons pe pa_nil (star_of hs)) rfl
    (by rw [star_of hs]; rfl) (by simpa using hl) (star_of hs) rfl)
  refine r.run pins s σ H E I ?_
  obtain ⟨g2, O2, f2, r2⟩ := f.frz c [e]
  obtain ⟨w, q, rw'⟩ := f2.en.at_ i _ hown
  cases rw' with
  | @own a _ vs h1 h2 r1 =>
    refine ⟨_, q, .inl ⟨rfl, vs, SqL.of h1⟩, f2.rdE' fun g3 H3 v f3 r3 rv => ?_⟩
    obtain ⟨a', vs', q', h3, hl', f4, r4⟩ := f3.app hown rv
    rw [q] at q'
    cases q'
    exact ⟨a, vs', v, rfl, rfl, h3, by rw [hl', sizeLine_eq]; exact hz, wn g3 O2 σ _ f4 ((r2.trans r3).trans r4)⟩
theorem exS_ok : ∀ (n : Nat) {X : Cx} {c : Cf}, Cox T m call k X c → ∀ st, PS X st (rdS T fun δ S => exS m call n c δ S st) := by
  intro n
  induction n with
  | zero => intro X c C st; exact ⟨fun pins s σ H E I ⟨B0, g, O, δ, S, o, f, h, w⟩ => by cases h⟩
  | succ n ih =>
    intro X c C st
    refine ⟨fun pins s σ H E I hh => ?_⟩
    obtain ⟨B0, g, O, δ, S, o, f, h0, w⟩ := hh
    have h : exS m call (n + 1) c δ S st = some o := h0
    clear h0
    have bl := fun sts => exSs_ok (ih C) sts
    unfold exS at h
    split at h
    · cases h
      exact ps_pass.run pins s σ H E I (w g O σ H f (Rn.refl g O H))
    · cases h
      exact ps_break.run pins s σ H E I (w g O σ H f (Rn.refl g O H))
    · cases h
      exact ps_continue.run pins s σ H E I (w g O σ H f (Rn.refl g O H))
    · cases h
      exact ps_doc.run pins s σ H E I (w g O σ H f (Rn.refl g O H))
    · split at h
      · rename_i hc
        obtain ⟨hc, c5⟩ := Bool.and_eq_true_iff.mp hc
        obtain ⟨hc, c4⟩ := Bool.and_eq_true_iff.mp hc
        obtain ⟨hc, c3⟩ := Bool.and_eq_true_iff.mp hc
        obtain ⟨c1, c2⟩ := Bool.and_eq_true_iff.mp hc
        obtain rfl := of_decide_eq_true c1
        split at h
        · cases h
        · rename_i i hi
          split at h
          · cases h
          · rename_i y S1 h1
            split at h
            · rename_i xs hx
              split at h
              · rename_i hz
                cases h
                exact ok_append C (ev := evE m call n c δ) c2 (by simpa using c3) (by simpa using c4) (of_decide_eq_true c5) hi f h1 hx hz w I
              · cases h
            · cases h
      · cases h
    · rename_i e pos
      split at h
      · cases h
      · rename_i d S1 h1
        cases h
        exact (ps_ret (evE_ok n C _ S e _ _ h1)).run pins s σ H E I (f.rd c [e] fun g' O' H' v f' r' rv => w g' O' v H' f'.st f'.eB r' rv)
    · rename_i x px p1 pos
      split at h
      · rename_i ht
        obtain ⟨i, hi, hh⟩ := Option.map_eq_some_iff.mp h
        cases hh
        obtain ⟨l1, l2⟩ := isTg_of C ht
        refine (ps_set (i := i) C.nd (by rw [C.N]; exact idx_of hi) l1 (pe_lst pa_nil) rfl l2).run pins s σ H E I ?_
        refine ⟨Nat.zero_le _, fun p hp => ?_⟩
        obtain ⟨g', O', f', r'⟩ := f.own i hp
        exact w g' O' _ _ f' r'
      · cases h
    · rename_i x px e pos _
      split at h
      · rename_i hc
        obtain ⟨c1, c2⟩ := Bool.and_eq_true_iff.mp hc
        split at h
        · cases h
        · rename_i d S1 h1
          obtain ⟨i, hi, hh⟩ := Option.map_eq_some_iff.mp h
          cases hh
          obtain ⟨l1, l2⟩ := isTg_of C c1
          exact (ps_set (i := i) C.nd (by rw [C.N]; exact idx_of hi) l1 (evE_ok n C _ S e _ _ h1) (noswap (by simpa using c2)) l2).run pins s σ H E I (f.rd c [e] fun g' O' H' v f' r' rv => w g' O' _ H' (f'.set i rv) r')
      · cases h
    · rename_i x px ke kp e pos
      split at h
      · rename_i hc
        obtain ⟨c1, c2⟩ := Bool.and_eq_true_iff.mp hc
        split at h
        · cases h
        · rename_i v S1 h1
          split at h
          · rename_i j hn
            split at h
            · rename_i key S2 h2
              split at h
              · rename_i kvs h3
                split at h
                · rename_i hz
                  cases h
                  have hz := of_decide_eq_true hz
                  refine (ps_dput (Nat.lt_of_le_of_lt (Nat.add_le_add_left (by decide : 1 ≤ 64) _) C.hu) (ok_name C (S := S1) hn) (evE_ok n C _ S1 ke _ _ h2) (evE_ok n C _ S e _ _ h1) (noswap (by simpa using c2))).run pins s σ H E I
                    (f.rd c [e, ke] fun g1 O1 H1 v1 f1 r1 rv => f1.rdE' fun g2 H2 v2 f2 r2 rn => f2.rdE' fun g3 H3 v3 f3 r3 rk => ?_)
                  have rn3 := rn.mono (r3.stp f2.eB f3.eB)
                  have rv3 := (rv.mono (r2.stp f1.eB f2.eB)).mono (r3.stp f2.eB f3.eB)
                  cases rk
                  obtain ⟨ho, q, rr⟩ := f3.st.st j _ h3
                  cases rr with
                  | @dic _ kws rkv =>
                    have hj : j < g3.n := by rw [f3.st.n]; exact (List.getElem?_eq_some_iff.mp h3).1
                    have rl : ∀ {kvs : List (Key × D)} {kws : List (Key × V)}, RepKv T g3 H3 kvs kws → kvs.length = kws.length := by
                      intro kvs kws z
                      induction z using RepKv.rec (motive_1 := fun _ _ _ => True) with
                      | nil => rfl
                      | cons _ _ ih => rw [List.length_cons, List.length_cons, ih]
                      | _ => trivial
                    obtain ⟨k4, x4⟩ := f3.st.put hj (ob := .dic (putD kvs (.inr key) v)) (.dic (kv_put (key := .inr key) rkv rv3))
                    cases rn3
                    exact ⟨_, _, rfl, DPut.k (k := .inr key) q (by rw [← rl rkv, sizeLine_eq]; exact hz), w g3 O1 σ _ (f3.ext x4 k4) (((r1.trans r2).trans r3).trans (Rn.ofExt f3 x4 k4))⟩
                · cases h
              · cases h
            · cases h
          · cases h
      · cases h
    · rename_i t a b pos
      split at h
      · cases h
      · rename_i S1 h1
        refine (ps_if (ok_test C.K C.hu (evE_ok n C _) n _ _ _ _ h1).1 (bl a) (bl b)).run pins s σ H E I (f.rdb c [t] fun g' O' H' f' r' => ?_)
        exact iteT ⟨B0, g', O', _, S1, o, f', h, w.from r'⟩
      · rename_i S1 h1
        refine (ps_if (ok_test C.K C.hu (evE_ok n C _) n _ _ _ _ h1).1 (bl a) (bl b)).run pins s σ H E I (f.rdb c [t] fun g' O' H' f' r' => ?_)
        exact iteF ⟨B0, g', O', _, S1, o, f', h, w.from r'⟩
    · rename_i tg it body pos
      split at h
      · rename_i hc
        obtain ⟨hc, c3⟩ := Bool.and_eq_true_iff.mp hc
        obtain ⟨c1, c2⟩ := Bool.and_eq_true_iff.mp hc
        split at h
        · cases h
        · rename_i ds S1 h1
          exact ok_for C (bl body) c1 c2 c3 f h1 h w I
      · cases h
    · cases h
end
end Ev

/-! What the machine says, the text does: defs. -/
namespace Ev
open PySem PySem.Spec PyProof.Rows L2
section
variable {P : Program} {w : World} {K : PySem.W.Frag} {mg : Str → Option Value} {base : Heap} {T : Tb} {m : Md} {k : Nat}

theorem start_rep {g : Sg} {H : Hp} {O : Addr → Prop} {N : List Str} {ds : List D} {vs : List V} (r : RepDs T g H ds vs) : EnvOk T g O (startD N ds) (L2.start N vs) H := by
  have hl := r.length
  unfold startD L2.start
  refine ⟨by simp [hl], fun i sv h => ?_⟩
  by_cases hi : i < ds.length
  · rw [List.getElem?_append_left (by simpa using hi), List.getElem?_map] at h
    cases q : ds[i]? with
    | none => rw [q] at h; cases h
    | some d =>
      rw [q] at h
      cases h
      obtain ⟨v, z, rv⟩ := r.get q
      exact ⟨v, by rw [List.getElem?_append_left (by simpa [← hl] using hi), List.getElem?_map, z]; rfl, .val rv⟩
  · rw [List.getElem?_append_right (by simpa using hi), List.getElem?_replicate] at h
    split at h <;> cases h
theorem start_val {N : List Str} {ds : List D} {i : Nat} {xs : List D} (h : (startD N ds)[i]? = some (some (.own xs))) : False := by
  unfold startD at h
  by_cases hi : i < ds.length
  · rw [List.getElem?_append_left (by simpa using hi), List.getElem?_map] at h
    cases q : ds[i]? with
    | none => rw [q] at h; cases h
    | some d => rw [q] at h; cases h
  · rw [List.getElem?_append_right (by simpa using hi), List.getElem?_replicate] at h
    split at h <;> cases h
theorem Rn.out {g g' : Sg} {O O' : Addr → Prop} {H H' : Hp} (r : Rn g O H g' O' H') (h : ∀ a, ¬ O a) : Ext g H (g'.wB g.B) H' := ⟨rfl, r.le, r.pre, fun a o q n => r.keep a o q n (h a), r.fresh⟩

/-- a def of the text -/
structure DfOk (K : PySem.W.Frag) (mg : Str → Option Value) (f : Str) (di : DefI) : Prop where
  fn : ∃ fd, L2.Fun K f f di.st (He.ga K f) fd ∧ Binds K fd di.ps []
  sc : FnScope di.N di.ps (defScope di.st)
  mg : mg f = some (.ref (He.ga K f))
theorem def_ok (M : MdOk P w T.K mg base T m (callN m k) k) {f : Str} {di : DefI} {fd : FuncData} (F : L2.Fun T.K f f di.st (He.ga T.K f) fd) (Sc : FnScope di.N di.ps (defScope di.st)) (hd : m.defs f = some di) :
    FnOk P w T.K mg base L2.CX0 (k + 1 + 4) (He.ga T.K f) fd di.ps (spF T (callN m (k + 1)) f di.ps.length) := by
  have e1 : k + 1 + 4 = (k + 4) + 1 := by omega
  rw [e1]
  refine F.ok Sc (fun vs H Q E ⟨g, S, ds, d, S', h, hl, hs, r, q⟩ => by rw [← r.length, hl]) fun cdv A outer s H vs Q E hr ⟨g, S, ds, d, S', h, hl, hs, r, q⟩ => ?_
  have C : Cox T m (callN m k) k (cxOf L2.CX0 P w T.K mg base di.N f (defScope di.st) (He.ga T.K f) cdv A outer s H E).nox ⟨di.N, defScope di.st, true⟩ :=
    ⟨M, rfl, rfl, rfl, Sc.nd, hr, fun _ _ => rfl, rfl⟩
  refine ⟨_, exSs_ok (exS_ok FUEL C) (defBody di.st), ?_⟩
  have h : (match m.defs f with | some di => runD m (callN m k) di ds S | none => none) = some (d, S') := h
  rw [hd] at h
  have h : runD m (callN m k) di ds S = some (d, S') := h
  unfold runD at h
  rw [if_pos hl] at h
  have fr : Frm T g.B g (fun _ => False) (startD di.N ds) S (L2.start di.N vs) H :=
    ⟨hs, by funext a; exact propext ⟨.inl, fun z => z.elim id False.elim⟩, fun a z => z.elim, start_rep r, fun i j xs ys v h1 => (start_val h1).elim⟩
  split at h
  · rename_i d' S1 h1
    cases h
    refine ⟨g.B, g, fun _ => False, _, S, _, fr, h1, fun g' O' v H' k' e r' rv => ?_⟩
    have sub : ∀ a, g.B a → g'.B a := fun a z => by rw [e]; exact .inl z
    exact q _ H' v (r'.out fun _ z => z) (k'.shrink sub) (rv.mono (Stp.shrink sub))
  · rename_i δ' S1 h1
    cases h
    refine ⟨g.B, g, fun _ => False, _, S, _, fr, h1, fun g' O' σ' H' f' r' => ?_⟩
    have sub : ∀ a, g.B a → g'.B a := fun a z => by rw [f'.eB]; exact .inl z
    exact q _ H' .non (r'.out fun _ z => z) (f'.st.shrink sub) .non
  · cases h
/-- what is known of the text, but for its defs -/
structure MdB (P : Program) (w : World) (mg : Str → Option Value) (base : Heap) (T : Tb) (m : Md) : Prop where
  exs : T.exs = m.exs
  gl : ∀ x, ((m.exs x).isSome || m.own x) = true → mg x = some (.ref (He.ga T.K x))
  ty : ∀ x n, m.bty x = some n → mg x = none ∧ bootBuiltins x = some (.type n)
  fn : ∀ x, m.bfn x = true → mg x = none
  kitC : ∀ n x d, m.exs n = some x → ((m.exs d).isSome || m.own d) = true → PySem.W.kitOne T.K (.ref (He.ga T.K n)) (.ref (He.ga T.K d)) = some ((m.sub n).contains d)
  kitT : ∀ n x t, m.exs n = some x → m.tyk t = true → PySem.W.kitOne T.K (.ref (He.ga T.K n)) (.type t) = some ((m.subT n).contains t)
  x : ∀ c x, m.exs c = some x → XOk P w T.K mg base c x
  dfs : ∀ f di, m.defs f = some di → DfOk T.K mg f di
theorem md_all (B : MdB P w mg base T m) : ∀ k, MdOk P w T.K mg base T m (callN m k) k
  | 0 => ⟨rfl, B.exs, B.gl, B.ty, B.fn, B.kitC, B.kitT, B.x, fun f di hd => by
      obtain ⟨⟨fd, F, b⟩, sc, hm⟩ := B.dfs f di hd
      exact ⟨⟨fd, ⟨fun vs H Q E z => (by obtain ⟨g, S, ds, d, S', h, _⟩ := z; cases h), fun A outer s H args us vs Q E _ _ _ _ z => (by obtain ⟨g, S, ds, d, S', h, _⟩ := z; cases h)⟩, b⟩, hm, F.kp⟩⟩
  | k + 1 => ⟨rfl, B.exs, B.gl, B.ty, B.fn, B.kitC, B.kitT, B.x, fun f di hd => by
      obtain ⟨⟨fd, F, b⟩, sc, hm⟩ := B.dfs f di hd
      exact ⟨⟨fd, def_ok (md_all B k) F sc hd, b⟩, hm, F.kp⟩⟩
end
end Ev

/-! An exception class with an __init__ of its own, called with a keyword. -/
namespace Ev
open PySem PySem.Spec PySem.W PySem.Calls PySem.HandSPX
section
variable {M : Model} {A : Around} {E : Value → Shared → Prop} {h : Heap} {g : Array GenState} {d : Drawn} {t : Nat} {os : OsState}
variable {nm q : Str} {C N : Addr} {bs bm bmB : List Value} {hdct : Bool} {sn : List Str} {sub : List Value} {ab : Bool} {col : Option Bool} {dd : Option Addr} {k0 k1 k2 k3 k5 : Option Value} {B newId initId : String} {fk : Str} {uk : Value}
theorem kw_check (Fb : ExcBaseFacts B newId initId bmB) (same : ∀ Y : String, bm.contains (.type Y) = bmB.contains (.type Y)) {Q : Unit → Shared → Prop}
    (cls : h.get? C = some (excClassObj nm q C N bs bm hdct sn sub ab col dd k0 k1 k2 k3 k5 newId)) (z : Q () ⟨h, g, d, t, os⟩) : wpAny M A (checkBuiltinCall newId ⟨[.ref C], [(fk, uk)]⟩) Q E ⟨h, g, d, t, os⟩ := by
  have isB : (Value.ref C :: bm).contains (.type B) = true := by rw [List.contains_cons, same, Fb.hasB, Bool.or_true]
  have stars := Fb.noStar
  simp only [checkBuiltinCall, Fb.newKind, Fb.newSplit, Fb.newRow]
  repeat (first | refine wpAny_loadPart_at cls ?_ | (refine wpAny_isSubtype_exc cls ?_; rw [isB]) | refine wpAny_staticBase_exc cls ?_ | refine wpAny_madeBy_exc cls ?_ | simp only [bne_self_eq_false, Bool.false_eq_true, if_false] | wp_step)
  exact z
end
section
variable {prog : Program} {w : World} {A : Around} {E : Value → Shared → Prop} {R : Result → Shared → Prop} {h : Heap} {g : Array GenState} {d : Drawn} {t : Nat} {os : OsState}
variable {nm q : Str} {C N : Addr} {bs bm bmB : List Value} {hdct : Bool} {sn : List Str} {sub : List Value} {ab : Bool} {col : Option Bool} {dd : Option Addr} {k0 k1 k2 k3 k5 : Option Value} {B newId initId : String} {fk : Str} {uk : Value}
theorem kw_new (Fb : ExcBaseFacts B newId initId bmB) (same : ∀ Y : String, bm.contains (.type Y) = bmB.contains (.type Y))
    (cls : h.get? C = some (excClassObj nm q C N bs bm hdct sn sub ab col dd k0 k1 k2 k3 k5 newId))
    (z : R (.ok (.ret (.ref (h.objs.size + 1)))) ⟨(h.push { cls := .type "tuple", data := .seq #[] }).push { cls := .ref C, data := .fields #[.ref h.objs.size, .none, .none, .none, .bool false, .none] }, g, d, t, os⟩) :
    codeAny (model prog w) A (.builtin newId ⟨[.ref C], [(fk, uk)]⟩) R ⟨h, g, d, t, os⟩ := by
  have ends := Fb.ends
  have isB : (Value.ref C :: bm).contains (.type B) = true := by rw [List.contains_cons, same, Fb.hasB, Bool.or_true]
  have noA : (Value.ref C :: bm).contains (.type "AttributeError") = false := by rw [List.contains_cons, same, Fb.noAttr]; rfl
  have noN : (Value.ref C :: bm).contains (.type "NameError") = false := by rw [List.contains_cons, same, Fb.noName]; rfl
  refine codeAny_builtinAt Fb.entry ?_
  unfold Builtin.«BaseException.__new__»
  refine wpAt_bind ?_
  show wpAt _ _ _ (stack >>= _) _ _ _
  refine wpAt_bind (wpAt_stack fun p below => wpAt_of_wpAny ?_)
  wp_walk
  refine wpAt_of_wpAny ?_
  rw [Fb.owner]
  repeat (first | with_reducible refine wpAny_madeHere_exc Fb.canon cls ?_ | with_reducible refine wpAny_loadPart_at cls ?_ | (with_reducible refine wpAny_isSubtype_exc cls ?_; first | rw [isB] | rw [noA] | rw [noN]) | wp_step)
  show R _ _
  rw [Heap.size_push]
  exact z
theorem kw_typeCall (Fb : ExcBaseFacts B newId initId bmB) (same : ∀ Y : String, bm.contains (.type Y) = bmB.contains (.type Y)) {fI : Addr} {Q : Fin → Shared → Prop}
    (cls : h.get? C = some (excClassObj nm q C N bs bm hdct sn sub ab col dd k0 k1 k2 k3 k5 newId))
    (hi : W.Looks (model prog w) h (typeLookup (.ref C) "__init__") (some (.ref fI))) (hb : ∀ self, W.Looks (model prog w) h (bindSpecial (.ref fI) self) (.ref fI, [self]))
    (z : codeAny (model prog w) A (.call (.ref fI) ⟨[.ref (h.objs.size + 1)], [(fk, uk)]⟩)
      (fun r s' => match r with | .ok (.ret v) => v = .none ∧ Q (.done (.ret (.ref (h.objs.size + 1)))) s' | .ok _ => False | .error e => E e s')
      ⟨(h.push (W.kdv_tup [])).push (excO C h.objs.size), g, d, t, os⟩) :
    wpAny (model prog w) A (Builtin.«type.__call__» ⟨[.ref C], [(fk, uk)]⟩) Q E ⟨h, g, d, t, os⟩ := by
  repeat (first | with_reducible refine wpAny_loadPart_at cls ?_ | with_reducible refine wpAny_madeBy_exc cls ?_ | wp_step)
  refine codeAny_call_builtin_code (Code.quiet_builtin _ Fb.quiet) (kw_check Fb same cls ?_)
  refine kw_new Fb same cls ?_
  show wpAny _ _ _ _ _ _
  have k : ∀ b o, h.get? b = some o → ((h.push (W.kdv_tup [])).push (excO C h.objs.size)).get? b = some o := fun b o e => Heap.get?_push_of_some _ (Heap.get?_push_of_some _ e)
  have cls1 := k _ _ cls
  have new1 : ((h.push (W.kdv_tup [])).push (excO C h.objs.size)).get? (h.objs.size + 1) = some (excO C h.objs.size) := by heap_get
  have own1 : (Value.ref C :: bm).contains (.ref C) = true := by simp
  have i1 := hi.keeps k
  have b1 := (hb (.ref (h.objs.size + 1))).keeps k
  unfold isInstance
  repeat (first | with_reducible refine wpAny_loadPart_at new1 ?_ | (with_reducible refine wpAny_isSubtype_exc cls1 ?_; rw [own1]) | wp_step)
  show wpAny _ _ (typeLookup (.ref C) _) _ _ _
  refine i1.at ?_
  refine wpAny_holding (wpAny_bind (b1.at ?_))
  refine wpAny_bind (wpAny_call (codeAny_mono z fun r s' z => ?_))
  rcases r with e | (v | _ | _ | _) <;> first | exact z | exact z.elim | skip
  obtain ⟨rfl, z⟩ := z
  first
    | exact wpAny_pure (wpAny_pure z)
    | (wp_walk; exact z)
theorem kw_call (Fb : ExcBaseFacts B newId initId bmB) (same : ∀ Y : String, bm.contains (.type Y) = bmB.contains (.type Y)) {fI : Addr}
    (cls : h.get? C = some (excClassObj nm q C N bs bm hdct sn sub ab col dd k0 k1 k2 k3 k5 newId))
    (hi : W.Looks (model prog w) h (typeLookup (.ref C) "__init__") (some (.ref fI))) (hb : ∀ self, W.Looks (model prog w) h (bindSpecial (.ref fI) self) (.ref fI, [self]))
    (z : codeAny (model prog w) (A.under (.builtin "type.__call__" ⟨[.ref C], [(fk, uk)]⟩)) (.call (.ref fI) ⟨[.ref (h.objs.size + 1)], [(fk, uk)]⟩) (W.InitBack (h.objs.size + 1) R)
      ⟨(h.push (W.kdv_tup [])).push (excO C h.objs.size), g, d, t, os⟩) :
    codeAny (model prog w) A (.call (.ref C) ⟨[], [(fk, uk)]⟩) R ⟨h, g, d, t, os⟩ := by
  have f1 := tc_lookup
  have f2 := tc_bind (.ref C)
  have ty : (⟨h, g, d, t, os⟩ : Shared).TypeIs (.ref C) "type" := ⟨_, cls, rfl⟩
  refine codeAny_of_tree ?_
  show wpAny _ _ (callAny (.ref C) _) _ _ _
  repeat (any_goals (first | assumption | with_reducible refine wpAny_loadPart_at cls ?_ | wp_step))
  refine ⟨rfl, ?_⟩
  refine codeAny_call_builtin_at (Code.quiet_builtin _ (by decide +kernel)) entry_typeCall (wpAny_check_type_call_sub cls (kw_typeCall Fb same cls hi hb ?_))
  refine codeAny_mono z fun r s' z => ?_
  rcases r with e | (v | _ | _ | _) <;> exact z
end
end Ev

/-! An own exception class: what its __init__ does; its field, its text, its kind. -/
namespace Ev
open PySem PySem.Spec PySem.W PySem.Calls PySem.HandSPX
section
variable {prog : Program} {w : World} {A : Around} {E : Value → Shared → Prop} {R : Result → Shared → Prop} {h : Heap} {g : Array GenState} {d : Drawn} {t : Nat} {os : OsState}
variable {nm q : Str} {C N : Addr} {bs bm bmB : List Value} {hdct : Bool} {sn : List Str} {sub : List Value} {ab : Bool} {col : Option Bool} {dd : Option Addr} {k0 k1 k2 k3 k5 : Option Value} {B newId initId : String}
/-- the base's __init__: the args' tuple is told -/
theorem init_told (Fb : ExcBaseFacts B newId initId bmB) (same : ∀ Y : String, bm.contains (.type Y) = bmB.contains (.type Y)) {e t0 : Addr} {rest : List Value}
    (cls : h.get? C = some (excClassObj nm q C N bs bm hdct sn sub ab col dd k0 k1 k2 k3 k5 newId)) (at_ : h.get? e = some (excO C t0)) (few : rest.length ≤ sizeLine)
    (z : ∀ h', (∀ b o, b ≠ e → (h.push (W.kdv_tup rest)).get? b = some o → h'.get? b = some o) → h'.get? e = some (excO C h.objs.size) → R (.ok (.ret .none)) ⟨h', g, d, t, os⟩) :
    codeAny (model prog w) A (.call (.builtin initId) ⟨.ref e :: rest, []⟩) R ⟨h, g, d, t, os⟩ := by
  refine codeAny_call_builtin Fb.init.plain Fb.initEntry (check_init_own Fb same cls at_ rfl ?_)
  wp_walk
  refine z _ (fun b o hb ho => ?_) ?_
  · exact (Heap.get?_update_other _ _ (Ne.symm hb)).trans ho
  · rw [Heap.get?_update_self _ (Heap.get?_push_of_some _ at_) rfl] <;> rfl
end
section
variable {prog : Program} {w : World} {A : Around} {E : Value → Shared → Prop} {R : Result → Shared → Prop} {hp : Heap} {g : Array GenState} {d : Drawn} {t : Nat} {os : OsState}
open Builtin Builtin.ObjectAttr
/-- the first field, whatever the base -/
theorem store_first {K : W.Frag} {B : String} {bmB : List Value} {name : Str} {tk : Tok} {v : Value} {x C : Addr} {fv : Array Value} (SF : StoreFacts B bmB "object.__setattr__" "object")
    (X : K.In hp) (hx : hp.get? x = some { cls := .ref C, data := .fields fv }) (ho : excOver K C bmB = true) (hk : takerIn K C name = some none) (hd : hasDictIn K C = true)
    (z : ∀ h' tk' dx, (∀ b o, b ≠ x → hp.get? b = some o → h'.get? b = some o) → hp.objs.size ≤ dx → dx ≠ x → h'.get? x = some { cls := .ref C, dict := some dx, data := .fields fv } →
      h'.Ns1 dx (fun y => if y = name then some v else none) → R (.ok (.ret .none)) ⟨h', g, d, tk', os⟩) :
    codeAny (model prog w) A (.call (.builtin "object.__setattr__") ⟨[.ref x, .str name tk, v], []⟩) R ⟨hp, g, d, t, os⟩ := by
  have J : W.InstAt hp x { cls := .ref C, data := .fields fv } C none := ⟨hx, rfl, rfl, trivial⟩
  have apart : x ≠ hp.objs.size := Nat.ne_of_lt (Heap.lt_size hx)
  obtain ⟨cd, hcd, hh⟩ := any_some hd
  have lc : W.Looks (model prog w) hp (classData C) cd := W.looks_clsIn X hcd
  refine osa_openX (od := none) SF X J ho hk fun b => ?_
  show wpAny _ _ (storeInOwnDict (.ref x) (.ref C) (.str name tk) name v b) _ _ _
  obtain ⟨nm, bs, mro, ns, qn, hd', sn, sb, ab, col, del⟩ := cd
  dsimp only at hh
  subst hh
  unfold storeInOwnDict ownDictForStores
  repeat (first | with_reducible refine store_in_new ?_ ?_ | with_reducible refine wpAny_loadPart_at hx ?_ | with_reducible refine lc.at ?_ | wp_step)
  · exact ⟨_, #[], _, (Heap.get?_update_ne _ _ _ _ apart.symm).trans (Heap.get?_push_at rfl rfl), rfl, fun e he => absurd he (by simp), fun _ => rfl⟩
  · intro h' tk' hn' hs
    have hx1 : (hp.push { cls := .type "dict", data := .dict #[] }).get? x = some { cls := .ref C, data := .fields fv } := Heap.get?_push_of_some _ hx
    refine z h' tk' hp.objs.size (fun b o hb ho => ?_) (Nat.le_refl _) apart.symm ?_ hn'
    · exact (hs.2 b (Nat.ne_of_lt (Heap.lt_size ho))).trans ((Heap.get?_update_ne _ _ _ _ hb).trans (Heap.get?_push_of_some _ ho))
    · exact (hs.2 x apart).trans (Heap.get?_update_self _ hx1 rfl)
end
end Ev
namespace Ev
open PySem PySem.Spec PyProof.Rows L2
/-! ### the exception in the abstract heap -/
theorem exq_own {e C t x : Addr} {d : Option Addr} : exq e C t d ≠ .own x := fun z => by
  have z' : HO.ext _ = HO.own x := z
  cases z'
theorem exq_tup {e C t : Addr} {d : Option Addr} {xs : List V} : exq e C t d ≠ .tup xs := fun z => by
  have z' : HO.ext _ = HO.tup xs := z
  cases z'
theorem exq_frz {e C t : Addr} {d : Option Addr} {o : Obj} {u : HO} : exq e C t d ≠ .frz o u := fun z => by
  have z' : HO.ext _ = HO.frz o u := z
  cases z'
theorem exq_tbl {e C t : Addr} {d : Option Addr} {ps : Array Value} : exq e C t d ≠ .tbl ps := fun z => by
  have z' : HO.ext _ = HO.tbl ps := z
  cases z'
theorem exq_ok {P : Program} {w : World} {H : Hp} {h : Heap} {e C t : Addr} {d : Option Addr} (he : h.get? e = some ({ cls := .ref C, dict := d, data := .fields #[.ref t, .none, .none, .none, .bool false, .none] } : Obj)) : ObjOk P w H h e (exq e C t d) :=
  ⟨he, ⟨_, he⟩, fun h1 h2 z k => k _ z⟩
theorem exq_at {P : Program} {w : World} {H : Hp} {h : Heap} {e C t : Addr} {d : Option Addr} (hok : HOk P w H h) (he : H e = some (exq e C t d)) : h.get? e = some ({ cls := .ref C, dict := d, data := .fields #[.ref t, .none, .none, .none, .bool false, .none] } : Obj) := by
  have x : ObjOk P w H h e (.ext fun h => h.get? e = some ({ cls := .ref C, dict := d, data := .fields #[.ref t, .none, .none, .none, .bool false, .none] } : Obj)) := hok e _ he
  exact x.1
/-- what the written part says of the class: C its place, f its field -/
structure ClsK (K : PySem.W.Frag) (C : Addr) (f : Str) (B newId initId : String) (bmB : List Value) : Prop where
  fb : ExcBaseFacts B newId initId bmB
  sf : StoreFacts B bmB "object.__setattr__" "object"
  cls : PySem.W.excInitIn K C bmB newId = true
  over : PySem.W.excOver K C bmB = true
  tk : PySem.W.takerIn K C f = some none
  hd : PySem.W.hasDictIn K C = true
  sa : PySem.W.findIn K (.ref C) "__setattr__" = some (some (.builtin "object.__setattr__"))
  ga : PySem.W.findIn K (.ref C) "__getattribute__" = some (some (.builtin "BaseException.__getattribute__"))
  gg : PySem.W.findIn K (.ref C) "__getattr__" = some none
  exC : PySem.W.subIn K (.ref C) (.type "BaseException") = some true
  no : PySem.W.findIn K (.ref C) f = some none
  str : PySem.W.findIn K (.ref C) "__str__" = some (some (.builtin "BaseException.__str__"))
  cl : PySem.W.findIn K (.ref C) "__class__" = some (some (.builtin "object.__class__"))
  sg : PySem.W.specialIn K (.builtin "object.__class__") "__get__" = some (some (.builtin "getset_descriptor.__get__"))
  ti : PySem.W.takesIn K (.builtin "object.__class__") = some true
  mo : PySem.W.mroIn K C (.type "object") = some true
  kp : PySem.W.keepIn K (.ref C) = true
section
variable {X : Cx} {pins : List (Addr × Obj)} {σ : L2.St} {H : Hp} {s : Shared} {a C t0 : Addr} {f : Str} {y : V} {u : Value} {E : Value → Shared → Prop} {A : Around} {B newId initId : String} {bmB : List Value}
theorem base_init (T : ClsK X.K C f B newId initId bmB) (I : Inv X pins σ H s) (e : H a = some (exq a C t0 none)) {msg : Str} {tk : Tok} {Q : Value → Shared → Prop}
    (z : ∀ t1 s', H t1 = none → t1 ≠ a → Inv X pins σ (upd (upd H t1 (.tup [.str msg])) a (exq a C t1 none)) s' → Q .none s') :
    wpAny (model X.prog X.w) X.A (call (.builtin initId) [.ref a, .str msg tk]) Q E s := by
  obtain ⟨nm, N, q, bs, bm, hdct, sn, sub, ab, col, dd, k0, k1, k2, k3, k5, hC, hT⟩ := PySem.W.excInit_of I.kIn T.cls
  have ho := exq_at I.hok e
  obtain ⟨hp, g, d, t, os⟩ := s
  have hn : H hp.objs.size = none := I.hok.fresh (Nat.le_refl _)
  have na : hp.objs.size ≠ a := fun w => by rw [w, e] at hn; cases hn
  refine wpAny_call (init_told T.fb hT hC ho (rest := [.str msg tk]) (by show 1 ≤ sizeLine; decide) fun h' k hx => ?_)
  have I1 : Inv X pins σ (upd H hp.objs.size (.tup [.str msg])) ⟨hp.push (PySem.W.kdv_tup [.str msg tk]), g, d, t, os⟩ :=
    I.laid (t' := t) (fun b u e => Heap.get?_push_of_some _ e) (Nat.le_refl _) ⟨by show 1 ≤ sizeLine; decide, [.str msg tk], .cons ⟨_, rfl⟩ .nil, ⟨_, Heap.get?_push_size _ rfl, rfl, _, rfl⟩⟩
  have ea : (upd H hp.objs.size (.tup [.str msg])) a = some (exq a C t0 none) := by rw [upd_ne (Ne.symm na)]; exact e
  exact z hp.objs.size _ hn na (I1.write (t' := t) (x := a) (e := a) (o := exq a C hp.objs.size none) (by rw [ea]; exact True.intro) (.inl rfl) k ⟨_, hx⟩ (exq_ok hx))
theorem fld_set (T : ClsK X.K C f B newId initId bmB) (I : Inv X pins σ H s) (e : H a = some (exq a C t0 none)) (ry : RelV y u) {Q : Unit → Shared → Prop}
    (z : ∀ dx s', H dx = none → dx ≠ a → Inv X pins σ (upd (upd H dx (.xd [(f, y)])) a (exq a C t0 (some dx))) s' → Q () s') : wpAny (model X.prog X.w) A (setAttr (.ref a) f u) Q E s := by
  have ho := exq_at I.hok e
  obtain ⟨hp, g, d, t, os⟩ := s
  refine PySem.W.set_plain I.kIn (ox := { cls := .ref C, dict := none, data := .fields #[.ref t0, .none, .none, .none, .bool false, .none] }) (od := none) ⟨ho, rfl, rfl, trivial⟩ T.sa ?_
  refine store_first T.sf I.kIn ho T.over T.tk T.hd fun h' tk' dx k dn dne hx hns => ?_
  have free : H dx = none := I.hok.fresh dn
  have off : ∀ {b : Addr} {o : Obj}, hp.get? b = some o → b ≠ dx := fun {b o} q => Nat.ne_of_lt (Nat.lt_of_lt_of_le (Heap.lt_size q) dn)
  have offa : ∀ {b : Addr}, H b = none → b ≠ a := fun {b} n z => by rw [z, e] at n; cases n
  have un : Un X.fs [] H (upd (upd H dx (.xd [(f, y)])) a (exq a C t0 (some dx))) hp h' := {
    keep := fun b o q n _ _ => k b o (offa n) q
    slot := fun b o q n _ _ => ⟨o.slots, k b o (offa n) q⟩
    free := fun b o q n _ => (upd_ne (offa n)).trans ((upd_ne (off q)).trans n)
    there := fun b o q _ => by
      rcases Classical.em (b = a) with hb | hb
      · exact ⟨_, hb ▸ hx⟩
      · exact ⟨o, k b o hb q⟩
    tups := fun b xs q => (upd_ne (at_ne e q exq_tup)).trans ((upd_ne (ne_of_none q free)).trans q)
    frzs := fun b o v q => (upd_ne (at_ne e q exq_frz)).trans ((upd_ne (ne_of_none q free)).trans q)
    tbls := fun b ps q => ⟨#[], by rw [upd_ne (at_ne e q exq_tbl), upd_ne (ne_of_none q free), q, Array.append_empty]⟩ }
  refine z dx _ free dne (I.un (t' := tk') un fun b o q => ?_)
  rcases Classical.em (b = a) with hb | hb
  · subst hb
    rw [upd_same] at q
    cases q
    exact exq_ok hx
  · rw [upd_ne hb] at q
    rcases Classical.em (b = dx) with hd | hd
    · subst hd
      rw [upd_same] at q
      cases q
      exact ⟨_, hns, relO_put (fs := []) ry fun g => True.intro⟩
    · rw [upd_ne hd] at q
      refine (I.hok b o q).stay (fun c v hc z => k c v ?_ z) (fun c hc => (upd_ne (at_ne e hc exq_own)).trans ((upd_ne (ne_of_none hc free)).trans hc)) (fun c xs hc => (upd_ne (at_ne e hc exq_tup)).trans ((upd_ne (ne_of_none hc free)).trans hc))
      rcases hc with rfl | hc
      · exact hb
      · exact at_ne e hc exq_own
/-- its field -/
theorem fld_get (T : ClsK X.K C f B newId initId bmB) (I : Inv X pins σ H s) {t d : Addr} (e : H a = some (exq a C t (some d))) (ed : H d = some (.xd [(f, y)])) {Q : Value → Shared → Prop} (z : ∀ u s', Inv X pins σ H s' → RelV y u → Q u s') :
    wpAny (model X.prog X.w) A (getAttr (.ref a) f true) Q E s := by
  have ho := exq_at I.hok e
  have hx : ObjOk X.prog X.w H s.heap d (.xd [(f, y)]) := I.hok d _ ed
  obtain ⟨mA, hns, hr⟩ := hx
  obtain ⟨od, hod, hl⟩ := lookIn_ns hns
  have l : ([(f, y)] : List (Str × V)).lookup f = some y := by simp [List.lookup]
  obtain ⟨u, hu, ru⟩ := RelO.some_of (v := y) (o := mA f) (by rw [← l]; exact hr f)
  have J : PySem.W.InstAt s.heap a { cls := .ref C, dict := some d, data := .fields #[.ref t, .none, .none, .none, .bool false, .none] } C (some od) := ⟨ho, rfl, rfl, hod⟩
  exact HandSPX.exc_get I.kIn J T.ga T.gg T.exC (PySem.W.findObj_own T.hd T.no rfl (by rw [hl, hu])) (handed_of ru) (z u _ (I.tok _) ru)
/-- its text -/
theorem exc_str (T : ClsK X.K C f B newId initId bmB) (I : Inv X pins σ H s) {t : Addr} {d : Option Addr} (e : H a = some (exq a C t d)) {msg : Str} (et : H t = some (.tup [.str msg])) (hu : X.A.units + 2 < cLine) {Q : VK} (z : Q (.str msg) H) :
    wpAny (model X.prog X.w) X.A (call (.type "str") [.ref a]) (EP X pins σ Q) E s := by
  have ho := exq_at I.hok e
  have ht : ObjOk X.prog X.w H s.heap t (.tup [.str msg]) := I.hok t _ et
  obtain ⟨_, its, rv, p⟩ := ht
  obtain ⟨v0, rfl, r0⟩ := vals1 rv
  obtain ⟨tk, rfl⟩ := r0
  obtain ⟨o, h1, h2, n, h3⟩ := p
  exact PySem.P.str_of_C_one hu ⟨I.kIn, _, _, ho, rfl, rfl, rfl⟩ ⟨o, n, h1, h2, h3⟩ T.str T.exC ⟨.str msg, H, I, ⟨tk, rfl⟩, z⟩
/-- its kind -/
theorem exc_isi (T : ClsK X.K C f B newId initId bmB) (I : Inv X pins σ H s) {t d : Addr} {fs : List (Str × V)} (e : H a = some (exq a C t (some d))) (ed : H d = some (.xd fs)) {cv : Value} {b : Bool} (k : PySem.W.kitOne X.K (.ref C) cv = some b) {Q : VK} (z : Q (.bl b) H) :
    wpAny (model X.prog X.w) X.A (call (.builtin "isinstance") [.ref a, cv]) (EP X pins σ Q) E s := by
  have ho := exq_at I.hok e
  have hx : ObjOk X.prog X.w H s.heap d (.xd fs) := I.hok d _ ed
  obtain ⟨mA, hns, hr⟩ := hx
  obtain ⟨od, hod, hl⟩ := lookIn_ns hns
  have J : PySem.W.InstAt s.heap a { cls := .ref C, dict := some d, data := .fields #[.ref t, .none, .none, .none, .bool false, .none] } C (some od) := ⟨ho, rfl, rfl, hod⟩
  have hcl : (PySem.W.clsIn X.K C).isSome = true := by
    obtain ⟨cd, hc, _⟩ := PySem.W.any_some T.hd
    rw [hc] <;> rfl
  exact PySem.W.kia_one (PySem.W.kitx_exc hcl T.ga T.gg T.exC T.cl T.sg T.ti T.mo) I.kIn J k (fun z => nomatch z) fun tk => ⟨.bl b, H, I.kept (t' := tk) fun _ _ z => z, rfl, z⟩
end
end Ev

/-! An own exception class: made. -/
namespace Ev
open PySem PySem.Spec PyProof.Rows L2
/-! ### binding -/
abbrev initPs (f : Str) (a1 a2 : Option Expr) (p1 p2 : Pos) (ds : List Expr) : Arguments := { posonlyargs := [], args := [⟨"self", a1, p1⟩, ⟨f, a2, p2⟩], vararg := none, kwonlyargs := [], kw_defaults := [], kwarg := none, defaults := ds }
structure Bnds (K : PySem.W.Frag) (fd : FuncData) (f : Str) (opt : Bool) : Prop where
  pos : ∀ (s : Shared) (e u : Value), K.In s.heap → BindsTo s fd ⟨[e, u], []⟩ [("self", e), (f, u)]
  kw : ∀ (s : Shared) (e u : Value), K.In s.heap → BindsTo s fd ⟨[e], [(f, u)]⟩ [("self", e), (f, u)]
  no : opt = true → ∀ (s : Shared) (e : Value), K.In s.heap → BindsTo s fd ⟨[e], []⟩ [("self", e), (f, .none)]
theorem bnds_opt {K : PySem.W.Frag} {qual f : Str} {a1 a2 : Option Expr} {p1 p2 : Pos} {ds : List Expr} {body : List Stmt} {scope : Scope} {fI : Addr} {fd : FuncData} (F : FunD K "__init__" qual (initPs f a1 a2 p1 p2 ds) body scope [.non] [] fI fd) (hf : f = "value" ∨ f = "place") : Bnds K fd f true := by
  obtain ⟨oc, od, dV, kV, doc, pm, an, cdv, ct, osl, rfl, lk, hcd, hD, hK⟩ := F.ex
  rcases hD with ⟨e, _⟩ | ⟨_, Tt, o, its, n, rfl, lT, oT, rT⟩
  · cases e
  · cases rT with
    | cons r rr =>
      cases rr
      cases r
      have key : ∀ (args : Args) (bs : List (Str × Value)), (∃ k, bindArgs (PySem.W.fnOf "__init__" qual (initPs f a1 a2 p1 p2 ds) body scope (.ref Tt) kV doc pm an cdv ct) args = seqItems? (.ref Tt) >>= k ∧ k (some [Value.none].toArray) = pure bs) → ∀ s : Shared, K.In s.heap →
          BindsTo s (PySem.W.fnOf "__init__" qual (initPs f a1 a2 p1 p2 ds) body scope (.ref Tt) kV doc pm an cdv ct) args bs := fun args bs ⟨k, e1, e2⟩ s X => BindsTo.of_looks fun M => by
        rw [e1]
        exact looks_items X lT oT (PySem.W.Looks.of_pure e2)
      rcases hf with rfl | rfl
      · exact ⟨fun s e u X => key _ _ ⟨_, rfl, rfl⟩ s X, fun s e u X => key _ _ ⟨_, rfl, rfl⟩ s X, fun _ s e X => key _ _ ⟨_, rfl, rfl⟩ s X⟩
      · exact ⟨fun s e u X => key _ _ ⟨_, rfl, rfl⟩ s X, fun s e u X => key _ _ ⟨_, rfl, rfl⟩ s X, fun _ s e X => key _ _ ⟨_, rfl, rfl⟩ s X⟩
theorem bnds_most {K : PySem.W.Frag} {qual : Str} {a1 a2 : Option Expr} {p1 p2 : Pos} {ds : List Expr} {body : List Stmt} {scope : Scope} {fI : Addr} {fd : FuncData} (F : FunD K "__init__" qual (initPs "most" a1 a2 p1 p2 ds) body scope [] [] fI fd) : Bnds K fd "most" false := by
  obtain ⟨oc, od, dV, kV, doc, pm, an, cdv, ct, osl, rfl, lk, hcd, hD, hK⟩ := F.ex
  rcases hD with ⟨_, rfl⟩ | ⟨e, _⟩
  · exact ⟨fun s e u X => .of_eq rfl, fun s e u X => .of_eq rfl, fun z => by cases z⟩
  · exact absurd rfl e

/-! ### the body of __init__ -/
def spI (C : Addr) (msg f : Str) : Sp := fun vs H Q _ => ∃ (a t0 : Addr) (y : V), vs = [.ref a, y] ∧ H a = some (exq a C t0 none) ∧
  ∀ t1 d, H t1 = none → t1 ≠ a → H d = none → d ≠ a → d ≠ t1 → Q .non (upd (upd (upd (upd H t1 (.tup [.str msg])) a (exq a C t1 none)) d (.xd [(f, y)])) a (exq a C t1 (some d)))
/-- the base's __init__, found by its name -/
def Via (X : Cx) (via : Str) (initId : String) : Prop := ∀ (pins : List (Addr × Obj)) (σ : L2.St) (H : Hp) (s : Shared) (p1 : Pos) (pl : Sem Bool) (Q : Value × List Value → Shared → Prop) (E : Value → Shared → Prop), Inv X pins σ H s →
  (∀ tk, Q (.builtin initId, []) { s with toks := tk }) → wpAny (model X.prog X.w) X.A (eval (.Name via p1) X.env) (fun ov s1 => wpAny (model X.prog X.w) X.A (getMethod ov "__init__" pl) Q E s1) E s
theorem via_own {X : Cx} {via : Str} {initId : String} {RE : Addr} (hg : Gl X via) (hm : X.mg via = some (.ref RE)) (hd : (via == ("__debug__" : Str)) = false) (h1 : PySem.W.specialIn X.K (.ref RE) "__getattribute__" = some (some (.builtin "type.__getattribute__")))
    (h2 : PySem.W.readsIn X.K RE (.type "type") = true) (h3 : PySem.W.findCls X.K (.ref RE) (.type "type") "__init__" = some (.val (.builtin initId))) (hh : PySem.W.handedIn (.builtin initId) = true) : Via X via initId := fun pins σ H s p1 pl Q E I q =>
  ld_glob I hg hm (PySem.W.method_cls I.kIn h1 (PySem.W.cls_value I.kIn h2 h3 hh (q _))) hd
theorem via_blt {X : Cx} {T initId : String} {via : Str} (hg : Gl X via) (hm : X.mg via = none) (hv : bootBuiltins via = some (.type T)) (hn : via ≠ "__name__") (hd : (via == ("__debug__" : Str)) = false) (ty : typeOf (.type T) = pure (.type "type")) (st : Manifest.isStub T = false)
    (h3 : PySem.W.findCls X.K (.type T) (.type "type") "__init__" = some (.val (.builtin initId))) (hh : PySem.W.handedIn (.builtin initId) = true) : Via X via initId := fun pins σ H s p1 pl Q E I q => by
  refine ld_blt I hg hm hv ?_ hn hd
  obtain ⟨m, fr⟩ := I.fr
  exact PySem.W.method_type fr I.ok.mod.kin ty st h3 hh (q _)
abbrev initBody (via msg f : Str) (p1 p2 p3 p4 p5 p6 p7 p8 p9 p10 : Pos) (k0 : Nat) : List Stmt :=
  [.Expr (.Call (.Attribute (.Name via p1) "__init__" p2) [.Name "self" p3, .Constant (.str msg) k0 p4] [] p5) p6, .Assign [.Attribute (.Name "self" p7) f p8] (.Name f p9) p10]
section
variable {X : Cx} {C : Addr} {f msg via : Str} {B newId initId : String} {bmB : List Value} {p1 p2 p3 p4 p5 p6 p7 p8 p9 p10 pos : Pos} {k0 : Nat}
theorem method_eq {env : Env} (hl : (p2.endLine == pos.line) = true) : eval (.Call (.Attribute (.Name via p1) "__init__" p2) [.Name "self" p3, .Constant (.str msg) k0 p4] [] pos) env = (do
      let ov ← eval (.Name via p1) env
      standAt p2.atName
      let (f, first) ← holding [ov] (getMethod ov "__init__" (do return (← importBound (.Name via p1) env).getD true))
      callWith pos f first (backTo pos (starEach [.Name "self" p3, .Constant (.str msg) k0 p4] env)) (backToKw pos (keywordEach [] env))) := by
  have e : ∀ b, methodCallPos b (.Name via p1) env p2 pos = pure pos := fun b => by
    unfold methodCallPos
    rw [if_pos (by rw [hl, Bool.or_true])]
  show (do
    let ov ← eval (.Name via p1) env
    standAt p2.atName
    methodCall (.Name via p1) "__init__" p2 pos env ov 2 (backTo pos (starEach [.Name "self" p3, .Constant (.str msg) k0 p4] env)) (backToKw pos (keywordEach [] env))) = _
  unfold methodCall
  simp only [e, pure_bind]
  rfl
theorem base_call (hl : (p2.endLine == pos.line) = true) (T : ClsK X.K C f B newId initId bmB) (V : Via X via initId) (h0 : X.N[0]? = some ("self" : Str)) (v0 : Vis X.env.scope "self") :
    PE X (.Call (.Attribute (.Name via p1) "__init__" p2) [.Name "self" p3, .Constant (.str msg) k0 p4] [] pos) fun σ H Q => ∃ (a t0 : Addr), σ[0]? = some (some (.ref a)) ∧ H a = some (exq a C t0 none) ∧ ∀ t1, H t1 = none → t1 ≠ a → Q .non (upd (upd H t1 (.tup [.str msg])) a (exq a C t1 none)) := by
  refine ⟨fun pins s σ H Q I ⟨a, t0, e0, ea, z⟩ => ?_⟩
  refine PySem.W.methodCall_KW (V pins σ H s p1 _ _ _ I fun tk => ?_) (method_eq hl)
  have ha : PA X [.Name "self" p3, .Constant (.str msg) k0 p4] (tCons (tVar 0) (tCons (tC (.str msg)) tNil)) := pa_cons (pv 0 h0 v0) (pa_cons pe_str pa_nil)
  show wpAny _ _ (callWith pos (Value.builtin initId) [] (backTo pos (starEach [.Name "self" p3, .Constant (.str msg) k0 p4] X.env)) []) _ _ _
  refine PyProof.Rows.callWith_method1 (thn (ha.run pos pins _ σ H (fun vs H' => vs = [.ref a, .str msg] ∧ H' = H) (I.tok _) ⟨_, e0, rfl, rfl⟩) fun us s1 ⟨vs, H1, I1, r1, ev, eh⟩ => ?_) rfl rfl
  subst ev
  subst eh
  obtain ⟨u1, u2, rfl, q1, q2⟩ := vals2 r1
  obtain rfl : u1 = Value.ref a := q1
  obtain ⟨tk2, rfl⟩ := q2
  exact base_init T I1 ea fun t1 s' n ne J => ⟨.non, _, J, rfl, z t1 n ne⟩
theorem fld_asg (T : ClsK X.K C f B newId initId bmB) (h0 : X.N[0]? = some ("self" : Str)) (v0 : Vis X.env.scope "self") (h1 : X.N[1]? = some f) (v1 : Vis X.env.scope f) (d1 : (f == ("__debug__" : Str)) = false) (d2 : (f == ("__classdict__" : Str)) = false) :
    PS X (.Assign [.Attribute (.Name "self" p7) f p8] (.Name f p9) pos) fun E σ H => ∃ (a t1 : Addr) (y : V), σ[0]? = some (some (.ref a)) ∧ σ[1]? = some (some y) ∧ H a = some (exq a C t1 none) ∧ ∀ d, H d = none → d ≠ a → E.nx σ (upd (upd H d (.xd [(f, y)])) a (exq a C t1 (some d))) := by
  refine ⟨fun pins s σ H E I ⟨a, t1, y, e0, e1, ea, z⟩ => ?_⟩
  have pf : PE X (.Name f p9) (tVar 1) := pe_var h1 v1 d1 d2
  have p0 : PE X (.Name "self" p7) (tVar 0) := pv 0 h0 v0
  refine plainObj_wpAny_Assign_Attribute (thn (pf.run pins s σ H (fun v H' => v = y ∧ H' = H) I ⟨_, e1, rfl, rfl⟩) fun v s1 ⟨y1, H1, I1, r1, ey, eh⟩ => ?_) rfl
  subst ey
  subst eh
  refine thn (p0.run pins s1 σ H1 (fun v H' => v = .ref a ∧ H' = H1) I1 ⟨_, e0, rfl, rfl⟩) fun u s2 ⟨x, H2, I2, r2, ex, eh⟩ => ?_
  subst ex
  subst eh
  obtain rfl : u = Value.ref a := r2
  exact fld_set T I2 ea r1 fun dx s' n ne J => ⟨σ, _, J, z dx n ne⟩
end
section
variable {P : Program} {w : World} {K : PySem.W.Frag} {mg : Str → Option Value} {base : Heap}
theorem init_ok {qual f msg via : Str} {params : Arguments} {dvs : List V} {fI C : Addr} {fd : FuncData} {B newId initId : String} {bmB : List Value} {p1 p2 p3 p4 p5 p6 p7 p8 p9 p10 : Pos} {k0 : Nat} {scope : Scope}
    (F : FunD K "__init__" qual params (initBody via msg f p1 p2 p3 p4 p5 p6 p7 p8 p9 p10 k0) scope dvs [] fI fd) (S : FnScope ["self", f] ["self", f] scope) (T : ClsK K C f B newId initId bmB) (d1 : (f == ("__debug__" : Str)) = false) (d2 : (f == ("__classdict__" : Str)) = false)
    (V : ∀ X : Cx, X.prog = P → X.w = w → X.K = K → X.mg = mg → X.env.scope = scope → Via X via initId) (hl : (p2.endLine == p5.line) = true) : FnOk P w K mg base L2.CX0 1 fI fd ["self", f] (spI C msg f) := by
  have vis : ∀ {x : Str}, x ∈ (["self", f] : List Str) → Vis scope x := fun {x} h => by
    rcases S.par x h with z | z
    · exact .inl z
    · exact .inr (.inl z)
  have v0 : Vis scope "self" := vis (by simp)
  have v1 : Vis scope f := vis (by simp)
  refine F.ok S (fun vs H Q E ⟨a, t0, y, e, _⟩ => by rw [e] <;> rfl) fun cdv A outer s H vs Q E hr ⟨a, t0, y, ev, ea, z⟩ => ?_
  subst ev
  refine ⟨_, PSs.nox (pss_cons (ps_expr (base_call hl (X := (cxOf L2.CX0 P w K mg base ["self", f] qual scope fI cdv A outer s H E).nox) T (V _ rfl rfl rfl rfl rfl) rfl v0) rfl) (pss_one (fld_asg (X := (cxOf L2.CX0 P w K mg base ["self", f] qual scope fI cdv A outer s H E).nox) T rfl v0 rfl v1 d1 d2))), ?_⟩
  refine ⟨a, t0, rfl, ea, fun t1 n1 na => ?_⟩
  refine ⟨a, t1, y, rfl, rfl, upd_same, fun d nd nda => ?_⟩
  have ndt : d ≠ t1 := fun e => by
    rw [upd_ne nda, e, upd_same] at nd
    cases nd
  have nd : H d = none := by
    rw [upd_ne nda, upd_ne ndt] at nd
    exact nd
  exact z t1 d n1 na nd nda ndt
end
end Ev

/-! An own exception class: all that the machine asks. -/
namespace Ev
open PySem PySem.Spec PyProof.Rows L2
section
variable {X : Cx} {pins : List (Addr × Obj)} {σ : L2.St} {H : Hp} {C fI : Addr} {f msg : Str} {B newId initId : String} {bmB : List Value} {fd : FuncData} {Q : VK}
theorem run_init (T : ClsK X.K C f B newId initId bmB) (F1 : FnOk X.prog X.w X.K X.mg X.base L2.CX0 1 fI fd ["self", f] (spI C msg f)) (hr : Room 2 X.A) {hp : Heap} {g : Array GenState} {dr : Drawn} {tk : Nat} {os : OsState} (I : Inv X pins σ H ⟨hp, g, dr, tk, os⟩)
    {us : List Value} {kw : List (Str × Value)} {u : Value} {y : V} (hb : ∀ s : Shared, X.K.In s.heap → BindsTo s fd ⟨.ref (hp.objs.size + 1) :: us, kw⟩ [("self", .ref (hp.objs.size + 1)), (f, u)]) (ry : RelV y u)
    (z : ∀ e t d, H e = none → H t = none → H d = none → e ≠ t → e ≠ d → t ≠ d → Q (.ref e) (upd (upd (upd H t (.tup [.str msg])) d (.xd [(f, y)])) e (exq e C t (some d)))) {R : Result → Shared → Prop} (hR : ∀ s', EP X pins σ Q (.ref (hp.objs.size + 1)) s' → R (.ok (.ret (.ref (hp.objs.size + 1)))) s') :
    codeAny (model X.prog X.w) (X.A.under (.builtin "type.__call__" ⟨.ref C :: us, kw⟩)) (.call (.ref fI) ⟨.ref (hp.objs.size + 1) :: us, kw⟩) (PySem.W.InitBack (hp.objs.size + 1) R) ⟨(hp.push (PySem.W.kdv_tup us)).push (PySem.HandSPX.excO C hp.objs.size), g, dr, tk, os⟩ := by
  have big : hp.objs.size ≤ hp.objs.size + 1 := Nat.le_succ _
  have free : H (hp.objs.size + 1) = none := I.hok.fresh big
  have kk : ∀ b o, hp.get? b = some o → ((hp.push (PySem.W.kdv_tup us)).push (PySem.HandSPX.excO C hp.objs.size)).get? b = some o := fun b o e => Heap.get?_push_of_some _ (Heap.get?_push_of_some _ e)
  have new1 : ((hp.push (PySem.W.kdv_tup us)).push (PySem.HandSPX.excO C hp.objs.size)).get? (hp.objs.size + 1) = some (PySem.HandSPX.excO C hp.objs.size) := by heap_get
  have I2 : Inv X pins σ (upd H (hp.objs.size + 1) (exq (hp.objs.size + 1) C hp.objs.size none)) ⟨(hp.push (PySem.W.kdv_tup us)).push (PySem.HandSPX.excO C hp.objs.size), g, dr, tk, os⟩ :=
    I.laid (t' := tk) (a := hp.objs.size + 1) (o := exq (hp.objs.size + 1) C hp.objs.size none) (h' := (hp.push (PySem.W.kdv_tup us)).push (PySem.HandSPX.excO C hp.objs.size)) kk big (exq_ok new1)
  refine codeAny_mono (F1.run _ X.stack _ (upd H (hp.objs.size + 1) (exq (hp.objs.size + 1) C hp.objs.size none)) ⟨.ref (hp.objs.size + 1) :: us, kw⟩ [.ref (hp.objs.size + 1), u] [.ref (hp.objs.size + 1), y]
    (fun v H2 => v = .non ∧ Q (.ref (hp.objs.size + 1)) H2) (fun _ _ _ => False) (hr.make C us kw) (I2.env0.make C us kw) (hb _ I2.kIn) (.cons rfl (.cons ry .nil))
    ⟨hp.objs.size + 1, hp.objs.size, y, rfl, upd_same, fun t1 d n1 na nd nda ndt => ⟨rfl, ?_⟩⟩) fun r s' q => ?_
  · rw [upd_ne na] at n1
    rw [upd_ne nda] at nd
    have e : upd (upd (upd (upd (upd H (hp.objs.size + 1) (exq (hp.objs.size + 1) C hp.objs.size none)) t1 (.tup [.str msg])) (hp.objs.size + 1) (exq (hp.objs.size + 1) C t1 none)) d (.xd [(f, y)])) (hp.objs.size + 1) (exq (hp.objs.size + 1) C t1 (some d))
        = upd (upd (upd H t1 (.tup [.str msg])) d (.xd [(f, y)])) (hp.objs.size + 1) (exq (hp.objs.size + 1) C t1 (some d)) := by
      funext b
      by_cases h1 : b = hp.objs.size + 1
      · rw [h1, upd_same, upd_same]
      · rw [upd_ne h1, upd_ne h1]
        by_cases h2 : b = d
        · rw [h2, upd_same, upd_same]
        · rw [upd_ne h2, upd_ne h2, upd_ne h1]
          by_cases h3 : b = t1
          · rw [h3, upd_same, upd_same]
          · rw [upd_ne h3, upd_ne h3, upd_ne h1]
    rw [e]
    exact z _ t1 d free n1 nd (Ne.symm na) (Ne.symm nda) (Ne.symm ndt)
  · cases r with
    | error er => exact q.elim
    | ok fl =>
      cases fl with
      | ret v =>
        obtain ⟨v0, H2, os2, bare2, un2, hok2, rv, ev, q2⟩ := q
        subst ev
        exact ⟨rv, hR s' ⟨.ref (hp.objs.size + 1), H2, I2.call' (ch := []) os2 un2 hok2 bare2 (fun b z => absurd z (by simp)), rfl, q2⟩⟩
      | next => exact q.elim
      | brk => exact q.elim
      | cont => exact q.elim
end
theorem xOk_of {P : Program} {w : World} {K : PySem.W.Frag} {mg : Str → Option Value} {base : Heap} {c : Str} {x : ExI} {fI : Addr} {fd : FuncData} {B newId initId : String} {bmB : List Value} (T : ClsK K (He.ga K c) x.fld B newId initId bmB)
    (hi : PySem.W.findIn K (.ref (He.ga K c)) "__init__" = some (some (.ref fI))) (ht : PySem.W.typeIn K (.ref fI) = some (.type "function")) (F1 : FnOk P w K mg base L2.CX0 1 fI fd ["self", x.fld] (spI (He.ga K c) x.msg x.fld)) (hb : Bnds K fd x.fld x.opt) : XOk P w K mg base c x where
  kp := T.kp
  made := by
    intro X pins σ H s us kw y Q e1 e2 e3 e4 e5 I hr args z
    subst e1 e2 e3 e4 e5
    obtain ⟨hp, g, dr, tk, os⟩ := s
    obtain ⟨nm, N, q, bs, bm, hdct, sn, sub, ab, col, dd, k0, k1, k2, k3, k5, hC, hT⟩ := PySem.W.excInit_of I.kIn T.cls
    have r2 : Room 2 X.A := hr.mono (by omega)
    have li := PySem.W.looks_findIn (M := model X.prog X.w) I.kIn hi
    have lb : ∀ self, PySem.W.Looks (model X.prog X.w) hp (bindSpecial (.ref fI) self) (.ref fI, [self]) := fun self => PySem.W.bind_fn I.kIn self ht
    rcases args with ⟨u, rfl, rfl, ry⟩ | ⟨u, rfl, rfl, ry⟩ | ⟨rfl, rfl, ho, rfl⟩
    · exact wpAny_call (PySem.HandSPX.call_own T.fb hT hC li lb (show 1 ≤ sizeLine by decide) (run_init T F1 r2 I (fun s X => hb.pos s _ u X) ry z fun s' q => q))
    · exact wpAny_call (kw_call T.fb hT hC li lb (run_init T F1 r2 I (fun s X => hb.kw s _ u X) ry z fun s' q => q))
    · exact wpAny_call (PySem.HandSPX.call_own T.fb hT hC li lb (Nat.zero_le _) (run_init T F1 r2 I (fun s X => hb.no ho s _ X) (y := .non) rfl z fun s' q => q))
  get := by
    intro X pins σ H s e t d y Q E e1 e2 e3 I he hd z
    subst e1 e2 e3
    exact fld_get T I he hd z
  str := by
    intro X pins σ H s e t d Q e1 e2 e3 I hr he htt z
    subst e1 e2 e3
    exact exc_str T I he htt (by have := hr.un; omega) z
  isi := by
    intro X pins σ H s e t d fs cv b Q e1 e2 e3 I he hd k z
    subst e1 e2 e3
    exact exc_isi T I he hd k z
end Ev

/-! The machine's steps as rules, for data that are not closed. -/
namespace Ev
open PySem PySem.Spec PyProof.Rows L2
section
variable {m : Md} {call : CallF} {n : Nat} {c : Cf} {δ δ1 : Dv} {S S1 S2 S3 : List Ob} {x y d v : D} {a b e t : Expr} {p pos : Pos} {r : Bool}
theorem call_run {k : Nat} {f : Str} {di : DefI} {xs : List D} (h : m.defs f = some di) : callN m (k + 1) f xs S = runD m (callN m k) di xs S := by
  show (match m.defs f with | some di => runD m (callN m k) di xs S | none => none) = _
  rw [h]
theorem run_ret {di : DefI} {xs : List D} (hl : xs.length = di.ps.length) (h : exSs (exS m call FUEL ⟨di.N, defScope di.st, true⟩) (startD di.N xs) S (defBody di.st) = some (.ret d S1)) : runD m call di xs S = some (d, S1) := by
  unfold runD
  rw [if_pos hl, h]
theorem ss_cons {ex : Dv → List Ob → Stmt → Option Out} {st : Stmt} {rest : List Stmt} {o : Option Out} (h : ex δ S st = some (.nx δ1 S1)) (h2 : exSs ex δ1 S1 rest = o) : exSs ex δ S (st :: rest) = o := by
  unfold exSs
  rw [h]
  exact h2
theorem ss_ret {ex : Dv → List Ob → Stmt → Option Out} {st : Stmt} {rest : List Stmt} (h : ex δ S st = some (.ret d S1)) : exSs ex δ S (st :: rest) = some (.ret d S1) := by
  unfold exSs
  rw [h]
theorem ss_nil {ex : Dv → List Ob → Stmt → Option Out} : exSs ex δ S [] = some (.nx δ S) := rfl
theorem st_ret (h : evE m call n c (frz c [e] δ) S e = some (d, S1)) : exS m call (n + 1) c δ S (.Return (some e) pos) = some (.ret d S1) := by
  show (match evE m call n c (frz c [e] δ) S e with | none => none | some (d, S1) => some (Out.ret d S1)) = _
  rw [h]
theorem st_asg {z : Str} {i : Nat} (ne : isEmptyList e = false) (hc : (isTg c z && !isComp e) = true) (hi : idx c.N z = some i) (h : evE m call n c (frz c [e] δ) S e = some (d, S1)) : exS m call (n + 1) c δ S (.Assign [.Name z p] e pos) = some (.nx ((frz c [e] δ).set i (some (.val d))) S1) := by
  cases e with
  | List es pp =>
    cases es with
    | nil => cases ne
    | cons _ _ =>
      unfold exS
      simp only [hc, h, hi, Option.map_some, if_true]
  | _ =>
    unfold exS
    simp only [hc, h, hi, Option.map_some, if_true]
theorem ev_nm {z : Str} (h : evN m c δ z = some d) : evE m call (n + 1) c δ S (.Name z p) = some (d, S) := by
  show (evN m c δ z).map (fun d => (d, S)) = _
  rw [h] <;> rfl
theorem ev_ct {k : Const} {j : Nat} (h : cst k = some d) : evE m call (n + 1) c δ S (.Constant k j p) = some (d, S) := by
  show (cst k).map (fun d => (d, S)) = _
  rw [h] <;> rfl
theorem ev_bin {op : Operator} (h1 : evE m call n c δ S a = some (x, S1)) (h2 : evE m call n c δ S1 b = some (y, S2)) (h3 : binD op x y = some d) : evE m call (n + 1) c δ S (.BinOp a op b p) = some (d, S2) := by
  unfold evE
  simp only [h1, h2, h3, Option.map_some]
theorem ev_ix (hs : ∀ l h s q, b ≠ .Slice l h s q) (hp : plainIx b = true) (h1 : evE m call n c δ S a = some (x, S1)) (h2 : evE m call n c δ S1 b = some (y, S2)) (h3 : ixD S2 x y = some d) : evE m call (n + 1) c δ S (.Subscript a b p) = some (d, S2) := by
  cases b <;> first | (exact absurd rfl (hs _ _ _ _)) | (unfold evE; simp only [h1, h2, h3, hp, Option.map_some, if_true])
theorem ev_if (h : evT (evE m call n c δ) n S t = some (r, S1)) (h2 : evE m call n c δ S1 (if r = true then a else b) = some (d, S2)) : evE m call (n + 1) c δ S (.IfExp t a b p) = some (d, S2) := by
  unfold evE
  simp only [h]
  cases r <;> exact h2
theorem ev_cmpT {ev : EvF} {op : CmpOp} (h1 : ev S a = some (x, S1)) (h2 : ev S1 b = some (y, S2)) (h3 : cmpD op x y = some r) : evT ev (n + 1) S (.Compare a [op] [b] p) = some (r, S2) := by
  unfold evT
  simp only [h1, h2, h3, Option.map_some]
theorem ev_call {f : Str} {args : List Expr} {di : DefI} {xs : List D} (h0 : (dbg f || !isGl c.sc f) = false) (hd : m.defs f = some di) (ha : args.isEmpty = false) (h1 : evL (evE m call n c δ) S args = some (xs, S1)) (hl : xs.length = di.ps.length) (h2 : call f xs S1 = some (d, S2)) :
    evE m call (n + 1) c δ S (.Call (.Name f p) args [] pos) = some (d, S2) := by
  unfold evE
  simp only [h0, hd, ha, h1, h2, List.isEmpty_nil, Bool.not_false, Bool.and_self, if_true, Bool.false_eq_true, if_false, hl, decide_true]
theorem evL_nil {ev : EvF} : evL ev S [] = some ([], S) := rfl
theorem evL_cons {ev : EvF} {es : List Expr} {xs : List D} (hs : isStar e = false) (h1 : ev S e = some (x, S1)) (h2 : evL ev S1 es = some (xs, S2)) : evL ev S (e :: es) = some (x :: xs, S2) := by
  unfold evL
  simp only [hs, h1, h2, Bool.false_eq_true, if_false]
theorem ev_lst {es : List Expr} {xs : List D} (h1 : evL (evE m call n c δ) S es = some (xs, S1)) (hz : sizeB xs.length = true) : evE m call (n + 1) c δ S (.List es p) = some (.lst xs, S1) := by
  unfold evE
  simp only [h1, hz, if_true]
theorem ev_tup {es : List Expr} {j : Nat} {xs : List D} (h1 : evL (evE m call n c δ) S es = some (xs, S1)) (hz : sizeB xs.length = true) : evE m call (n + 1) c δ S (.Tuple es j p) = some (.tup xs, S1) := by
  unfold evE
  simp only [h1, hz, if_true]
theorem evP_nil {ev : EvF} : evP ev S [] [] = some ([], S) := rfl
theorem evP_cons {ev : EvF} {ke ve : Expr} {ks : List (Option Expr)} {vs : List Expr} {s : Str} {kvs : List (Key × D)} (h1 : ev S ke = some (.str s, S1)) (h2 : ev S1 ve = some (y, S2)) (h3 : evP ev S2 ks vs = some (kvs, S3)) : evP ev S (some ke :: ks) (ve :: vs) = some ((.inr s, y) :: kvs, S3) := by
  unfold evP
  simp only [h1, h2, h3]
theorem ev_dic {ks : List (Option Expr)} {vs : List Expr} {kvs kw : List (Key × D)} (hc : (ks.all (·.isSome) && decide (ks.length = vs.length) && !ks.isEmpty) = true) (h1 : evP (evE m call n c δ) S ks vs = some (kvs, S1)) (hl : decide (kvs.length ≤ 15) = true) (hk : kvs.foldl (fun acc kv => putD acc kv.1 kv.2) [] = kw) :
    evE m call (n + 1) c δ S (.Dict ks vs p) = some (.ref S1.length, S1 ++ [.dic kw]) := by
  subst hk
  unfold evE
  simp only [hc, h1, hl, if_true]
theorem st_if {aa bb : List Stmt} {o : Option Out} (h : evT (evE m call n c (frz c [t] δ)) n S t = some (r, S1)) (h2 : exSs (exS m call n c) (frz c [t] δ) S1 (if r = true then aa else bb) = o) : exS m call (n + 1) c δ S (.If t aa bb pos) = o := by
  unfold exS
  simp only [h]
  cases r <;> exact h2
theorem st_put {z key : Str} {k e : Expr} {q p2 : Pos} {j : Nat} {kvs kw : List (Key × D)} (hc : (plainIx k && !isComp e) = true) (h1 : evE m call n c (frz c [e, k] δ) S e = some (v, S1)) (hn : evN m c (frz c [e, k] δ) z = some (.ref j)) (h2 : evE m call n c (frz c [e, k] δ) S1 k = some (.str key, S2))
    (h3 : S2[j]? = some (.dic kvs)) (hz : decide (kvs.length < 16777216) = true) (hk : putD kvs (.inr key) v = kw) : exS m call (n + 1) c δ S (.Assign [.Subscript (.Name z p) k q] e p2) = some (.nx (frz c [e, k] δ) (S2.set j (.dic kw))) := by
  subst hk
  unfold exS
  simp only [hc, h1, hn, h2, h3, hz, if_true]
theorem st_for {tg it : Expr} {body : List Stmt} {ds : List D} {o : Option Out} (hc : (notSet it && tgOk c tg && forOk tg it) = true) (hi : evI m call n c (frz c [it] δ) S it = some (ds, S1)) (h : evFor (bindT c tg) (fun δ S => exSs (exS m call n c) δ S body) ds (frz c [it] δ) S1 = o) :
    exS m call (n + 1) c δ S (.For tg it body [] pos) = o := by
  unfold exS
  simp only [hc, hi, if_true]
  exact h
theorem for_nil {bind : D → Dv → Option Dv} {body : Dv → List Ob → Option Out} : evFor bind body [] δ S = some (.nx δ S) := rfl
theorem for_cons {bind : D → Dv → Option Dv} {body : Dv → List Ob → Option Out} {δ2 : Dv} {ds : List D} {o : Option Out} (h1 : bind d δ = some δ1) (h2 : body δ1 S = some (.nx δ2 S2)) (h3 : evFor bind body ds δ2 S2 = o) : evFor bind body (d :: ds) δ S = o := by
  unfold evFor
  rw [h1]
  dsimp only
  rw [h2]
  exact h3
end
end Ev

namespace K99
open PySem PySem.Spec PyProof.Rows L2 Ev
def top (i : Nat) : Stmt := PySem.Challenge.pw_everyreal_k99_errors_by_hand.main.body.getD i (.Pass ⟨0, 0, 0, 0⟩)
def defsL : List (Str × DefI) := [
  ("_law_mixed", ⟨["cell", "k"], ["cell", "k", "number"], top 27⟩),
  ("_law_draw", ⟨["cell", "k"], ["cell", "k"], top 28⟩),
  ("_law_digit", ⟨["state", "below"], ["state", "below", "j", "found"], top 29⟩),
  ("_law_kinds", ⟨["e"], ["e", "some", "word", "is_so"], top 30⟩),
  ("_law_valued", ⟨["thing"], ["thing", "found"], top 31⟩),
  ("_law_placed", ⟨["thing"], ["thing", "found"], top 32⟩),
  ("_law_right", ⟨["thing"], ["thing", "one", "other", "name"], top 33⟩),
  ("law", ⟨["script"], ["script", "k", "cell", "state", "number", "some", "others", "e", "rows", "thing", "made", "one", "other", "name"], top 34⟩)]
def real : List (Str × Str × Str) := [
  ("BadFraction", "value", "no such fraction"), ("BadName", "value", "no such name"), ("BadNumber", "value", "no such number"), ("BadPolynomial", "place", "no such polynomial"),
  ("BadFormula", "place", "no such formula"), ("BadTheory", "place", "no such theory"), ("BadPoint", "place", "no such point"), ("BadTower", "place", "no such tower"),
  ("BadTable", "place", "no such table"), ("BadStretches", "place", "no such stretches"), ("BadTest", "place", "no such test point"), ("BadAtoms", "place", "no such atoms"),
  ("BadWitness", "place", "no such numbers"), ("BadPlan", "place", "no such plan"), ("BadCase", "place", "no such case"), ("BadRows", "place", "no such rows"),
  ("BadBytes", "place", "no such bytes"), ("BadTask", "place", "no such task"), ("BadFigure", "place", "no such figure"), ("BadText", "place", "no such text"),
  ("BadPaper", "place", "no such paper"), ("BadDeed", "place", "no such deed")]
def exs2 : List (Str × ExI) := [("TooMany", ⟨"most", "too many", false, "OverflowError", "OverflowError"⟩), ("NoSuch", ⟨"value", "nothing so called", true, "LookupError", "LookupError"⟩)]
def exsL : List (Str × ExI) := real.map (fun r => ((r.1, (⟨r.2.1, r.2.2, true, "ValueError", "RealError"⟩ : ExI)) : Str × ExI)) ++ exs2
def md : Md where
  defs := fun x => defsL.lookup x
  exs := fun x => exsL.lookup x
  own := fun x => x == "RealError"
  bty := fun x => if x == "ValueError" then some "ValueError" else if x == "LookupError" then some "LookupError" else if x == "OverflowError" then some "OverflowError" else none
  bfn := fun x => (["isinstance", "sum", "str", "enumerate", "range"] : List Str).contains x
  sub := fun x => if x == "TooMany" || x == "NoSuch" then [x] else [x, "RealError"]
  subT := fun x => if x == "TooMany" then ["OverflowError", "ArithmeticError", "Exception", "BaseException", "object"] else if x == "NoSuch" then ["LookupError", "Exception", "BaseException", "object"] else ["ValueError", "Exception", "BaseException", "object"]
  tyk := fun t => ["ValueError", "LookupError", "OverflowError"].contains t
def isTrue? : Option (D × List Ob) → Bool
  | some (.bl true, _) => true
  | _ => false
end K99

/-! The law's text: what the head tells of it. -/
namespace K99
open PySem PySem.Spec PyProof.Rows L2 Ev
def clsBody : Stmt → List Stmt
  | .ClassDef (body := b) .. => b
  | _ => []
def initS (i : Nat) : Stmt := (clsBody (top i)).getD 0 (.Pass ⟨0, 0, 0, 0⟩)
/-- the classes with their places -/
def exsI : List (Str × ExI × Nat) := exsL.mapIdx fun i r => (r.1, r.2, i + 2)
/-- what a class's __init__ must be -/
def initChk (x : ExI) (st : Stmt) : Bool := match defBody st, defArgs st with
  | [.Expr (.Call (.Attribute (.Name via _) m p2) [.Name s _, .Constant (.str msg) _ _] [] p5) _, .Assign [.Attribute (.Name s2 _) f _] (.Name f2 _) _],
    ⟨[], [⟨s3, _, _⟩, ⟨f3, _, _⟩], none, [], [], none, _⟩ =>
      decide (via = x.via) && decide (m = "__init__") && decide (s = "self") && decide (msg = x.msg) && decide (s2 = "self") && decide (f = x.fld) && decide (f2 = x.fld) && decide (s3 = "self") && decide (f3 = x.fld) && (p2.endLine == p5.line)
        && isGl (defScope st) x.via && C8.scC (["self", x.fld] : List Str) (["self", x.fld] : List Str) (defScope st)
  | _, _ => false
def bmV : List Value := [.type "ValueError", .type "Exception", .type "BaseException", .type "object"]
def bmO : List Value := [.type "OverflowError", .type "ArithmeticError", .type "Exception", .type "BaseException", .type "object"]
def bmL : List Value := [.type "LookupError", .type "Exception", .type "BaseException", .type "object"]
def clsB (K : PySem.W.Frag) (C : Addr) (f : Str) (newId : String) (bmB : List Value) : Bool :=
  PySem.W.excInitIn K C bmB newId && PySem.W.excOver K C bmB && decide (PySem.W.takerIn K C f = some none) && PySem.W.hasDictIn K C && decide (PySem.W.findIn K (.ref C) "__setattr__" = some (some (.builtin "object.__setattr__")))
    && decide (PySem.W.findIn K (.ref C) "__getattribute__" = some (some (.builtin "BaseException.__getattribute__"))) && decide (PySem.W.findIn K (.ref C) "__getattr__" = some none) && decide (PySem.W.subIn K (.ref C) (.type "BaseException") = some true)
    && decide (PySem.W.findIn K (.ref C) f = some none) && decide (PySem.W.findIn K (.ref C) "__str__" = some (some (.builtin "BaseException.__str__"))) && decide (PySem.W.findIn K (.ref C) "__class__" = some (some (.builtin "object.__class__")))
    && decide (PySem.W.mroIn K C (.type "object") = some true) && PySem.W.keepIn K (.ref C)
    && decide (PySem.W.findIn K (.ref C) "__init__" = some (some (.ref (He.ma K C "__init__")))) && decide (PySem.W.typeIn K (.ref (He.ma K C "__init__")) = some (.type "function"))
def isVal (o : Option PySem.W.CFound) (id : String) : Bool := match o with
  | some (.val (.builtin n)) => decide (n = id)
  | _ => false
def baseB (K : PySem.W.Frag) (x : ExI) (C : Addr) : Bool :=
  if x.base = "ValueError" then clsB K C x.fld "ValueError.__new__" bmV && decide (x.via = "RealError")
  else if x.base = "OverflowError" then clsB K C x.fld "OverflowError.__new__" bmO && decide (x.via = "OverflowError")
  else if x.base = "LookupError" then clsB K C x.fld "LookupError.__new__" bmL && decide (x.via = "LookupError")
  else false
def kinds : List Str := exsL.map (·.1) ++ (["RealError"] : List Str)
def tys : List String := ["ValueError", "LookupError", "OverflowError"]
def ex (K : PySem.W.Frag) : Bool :=
  (exsL.all fun r => baseB K r.2 (He.ga K r.1) && (kinds.all fun d => decide (PySem.W.kitOne K (.ref (He.ga K r.1)) (.ref (He.ga K d)) = some ((md.sub r.1).contains d))) && (tys.all fun t => decide (PySem.W.kitOne K (.ref (He.ga K r.1)) (.type t) = some ((md.subT r.1).contains t))))
    && decide (PySem.W.specialIn K (.builtin "object.__class__") "__get__" = some (some (.builtin "getset_descriptor.__get__"))) && decide (PySem.W.takesIn K (.builtin "object.__class__") = some true)
    && decide (PySem.W.specialIn K (.ref (He.ga K "RealError")) "__getattribute__" = some (some (.builtin "type.__getattribute__"))) && PySem.W.readsIn K (He.ga K "RealError") (.type "type")
    && isVal (PySem.W.findCls K (.ref (He.ga K "RealError")) (.type "type") "__init__") "ValueError.__init__" && isVal (PySem.W.findCls K (.type "OverflowError") (.type "type") "__init__") "OverflowError.__init__"
    && isVal (PySem.W.findCls K (.type "LookupError") (.type "type") "__init__") "LookupError.__init__"
def defD (r : Str × DefI) : He.DefD := ⟨(r.1, none), r.1, r.1, defArgs r.2.st, defBody r.2.st, defScope r.2.st, [], []⟩
def initD (r : Str × ExI × Nat) : He.DefD := ⟨(r.1, some "__init__"), "__init__", r.1 ++ ".__init__", defArgs (initS r.2.2), defBody (initS r.2.2), defScope (initS r.2.2), (if r.2.1.opt then [.non] else []), []⟩
def fn : List He.DefD := defsL.map defD ++ exsI.map initD
def frees : List Str := ["isinstance", "sum", "str", "enumerate", "range", "ValueError", "LookupError", "OverflowError"]
def fa : List He.Fa := (kinds ++ defsL.map (fun r => r.1) : List Str).map He.Fa.glo ++ frees.map He.Fa.free
abbrev R : PySem.W.OpenRow := PySem.W.OpenLaw.row PySem.Challenge.rw_everyreal_k99_errors_by_hand
/-- what the names reach, and the interpreter's own table -/
def asS (g : Addr → Option Obj) (n : Nat) : List Addr := He.asD g n ++ [cStatics]
def obsS (ex : PySem.W.Frag → Bool) (g : Addr → Option Obj) : He.AlD × Bool := (He.obsD fa fn (He.frG g (asS g 6)), ex (He.frG g (asS g 6)))
def hookS (ex : PySem.W.Frag → Bool) : PySem.W.Hook where
  α := He.AlD × Bool
  obs := fun s => obsS ex s.heap.get?
  val := fun _ => (He.valD fn, true)
  says := fun _ h => ∃ K : PySem.W.Frag, K.In h ∧ He.SaysD fa fn K ∧ ex K = true
  of := fun _ _ e => ⟨_, He.frG_in, congrArg (fun z : He.AlD × Bool => z.1) e, congrArg (fun z : He.AlD × Bool => z.2) e⟩
  keeps := fun _ _ _ ⟨K, hK, c⟩ k => ⟨K, PySem.W.Frag.In.keeps hK k, c⟩
abbrev hk : PySem.W.Hook := hookS ex
def ob (s : PySem.W.SharedT) : He.AlD × Bool := obsS ex (HandSHeadRun.getT s)
theorem ob_eq (s : PySem.W.SharedT) : ob s = hk.obs s.abs := by
  have e : HandSHeadRun.getT s = s.abs.heap.get? := funext (HandSHeadRun.getT_eq s)
  unfold ob
  rw [e] <;> rfl
def loose : List Str := kinds ++ (defsL.map (fun r => r.1) : List Str).filter (fun (x : Str) => decide (x ≠ ("law" : Str)))
theorem inits_ok : exsI.all (fun r => initChk r.2.1 (initS r.2.2)) = true := by decide +kernel
end K99

namespace K99
open PySem PySem.Spec PyProof.Rows L2 Ev
theorem run (w : World) : HandSHeadRun.RunEq R (PySem.W.view R.prog [34]) hk ob 20000 loose w := by
  intro os
  kernel_rfl
end K99

/-! What the law's smaller functions answer. -/
namespace K99
open PySem PySem.Spec PyProof.Rows L2 Ev
theorem mulB_small {i j : Int} (h1 : -(2 ^ 64) < j) (h2 : j < 2 ^ 64) : mulB i j = true := by
  unfold mulB
  rw [decide_eq_true h1, decide_eq_true h2] <;> rfl
theorem mul_ok {i j : Int} (h1 : -(2 ^ 64) < j) (h2 : j < 2 ^ 64) : binD .Mult (.int i) (.int j) = some (.int (i * j)) := by
  show (if mulB i j = true then some (D.int (i * j)) else none) = _
  rw [if_pos (mulB_small h1 h2)]
theorem mod_ok {i j : Int} (h : 0 < j) : binD .Mod (.int i) (.int j) = some (.int (i % j)) := by
  show (if decide (0 < j) = true then some (D.int (i % j)) else none) = _
  rw [if_pos (decide_eq_true h)]
theorem nosl {b : Expr} (h : plainIx b = true) : ∀ l h' s q, b ≠ .Slice l h' s q := fun l h' s q e => by
  subst e
  cases h
theorem mixed_ok (cell t : Int) (S : List Ob) (k : Nat) (t0 : 0 ≤ t) (t1 : t ≤ 1000000000) : ∃ r, callN md (k + 1) "_law_mixed" [.int cell, .int t] S = some (.int r, S) := by
  obtain ⟨mm, m1, m2, hm⟩ : ∃ mm : Int, 0 < mm ∧ mm ≤ 2147483629 ∧ ixD S (.lst [.int 1000000007, .int 998244353, .int 2147483629, .int 1000000009]) (.int (t % 4)) = some (.int mm) := by
    have : t % 4 = 0 ∨ t % 4 = 1 ∨ t % 4 = 2 ∨ t % 4 = 3 := by omega
    rcases this with e | e | e | e <;> rw [e]
    · exact ⟨1000000007, by omega, by omega, rfl⟩
    · exact ⟨998244353, by omega, by omega, rfl⟩
    · exact ⟨2147483629, by omega, by omega, rfl⟩
    · exact ⟨1000000009, by omega, by omega, rfl⟩
  have b1 : 0 ≤ cell % mm := Int.emod_nonneg _ (by omega)
  have b2 : cell % mm < mm := Int.emod_lt_of_pos _ m1
  have hn : -(2 ^ 64) < cell % mm + 7919 * t + 13 ∧ cell % mm + 7919 * t + 13 < 2 ^ 64 := by constructor <;> omega
  refine ⟨_, (call_run (di := ⟨["cell", "k"], ["cell", "k", "number"], top 27⟩) (by kernel_rfl)).trans (run_ret rfl (ss_cons (st_asg (i := 2) (d := .int (cell % mm + 7919 * t + 13)) (by kernel_rfl) (by kernel_rfl) (by kernel_rfl)
    (ev_bin (ev_bin (ev_bin (ev_nm (d := .int cell) (by kernel_rfl)) (ev_ix (nosl (by kernel_rfl)) (by kernel_rfl)
      (ev_lst (evL_cons (by kernel_rfl) (ev_ct (d := .int 1000000007) rfl) (evL_cons (by kernel_rfl) (ev_ct (d := .int 998244353) rfl) (evL_cons (by kernel_rfl) (ev_ct (d := .int 2147483629) rfl) (evL_cons (by kernel_rfl) (ev_ct (d := .int 1000000009) rfl) evL_nil)))) rfl)
      (ev_bin (ev_nm (d := .int t) (by kernel_rfl)) (ev_ct (d := .int 4) rfl) (mod_ok (by omega))) hm) (mod_ok m1))
      (ev_bin (ev_ct (d := .int 7919) rfl) (ev_nm (d := .int t) (by kernel_rfl)) (mul_ok (by omega) (by omega))) rfl) (ev_ct (d := .int 13) rfl) rfl))
    (ss_ret (st_ret (ev_bin (ev_bin (ev_bin (ev_bin (ev_nm (d := .int (cell % mm + 7919 * t + 13)) (by kernel_rfl)) (ev_nm (d := .int (cell % mm + 7919 * t + 13)) (by kernel_rfl)) (mul_ok hn.1 hn.2)) (ev_ct (d := .int 2147483647) rfl) (mod_ok (by omega))) (ev_ct (d := .int 48271) rfl) (mul_ok (by omega) (by omega))) (ev_ct (d := .int 2147483647) rfl) (mod_ok (by omega)))))))⟩
abbrev stK (L c t : Int) : Ob := .dic [(.inr "left", .int L), (.inr "cell", .int c), (.inr "turns", .int t)]
theorem draw_ok (cell i : Int) (S : List Ob) (k : Nat) (h1 : -(2 ^ 64) < i) (h2 : i < 2 ^ 64) : ∃ L, (0 ≤ L) ∧ callN md (k + 1) "_law_draw" [.int cell, .int i] S = some (.ref S.length, S ++ [stK L cell (1000 * i)]) := by
  by_cases hc : (1000000000000000000 : Int) ≤ cell
  · refine ⟨cell, by omega, (call_run (di := ⟨["cell", "k"], ["cell", "k"], top 28⟩) (by kernel_rfl)).trans (run_ret rfl (ss_ret (st_ret (ev_dic (kw := [(.inr "left", .int cell), (.inr "cell", .int cell), (.inr "turns", .int (1000 * i))]) (by kernel_rfl)
      (evP_cons (ev_ct (d := .str "left") rfl) (ev_if (r := true) (ev_cmpT (ev_nm (d := .int cell) (by kernel_rfl)) (ev_bin (ev_ct (d := .int 10) rfl) (ev_ct (d := .int 18) rfl) (d := .int 1000000000000000000) (by kernel_rfl)) (by show some (decide ((1000000000000000000 : Int) ≤ cell)) = _; rw [decide_eq_true hc])) (ev_nm (d := .int cell) (by kernel_rfl)))
        (evP_cons (ev_ct (d := .str "cell") rfl) (ev_nm (d := .int cell) (by kernel_rfl)) (evP_cons (ev_ct (d := .str "turns") rfl) (ev_bin (ev_ct (d := .int 1000) rfl) (ev_nm (d := .int i) (by kernel_rfl)) (mul_ok h1 h2)) evP_nil))) (by kernel_rfl) (by kernel_rfl)))))⟩
  · refine ⟨0, by omega, (call_run (di := ⟨["cell", "k"], ["cell", "k"], top 28⟩) (by kernel_rfl)).trans (run_ret rfl (ss_ret (st_ret (ev_dic (kw := [(.inr "left", .int 0), (.inr "cell", .int cell), (.inr "turns", .int (1000 * i))]) (by kernel_rfl)
      (evP_cons (ev_ct (d := .str "left") rfl) (ev_if (r := false) (ev_cmpT (ev_nm (d := .int cell) (by kernel_rfl)) (ev_bin (ev_ct (d := .int 10) rfl) (ev_ct (d := .int 18) rfl) (d := .int 1000000000000000000) (by kernel_rfl)) (by show some (decide ((1000000000000000000 : Int) ≤ cell)) = _; rw [decide_eq_false hc])) (ev_ct (d := .int 0) rfl))
        (evP_cons (ev_ct (d := .str "cell") rfl) (ev_nm (d := .int cell) (by kernel_rfl)) (evP_cons (ev_ct (d := .str "turns") rfl) (ev_bin (ev_ct (d := .int 1000) rfl) (ev_nm (d := .int i) (by kernel_rfl)) (mul_ok h1 h2)) evP_nil))) (by kernel_rfl) (by kernel_rfl)))))⟩
end K99

/-! A digit drawn. -/
namespace K99
open PySem PySem.Spec PyProof.Rows L2 Ev
def ifA : Stmt → List Stmt
  | .If _ a _ _ => a
  | _ => []
def forT : Stmt → Expr
  | .For tg _ _ _ _ => tg
  | _ => .Constant .none 0 ⟨0, 0, 0, 0⟩
def forB : Stmt → List Stmt
  | .For _ _ b _ _ => b
  | _ => []
def st (i j : Nat) : Stmt := (defBody (top i)).getD j (.Pass ⟨0, 0, 0, 0⟩)
def digF : Stmt := (ifA (st 29 0)).getD 0 (.Pass ⟨0, 0, 0, 0⟩)
abbrev digN : List Str := ["state", "below", "j", "found"]
abbrev digC : Cf := ⟨digN, defScope (top 29), true⟩
abbrev digE (j : Nat) (b : Int) (x y : Option SV) : Dv := [some (.val (.ref j)), some (.val (.int b)), x, y]
theorem ixk {S : List Ob} {j : Nat} {L c t : Int} (h : S[j]? = some (stK L c t)) : ixD S (.ref j) (.str "left") = some (.int L) ∧ ixD S (.ref j) (.str "cell") = some (.int c) ∧ ixD S (.ref j) (.str "turns") = some (.int t) := by
  refine ⟨?_, ?_, ?_⟩ <;> (unfold ixD; dsimp only; rw [h]; rfl)
theorem setk {S : List Ob} {j : Nat} {o o' : Ob} (h : S[j]? = some o) : (S.set j o')[j]? = some o' := List.getElem?_set_self (List.getElem?_eq_some_iff.mp h).1
theorem turns_ok (k j : Nat) (b c : Int) (y : Option SV) : ∀ (ds : List Int) (x : Option SV) (S : List Ob) (L t : Int), S[j]? = some (stK L c t) → 0 ≤ t → t + ds.length ≤ 1000000000 →
    ∃ x' L' t', t ≤ t' ∧ t' ≤ t + ds.length ∧ evFor (bindT digC (forT digF)) (fun δ S => exSs (exS md (callN md (k + 1)) 198 digC) δ S (forB digF)) (ds.map D.int) (digE j b x y) S = some (.nx (digE j b x' y) (S.set j (stK L' c t')))
  | [], x, S, L, t, h, t0, t1 => ⟨x, L, t, Int.le_refl _, by simp, by
      have e : S.set j (stK L c t) = S := by
        obtain ⟨hl, e⟩ := List.getElem?_eq_some_iff.mp h
        rw [← e]
        exact List.set_getElem_self hl
      rw [e] <;> rfl⟩
  | i :: ds, x, S, L, t, h, t0, t1 => by
    have hlen : ((i :: ds).length : Int) = ds.length + 1 := by simp
    have h1 : (S.set j (stK L c (t + 1)))[j]? = some (stK L c (t + 1)) := setk h
    obtain ⟨r, hr⟩ := mixed_ok c (t + 1) (S.set j (stK L c (t + 1))) k (by omega) (by omega)
    have h2 : ((S.set j (stK L c (t + 1))).set j (stK (L * 2147483647 + r) c (t + 1)))[j]? = some (stK (L * 2147483647 + r) c (t + 1)) := setk h1
    obtain ⟨x', L', t', l1, l2, e⟩ := turns_ok k j b c y ds (some (.val (.int i))) _ (L * 2147483647 + r) (t + 1) h2 (by omega) (by omega)
    refine ⟨x', L', t', by omega, by omega, ?_⟩
    rw [List.set_set, List.set_set] at e
    refine for_cons (δ1 := digE j b (some (.val (.int i))) y) (δ2 := digE j b (some (.val (.int i))) y) (S2 := (S.set j (stK L c (t + 1))).set j (stK (L * 2147483647 + r) c (t + 1))) (by kernel_rfl) ?_ (by rw [List.set_set]; exact e)
    have a1 : exS md (callN md (k + 1)) 198 digC (digE j b (some (.val (.int i))) y) S ((forB digF).getD 0 (.Pass ⟨0, 0, 0, 0⟩)) = some (.nx (digE j b (some (.val (.int i))) y) (S.set j (stK L c (t + 1)))) :=
      (st_put (n := 197) (j := j) (v := .int (t + 1)) (kw := [(.inr "left", .int L), (.inr "cell", .int c), (.inr "turns", .int (t + 1))]) (by kernel_rfl)
        (ev_bin (ev_ix (nosl (by kernel_rfl)) (by kernel_rfl) (ev_nm (d := .ref j) (by kernel_rfl)) (ev_ct (d := .str "turns") rfl) (ixk h).2.2) (ev_ct (d := .int 1) rfl) rfl) (by kernel_rfl) (ev_ct (d := .str "turns") rfl) h rfl rfl).trans (by kernel_rfl)
    have a2 : exS md (callN md (k + 1)) 198 digC (digE j b (some (.val (.int i))) y) (S.set j (stK L c (t + 1))) ((forB digF).getD 1 (.Pass ⟨0, 0, 0, 0⟩)) = some (.nx (digE j b (some (.val (.int i))) y) ((S.set j (stK L c (t + 1))).set j (stK (L * 2147483647 + r) c (t + 1)))) :=
      (st_put (n := 197) (j := j) (v := .int (L * 2147483647 + r)) (kw := [(.inr "left", .int (L * 2147483647 + r)), (.inr "cell", .int c), (.inr "turns", .int (t + 1))]) (by kernel_rfl)
        (ev_bin (ev_bin (ev_ix (nosl (by kernel_rfl)) (by kernel_rfl) (ev_nm (d := .ref j) (by kernel_rfl)) (ev_ct (d := .str "left") rfl) (ixk h1).1) (ev_ct (d := .int 2147483647) rfl) (mul_ok (by omega) (by omega)))
          (ev_call (di := ⟨["cell", "k"], ["cell", "k", "number"], top 27⟩) (by kernel_rfl) (by kernel_rfl) (by kernel_rfl) (evL_cons (by kernel_rfl) (ev_ix (nosl (by kernel_rfl)) (by kernel_rfl) (ev_nm (d := .ref j) (by kernel_rfl)) (ev_ct (d := .str "cell") rfl) (ixk h1).2.1)
            (evL_cons (by kernel_rfl) (ev_ix (nosl (by kernel_rfl)) (by kernel_rfl) (ev_nm (d := .ref j) (by kernel_rfl)) (ev_ct (d := .str "turns") rfl) (ixk h1).2.2) evL_nil)) rfl hr) rfl) (by kernel_rfl) (ev_ct (d := .str "left") rfl) h1 rfl rfl).trans (by kernel_rfl)
    exact ss_cons a1 (ss_cons a2 rfl)
theorem eq0 {L : Int} (h : L ≠ 0) : cmpD .Eq (.int L) (.int 0) = some false := by
  show eqD (.int L) (.int 0) = some false
  unfold eqD
  simp [toPy, PyData.eqv, h]
  exact ⟨rfl, rfl⟩
theorem digit_ok (k j : Nat) (S : List Ob) (L c t b : Int) (h : S[j]? = some (stK L c t)) (t0 : 0 ≤ t) (t1 : t ≤ 999999000) (b0 : 0 < b) (b1 : b < 1073741824) :
    ∃ r L' t', 0 ≤ r ∧ r < b ∧ t ≤ t' ∧ t' ≤ t + 4 ∧ callN md (k + 2) "_law_digit" [.ref j, .int b] S = some (.int r, S.set j (stK L' c t')) := by
  have s1 : ∃ x' L' t', t ≤ t' ∧ t' ≤ t + 4 ∧ exS md (callN md (k + 1)) 200 digC (digE j b none none) S (st 29 0) = some (.nx (digE j b x' none) (S.set j (stK L' c t'))) := by
    by_cases hL : L = 0
    · subst hL
      obtain ⟨x', L', t', l1, l2, e⟩ := turns_ok k j b c none [0, 1, 2, 3] none S 0 t h t0 (by simp; omega)
      refine ⟨x', L', t', l1, by simpa using l2, ?_⟩
      refine st_if (n := 199) (r := true) (S1 := S) (ev_cmpT (n := 198) (ev_ix (nosl (by kernel_rfl)) (by kernel_rfl) (ev_nm (d := .ref j) (by kernel_rfl)) (ev_ct (d := .str "left") rfl) (ixk h).1) (ev_ct (d := .int 0) rfl) rfl) ?_
      exact ss_cons (st_for (n := 198) (ds := [.int 0, .int 1, .int 2, .int 3]) (S1 := S) (by kernel_rfl) (by kernel_rfl) e) ss_nil
    · refine ⟨none, L, t, by omega, by omega, ?_⟩
      have e : S.set j (stK L c t) = S := by
        obtain ⟨hl, e⟩ := List.getElem?_eq_some_iff.mp h
        rw [← e]
        exact List.set_getElem_self hl
      rw [e]
      exact (st_if (n := 199) (r := false) (S1 := S) (ev_cmpT (n := 198) (ev_ix (nosl (by kernel_rfl)) (by kernel_rfl) (ev_nm (d := .ref j) (by kernel_rfl)) (ev_ct (d := .str "left") rfl) (ixk h).1) (ev_ct (d := .int 0) rfl) (eq0 hL)) rfl).trans (by kernel_rfl)
  obtain ⟨x', L', t', l1, l2, e1⟩ := s1
  have h2 : (S.set j (stK L' c t'))[j]? = some (stK L' c t') := setk h
  have r0 : 0 ≤ L' % b := Int.emod_nonneg _ (by omega)
  have r1 : L' % b < b := Int.emod_lt_of_pos _ b0
  refine ⟨L' % b, L' / b, t', r0, r1, l1, l2, ?_⟩
  have hd : binD .FloorDiv (.int L') (.int b) = some (.int (L' / b)) := by
    show (if (decide (0 < b) && decide (b < 1073741824)) = true then some (D.int (L' / b)) else none) = _
    rw [if_pos (by rw [decide_eq_true b0, decide_eq_true b1]; rfl)]
  have e2 : exS md (callN md (k + 1)) 200 digC (digE j b x' none) (S.set j (stK L' c t')) (st 29 1) = some (.nx (digE j b x' (some (.val (.int (L' % b))))) (S.set j (stK L' c t'))) :=
    (st_asg (n := 199) (i := 3) (d := .int (L' % b)) (by kernel_rfl) (by kernel_rfl) (by kernel_rfl) (ev_bin (ev_ix (nosl (by kernel_rfl)) (by kernel_rfl) (ev_nm (d := .ref j) (by kernel_rfl)) (ev_ct (d := .str "left") rfl) (ixk h2).1) (ev_nm (d := .int b) (by kernel_rfl)) (mod_ok b0))).trans (by kernel_rfl)
  have e3 : exS md (callN md (k + 1)) 200 digC (digE j b x' (some (.val (.int (L' % b))))) (S.set j (stK L' c t')) (st 29 2) = some (.nx (digE j b x' (some (.val (.int (L' % b))))) ((S.set j (stK L' c t')).set j (stK (L' / b) c t'))) :=
    (st_put (n := 199) (j := j) (v := .int (L' / b)) (kw := [(.inr "left", .int (L' / b)), (.inr "cell", .int c), (.inr "turns", .int t')]) (by kernel_rfl)
      (ev_bin (ev_ix (nosl (by kernel_rfl)) (by kernel_rfl) (ev_nm (d := .ref j) (by kernel_rfl)) (ev_ct (d := .str "left") rfl) (ixk h2).1) (ev_nm (d := .int b) (by kernel_rfl)) hd) (by kernel_rfl) (ev_ct (d := .str "left") rfl) h2 rfl rfl).trans (by kernel_rfl)
  rw [List.set_set] at e3
  exact (call_run (di := ⟨["state", "below"], digN, top 29⟩) (by kernel_rfl)).trans (run_ret rfl (ss_cons e1 (ss_cons e2 (ss_cons e3 (ss_ret (st_ret (n := 199) (ev_nm (d := .int (L' % b)) (by kernel_rfl))))))))
end K99

/-! A thing kept by every error. -/
namespace K99
open PySem PySem.Spec PyProof.Rows L2 Ev
theorem ev_or {ev : EvF} {n : Nat} {S S1 : List Ob} {a b : Expr} {r : List Expr} {p : Pos} {o : Option (Bool × List Ob)} (h1 : evT ev n S a = some (false, S1)) (h2 : evT ev n S1 (.BoolOp .Or (b :: r) p) = o) : evT ev (n + 1) S (.BoolOp .Or (a :: b :: r) p) = o := by
  unfold evT
  simp only [h1]
  exact h2
theorem ev_or1 {ev : EvF} {n : Nat} {S : List Ob} {a : Expr} {p : Pos} {o : Option (Bool × List Ob)} (h1 : evT ev n S a = o) : evT ev (n + 1) S (.BoolOp .Or [a] p) = o := by
  unfold evT
  exact h1
abbrev rgC : Cf := ⟨["thing", "one", "other", "name"], defScope (top 33), true⟩
abbrev rgE (x : D) (y1 y2 y3 : Option SV) : Dv := [some (.val x), y1, y2, y3]
theorem vloop {S : List Ob} {x : D} {bind : D → Dv → Option Dv} {body : Dv → List Ob → Option Out} {mk : Str → D} : ∀ (names : List Str), (∀ c ∈ names, ∀ y1 y2 y3, ∃ z1 z2 z3, bind (mk c) (rgE x y1 y2 y3) = some (rgE x z1 z2 z3) ∧ body (rgE x z1 z2 z3) S = some (.nx (rgE x z1 z2 z3) S)) →
    ∀ y1 y2 y3, ∃ z1 z2 z3, evFor bind body (names.map mk) (rgE x y1 y2 y3) S = some (.nx (rgE x z1 z2 z3) S)
  | [], _, y1, y2, y3 => ⟨y1, y2, y3, rfl⟩
  | c :: cs, h, y1, y2, y3 => by
    obtain ⟨z1, z2, z3, e1, e2⟩ := h c (by simp) y1 y2 y3
    obtain ⟨w1, w2, w3, e3⟩ := vloop cs (fun d hd => h d (by simp [hd])) z1 z2 z3
    exact ⟨w1, w2, w3, for_cons e1 e2 e3⟩
theorem neq {x : D} (h : eqD x x = some true) : cmpD .NotEq x x = some false := by
  show (eqD x x).map not = _
  rw [h] <;> rfl
def valN : List Str := ["BadFraction", "BadName", "BadNumber"]
def plaN : List Str := ["BadPolynomial", "BadFormula", "BadTheory", "BadPoint", "BadTower", "BadTable", "BadStretches", "BadTest", "BadAtoms", "BadWitness", "BadPlan", "BadCase", "BadRows", "BadBytes", "BadTask", "BadFigure", "BadText", "BadPaper", "BadDeed"]
abbrev mk3 (x : D) (c : Str) : D := .tup [.exc c x, .exc c x, .str c]
abbrev rg3 (x : D) (c : Str) : Dv := rgE x (some (.val (.exc c x))) (some (.val (.exc c x))) (some (.val (.str c)))
/-- the test of the i-th statement of the j-th loop -/
def tst (j i : Nat) : Expr := match (forB (st 33 j)).getD i (.Pass ⟨0, 0, 0, 0⟩) with
  | .If t _ _ _ => t
  | _ => .Constant .none 0 ⟨0, 0, 0, 0⟩
theorem kind_v (x : D) (S : List Ob) : ∀ c ∈ valN, evT (evE md (callN md 2) 198 rgC (rg3 x c)) 198 S (tst 0 0) = some (false, S) := by
  intro c hc
  simp only [valN, List.mem_cons, List.mem_nil_iff, or_false, List.not_mem_nil] at hc
  rcases hc with rfl | rfl | rfl <;> kernel_rfl
theorem kind_p (x : D) (S : List Ob) : ∀ c ∈ plaN, evT (evE md (callN md 2) 198 rgC (rg3 x c)) 198 S (tst 1 0) = some (false, S) := by
  intro c hc
  simp only [plaN, List.mem_cons, List.mem_nil_iff, or_false, List.not_mem_nil] at hc
  rcases hc with rfl | rfl | rfl | rfl | rfl | rfl | rfl | rfl | rfl | rfl | rfl | rfl | rfl | rfl | rfl | rfl | rfl | rfl | rfl <;> kernel_rfl
abbrev pss : Stmt := .Pass ⟨0, 0, 0, 0⟩
theorem keep_v {x : D} (he : eqD x x = some true) (S : List Ob) : ∀ c ∈ valN, evT (evE md (callN md 2) 198 rgC (rg3 x c)) 198 S (tst 0 1) = some (false, S) := by
  intro c hc
  simp only [valN, List.mem_cons, List.mem_nil_iff, or_false, List.not_mem_nil] at hc
  rcases hc with rfl | rfl | rfl <;>
    exact ev_or (n := 197) (ev_cmpT (n := 196) (x := x) (y := x) (S1 := S) (S2 := S) (by kernel_rfl) (by kernel_rfl) (neq he)) (ev_or1 (n := 196) (ev_cmpT (n := 195) (x := x) (y := x) (S1 := S) (S2 := S) (by kernel_rfl) (by kernel_rfl) (neq he)))
theorem keep_p {x : D} (he : eqD x x = some true) (S : List Ob) : ∀ c ∈ plaN, evT (evE md (callN md 2) 198 rgC (rg3 x c)) 198 S (tst 1 1) = some (false, S) := by
  intro c hc
  simp only [plaN, List.mem_cons, List.mem_nil_iff, or_false, List.not_mem_nil] at hc
  rcases hc with rfl | rfl | rfl | rfl | rfl | rfl | rfl | rfl | rfl | rfl | rfl | rfl | rfl | rfl | rfl | rfl | rfl | rfl | rfl <;>
    exact ev_or (n := 197) (ev_cmpT (n := 196) (x := x) (y := x) (S1 := S) (S2 := S) (by kernel_rfl) (by kernel_rfl) (neq he)) (ev_or1 (n := 196) (ev_cmpT (n := 195) (x := x) (y := x) (S1 := S) (S2 := S) (by kernel_rfl) (by kernel_rfl) (neq he)))
theorem two_ifs {δ : Dv} {S : List Ob} {j : Nat} (f0 : frz rgC [tst j 0] δ = δ) (f1 : frz rgC [tst j 1] δ = δ) (k1 : evT (evE md (callN md 2) 198 rgC δ) 198 S (tst j 0) = some (false, S)) (k2 : evT (evE md (callN md 2) 198 rgC δ) 198 S (tst j 1) = some (false, S)) (hj : j = 0 ∨ j = 1) :
    exSs (exS md (callN md 2) 199 rgC) δ S (forB (st 33 j)) = some (.nx δ S) := by
  rcases hj with rfl | rfl
  · have b1 : exS md (callN md 2) 199 rgC δ S ((forB (st 33 0)).getD 0 pss) = some (.nx δ S) := (st_if (n := 198) (r := false) (S1 := S) (t := tst 0 0) (by rw [f0]; exact k1) rfl).trans (by rw [f0]; rfl)
    have b2 : exS md (callN md 2) 199 rgC δ S ((forB (st 33 0)).getD 1 pss) = some (.nx δ S) := (st_if (n := 198) (r := false) (S1 := S) (t := tst 0 1) (by rw [f1]; exact k2) rfl).trans (by rw [f1]; rfl)
    exact ss_cons b1 (ss_cons b2 rfl)
  · have b1 : exS md (callN md 2) 199 rgC δ S ((forB (st 33 1)).getD 0 pss) = some (.nx δ S) := (st_if (n := 198) (r := false) (S1 := S) (t := tst 1 0) (by rw [f0]; exact k1) rfl).trans (by rw [f0]; rfl)
    have b2 : exS md (callN md 2) 199 rgC δ S ((forB (st 33 1)).getD 1 pss) = some (.nx δ S) := (st_if (n := 198) (r := false) (S1 := S) (t := tst 1 1) (by rw [f1]; exact k2) rfl).trans (by rw [f1]; rfl)
    exact ss_cons b1 (ss_cons b2 rfl)
theorem body_v {x : D} (he : eqD x x = some true) (S : List Ob) (c : Str) (hc : c ∈ valN) : exSs (exS md (callN md 2) 199 rgC) (rg3 x c) S (forB (st 33 0)) = some (.nx (rg3 x c) S) :=
  two_ifs (by kernel_rfl) (by kernel_rfl) (kind_v x S c hc) (keep_v he S c hc) (.inl rfl)
theorem body_p {x : D} (he : eqD x x = some true) (S : List Ob) (c : Str) (hc : c ∈ plaN) : exSs (exS md (callN md 2) 199 rgC) (rg3 x c) S (forB (st 33 1)) = some (.nx (rg3 x c) S) :=
  two_ifs (by kernel_rfl) (by kernel_rfl) (kind_p x S c hc) (keep_p he S c hc) (.inr rfl)
abbrev rg1 (x : D) (c : Str) (y2 y3 : Option SV) : Dv := rgE x (some (.val (.exc c x))) y2 y3
/-- the errors of two kinds -/
theorem one_if {x : D} (he : eqD x x = some true) (S : List Ob) (y2 y3 : Option SV) : exSs (exS md (callN md 2) 199 rgC) (rg1 x "NoSuch" y2 y3) S (forB (st 33 2)) = some (.nx (rg1 x "NoSuch" y2 y3) S) ∧
    exSs (exS md (callN md 2) 199 rgC) (rg1 x "TooMany" y2 y3) S (forB (st 33 3)) = some (.nx (rg1 x "TooMany" y2 y3) S) := by
  constructor
  · have f0 : frz rgC [tst 2 0] (rg1 x "NoSuch" y2 y3) = rg1 x "NoSuch" y2 y3 := by kernel_rfl
    have k : evT (evE md (callN md 2) 198 rgC (rg1 x "NoSuch" y2 y3)) 198 S (tst 2 0) = some (false, S) :=
      ev_or (n := 197) (S1 := S) (by kernel_rfl) (ev_or1 (n := 196) (ev_cmpT (n := 195) (x := x) (y := x) (S1 := S) (S2 := S) (by kernel_rfl) (by kernel_rfl) (neq he)))
    have b1 : exS md (callN md 2) 199 rgC (rg1 x "NoSuch" y2 y3) S ((forB (st 33 2)).getD 0 pss) = some (.nx (rg1 x "NoSuch" y2 y3) S) := (st_if (n := 198) (r := false) (S1 := S) (t := tst 2 0) (by rw [f0]; exact k) rfl).trans (by rw [f0]; rfl)
    exact ss_cons b1 rfl
  · have f0 : frz rgC [tst 3 0] (rg1 x "TooMany" y2 y3) = rg1 x "TooMany" y2 y3 := by kernel_rfl
    have k : evT (evE md (callN md 2) 198 rgC (rg1 x "TooMany" y2 y3)) 198 S (tst 3 0) = some (false, S) :=
      ev_or (n := 197) (S1 := S) (by kernel_rfl) (ev_or1 (n := 196) (ev_cmpT (n := 195) (x := x) (y := x) (S1 := S) (S2 := S) (by kernel_rfl) (by kernel_rfl) (neq he)))
    have b1 : exS md (callN md 2) 199 rgC (rg1 x "TooMany" y2 y3) S ((forB (st 33 3)).getD 0 pss) = some (.nx (rg1 x "TooMany" y2 y3) S) := (st_if (n := 198) (r := false) (S1 := S) (t := tst 3 0) (by rw [f0]; exact k) rfl).trans (by rw [f0]; rfl)
    exact ss_cons b1 rfl
def forI : Stmt → Expr
  | .For _ it _ _ _ => it
  | _ => .Constant .none 0 ⟨0, 0, 0, 0⟩
theorem loop_v {x : D} (he : eqD x x = some true) (S : List Ob) (y1 y2 y3 : Option SV) : ∃ z1 z2 z3, exS md (callN md 2) 200 rgC (rgE x y1 y2 y3) S (st 33 0) = some (.nx (rgE x z1 z2 z3) S) := by
  obtain ⟨z1, z2, z3, e⟩ := vloop (S := S) (x := x) (bind := bindT rgC (forT (st 33 0))) (body := fun δ S => exSs (exS md (callN md 2) 199 rgC) δ S (forB (st 33 0))) (mk := mk3 x) valN
    (fun c hc y1 y2 y3 => ⟨some (.val (.exc c x)), some (.val (.exc c x)), some (.val (.str c)), by kernel_rfl, body_v he S c hc⟩) y1 y2 y3
  refine ⟨z1, z2, z3, ?_⟩
  have fz : frz rgC [forI (st 33 0)] (rgE x y1 y2 y3) = rgE x y1 y2 y3 := by kernel_rfl
  exact st_for (n := 199) (ds := valN.map (mk3 x)) (S1 := S) (tg := forT (st 33 0)) (it := forI (st 33 0)) (body := forB (st 33 0)) (by kernel_rfl) (by kernel_rfl) (by rw [fz]; exact e)
theorem loop_p {x : D} (he : eqD x x = some true) (S : List Ob) (y1 y2 y3 : Option SV) : ∃ z1 z2 z3, exS md (callN md 2) 200 rgC (rgE x y1 y2 y3) S (st 33 1) = some (.nx (rgE x z1 z2 z3) S) := by
  obtain ⟨z1, z2, z3, e⟩ := vloop (S := S) (x := x) (bind := bindT rgC (forT (st 33 1))) (body := fun δ S => exSs (exS md (callN md 2) 199 rgC) δ S (forB (st 33 1))) (mk := mk3 x) plaN
    (fun c hc y1 y2 y3 => ⟨some (.val (.exc c x)), some (.val (.exc c x)), some (.val (.str c)), by kernel_rfl, body_p he S c hc⟩) y1 y2 y3
  refine ⟨z1, z2, z3, ?_⟩
  have fz : frz rgC [forI (st 33 1)] (rgE x y1 y2 y3) = rgE x y1 y2 y3 := by kernel_rfl
  exact st_for (n := 199) (ds := plaN.map (mk3 x)) (S1 := S) (tg := forT (st 33 1)) (it := forI (st 33 1)) (body := forB (st 33 1)) (by kernel_rfl) (by kernel_rfl) (by rw [fz]; exact e)
theorem loop_2 {x : D} (he : eqD x x = some true) (S : List Ob) (y1 y2 y3 : Option SV) : exS md (callN md 2) 200 rgC (rgE x y1 y2 y3) S (st 33 2) = some (.nx (rg1 x "NoSuch" y2 y3) S) := by
  have fz : frz rgC [forI (st 33 2)] (rgE x y1 y2 y3) = rgE x y1 y2 y3 := by kernel_rfl
  have b := (one_if he S y2 y3).1
  exact st_for (n := 199) (ds := [.exc "NoSuch" x, .exc "NoSuch" x]) (S1 := S) (tg := forT (st 33 2)) (it := forI (st 33 2)) (body := forB (st 33 2)) (by kernel_rfl) (by kernel_rfl)
    (by rw [fz]; exact for_cons (δ1 := rg1 x "NoSuch" y2 y3) (δ2 := rg1 x "NoSuch" y2 y3) (S2 := S) (by kernel_rfl) b (for_cons (δ1 := rg1 x "NoSuch" y2 y3) (δ2 := rg1 x "NoSuch" y2 y3) (S2 := S) (by kernel_rfl) b for_nil))
theorem loop_3 {x : D} (he : eqD x x = some true) (S : List Ob) (y1 y2 y3 : Option SV) : exS md (callN md 2) 200 rgC (rgE x y1 y2 y3) S (st 33 3) = some (.nx (rg1 x "TooMany" y2 y3) S) := by
  have fz : frz rgC [forI (st 33 3)] (rgE x y1 y2 y3) = rgE x y1 y2 y3 := by kernel_rfl
  have b := (one_if he S y2 y3).2
  exact st_for (n := 199) (ds := [.exc "TooMany" x, .exc "TooMany" x]) (S1 := S) (tg := forT (st 33 3)) (it := forI (st 33 3)) (body := forB (st 33 3)) (by kernel_rfl) (by kernel_rfl)
    (by rw [fz]; exact for_cons (δ1 := rg1 x "TooMany" y2 y3) (δ2 := rg1 x "TooMany" y2 y3) (S2 := S) (by kernel_rfl) b (for_cons (δ1 := rg1 x "TooMany" y2 y3) (δ2 := rg1 x "TooMany" y2 y3) (S2 := S) (by kernel_rfl) b for_nil))
theorem right_ok {x : D} (he : eqD x x = some true) (S : List Ob) : callN md 3 "_law_right" [x] S = some (.bl true, S) := by
  obtain ⟨a1, a2, a3, e1⟩ := loop_v he S none none none
  obtain ⟨b1, b2, b3, e2⟩ := loop_p he S a1 a2 a3
  have e3 := loop_2 he S b1 b2 b3
  have e4 := loop_3 he S (some (.val (.exc "NoSuch" x))) b2 b3
  exact (call_run (di := ⟨["thing"], ["thing", "one", "other", "name"], top 33⟩) (by kernel_rfl)).trans (run_ret rfl (ss_cons e1 (ss_cons e2 (ss_cons e3 (ss_cons e4 (ss_ret (st_ret (n := 199) (ev_ct (d := .bl true) rfl))))))))
end K99

/-! The law's body. -/
namespace K99
open PySem PySem.Spec PyProof.Rows L2 Ev
theorem ev_not {ev : EvF} {n : Nat} {S S1 : List Ob} {a : Expr} {p : Pos} {b : Bool} (h : evT ev n S a = some (b, S1)) : evT ev (n + 1) S (.UnaryOp .Not a p) = some (!b, S1) := by
  unfold evT
  simp only [h, Option.map_some]
theorem ev_callT {ev : EvF} {n : Nat} {S S1 : List Ob} {f : Expr} {as : List Expr} {ks : List Keyword} {p : Pos} {b : Bool} (h : ev S (.Call f as ks p) = some (.bl b, S1)) : evT ev (n + 1) S (.Call f as ks p) = some (b, S1) := by
  unfold evT
  simp only [h]
  rfl
abbrev lwN : List Str := ["script", "k", "cell", "state", "number", "some", "others", "e", "rows", "thing", "made", "one", "other", "name"]
abbrev lwC : Cf := ⟨lwN, defScope (top 34), true⟩
abbrev lwE (x : D) (y1 y2 y3 y4 y5 : Option SV) : Dv := [some (.val x), y1, y2, y3, y4, y5, none, none, none, none, none, none, none, none]
abbrev vi (i : Int) : Option SV := some (.val (.int i))
abbrev things (n : Int) : List D := [.int n, .int (0 - n), .str (repS "ab" (n % 50).toNat), .tup [.str "atom", .tup [.int 0, .int n]], .non, .tup [.int (10 ^ 30), .tup []], .tup [.int n, .int n, .int n, .int n, .int n, .int n, .int n, .int n, .int n]]
theorem refl_of {x : D} {p : PyData} (h : toPy x = some p) (hs : SeqAt.shaped p = true) (hp : p.plain = true) : eqD x x = some true := by
  unfold eqD
  rw [h]
  dsimp only
  rw [hs]
  show some (PyData.eqv p p) = some true
  rw [SeqAt.eqv_refl_plain p hp]
theorem shaped_ab : ∀ m : Nat, m < 50 → SeqAt.shaped (.str (repS "ab" m)) = true := by decide +kernel
theorem thing_ok (n d : Int) (d0 : 0 ≤ d) (d1 : d < 7) (S : List Ob) : ∃ x, ixD S (.lst (things n)) (.int d) = some x ∧ eqD x x = some true := by
  have : d = 0 ∨ d = 1 ∨ d = 2 ∨ d = 3 ∨ d = 4 ∨ d = 5 ∨ d = 6 := by omega
  rcases this with e | e | e | e | e | e | e <;> subst e
  · exact ⟨_, rfl, refl_of rfl rfl rfl⟩
  · exact ⟨_, rfl, refl_of rfl rfl rfl⟩
  · exact ⟨_, rfl, refl_of rfl (shaped_ab _ (by have h0 : 0 ≤ n % 50 := Int.emod_nonneg _ (by omega); have h1 : n % 50 < 50 := Int.emod_lt_of_pos _ (by omega); omega)) rfl⟩
  · exact ⟨_, rfl, refl_of rfl (by kernel_rfl) rfl⟩
  · exact ⟨_, rfl, refl_of rfl rfl rfl⟩
  · exact ⟨_, rfl, refl_of rfl (by kernel_rfl) rfl⟩
  · exact ⟨_, rfl, refl_of rfl (by kernel_rfl) rfl⟩
theorem text_ok (n : Int) : binD .Mult (.str "ab") (.int (n % 50)) = some (.str (repS "ab" (n % 50).toNat)) := by
  have h0 : 0 ≤ n % 50 := Int.emod_nonneg _ (by omega)
  have h1 : n % 50 < 50 := Int.emod_lt_of_pos _ (by omega)
  show (if (decide (0 ≤ n % 50) && decide (n % 50 < 1000) && decide (("ab" : Str).length < 1000)) = true then some (D.str (repS "ab" (n % 50).toNat)) else none) = _
  rw [if_pos (by rw [decide_eq_true h0, decide_eq_true (show n % 50 < 1000 by omega)]; rfl)]
theorem turn_ok (x : D) (i cell : Int) (i0 : 0 ≤ i) (i1 : i < 1000) (y3 y4 y5 : Option SV) (S : List Ob) : ∃ z3 z4 z5 S', exSs (exS md (callN md 3) 199 lwC) (lwE x (vi i) (vi cell) y3 y4 y5) S (forB (st 34 0)) = some (.nx (lwE x (vi i) (vi cell) z3 z4 z5) S') := by
  obtain ⟨L, _, e1⟩ := draw_ok cell i S 2 (by omega) (by omega)
  have h1 : (S ++ [stK L cell (1000 * i)])[S.length]? = some (stK L cell (1000 * i)) := by simp
  obtain ⟨n, L1, t1, n0, n1, l1, l2, e2⟩ := digit_ok 1 S.length _ L cell (1000 * i) 100000 h1 (by omega) (by omega) (by omega) (by omega)
  have h2 := setk (o' := stK L1 cell t1) h1
  obtain ⟨d, L2', t2, d0, d1, m1, m2, e3⟩ := digit_ok 1 S.length _ L1 cell t1 7 h2 (by omega) (by omega) (by omega) (by omega)
  have b1 : exS md (callN md 3) 199 lwC (lwE x (vi i) (vi cell) y3 y4 y5) S ((forB (st 34 0)).getD 0 pss) = some (.nx (lwE x (vi i) (vi cell) (some (.val (.ref S.length))) y4 y5) (S ++ [stK L cell (1000 * i)])) :=
    (st_asg (n := 198) (i := 3) (d := .ref S.length) (by kernel_rfl) (by kernel_rfl) (by kernel_rfl) (ev_call (di := ⟨["cell", "k"], ["cell", "k"], top 28⟩) (by kernel_rfl) (by kernel_rfl) (by kernel_rfl)
      (evL_cons (by kernel_rfl) (ev_nm (d := .int cell) (by kernel_rfl)) (evL_cons (by kernel_rfl) (ev_nm (d := .int i) (by kernel_rfl)) evL_nil)) rfl e1)).trans (by kernel_rfl)
  generalize hS1 : S ++ [stK L cell (1000 * i)] = S1 at *
  have b2 : exS md (callN md 3) 199 lwC (lwE x (vi i) (vi cell) (some (.val (.ref S.length))) y4 y5) S1 ((forB (st 34 0)).getD 1 pss) = some (.nx (lwE x (vi i) (vi cell) (some (.val (.ref S.length))) (vi n) y5) (S1.set S.length (stK L1 cell t1))) :=
    (st_asg (n := 198) (i := 4) (d := .int n) (by kernel_rfl) (by kernel_rfl) (by kernel_rfl) (ev_call (di := ⟨["state", "below"], digN, top 29⟩) (by kernel_rfl) (by kernel_rfl) (by kernel_rfl)
      (evL_cons (by kernel_rfl) (ev_nm (d := .ref S.length) (by kernel_rfl)) (evL_cons (by kernel_rfl) (ev_ct (d := .int 100000) rfl) evL_nil)) rfl e2)).trans (by kernel_rfl)
  generalize hS2 : S1.set S.length (stK L1 cell t1) = S2 at *
  have b3 : exS md (callN md 3) 199 lwC (lwE x (vi i) (vi cell) (some (.val (.ref S.length))) (vi n) y5) S2 ((forB (st 34 0)).getD 2 pss) = some (.nx (lwE x (vi i) (vi cell) (some (.val (.ref S.length))) (vi n) (some (.val (.lst (things n))))) S2) :=
    (st_asg (n := 198) (i := 5) (d := .lst (things n)) (by kernel_rfl) (by kernel_rfl) (by kernel_rfl) (ev_lst
      (evL_cons (by kernel_rfl) (ev_nm (d := .int n) (by kernel_rfl)) (evL_cons (by kernel_rfl) (ev_bin (ev_ct (d := .int 0) rfl) (ev_nm (d := .int n) (by kernel_rfl)) rfl)
        (evL_cons (by kernel_rfl) (ev_bin (ev_ct (d := .str "ab") rfl) (ev_bin (ev_nm (d := .int n) (by kernel_rfl)) (ev_ct (d := .int 50) rfl) (mod_ok (by omega))) (text_ok n))
          (evL_cons (S1 := S2) (x := .tup [.str "atom", .tup [.int 0, .int n]]) (by kernel_rfl) (by kernel_rfl) (evL_cons (S1 := S2) (x := .non) (by kernel_rfl) (by kernel_rfl) (evL_cons (S1 := S2) (x := .tup [.int (10 ^ 30), .tup []]) (by kernel_rfl) (by kernel_rfl)
            (evL_cons (S1 := S2) (x := .tup [.int n, .int n, .int n, .int n, .int n, .int n, .int n, .int n, .int n]) (by kernel_rfl) (by kernel_rfl) evL_nil))))))) rfl)).trans (by kernel_rfl)
  obtain ⟨y, hy, he⟩ := thing_ok n d d0 d1 (S2.set S.length (stK L2' cell t2))
  have hbig : eqD (.int (((10 ^ 50) ^ 50) ^ 2)) (.int (((10 ^ 50) ^ 50) ^ 2)) = some true := refl_of rfl rfl rfl
  have r1 := right_ok he (S2.set S.length (stK L2' cell t2))
  have r2 := right_ok hbig (S2.set S.length (stK L2' cell t2))
  generalize hS3 : S2.set S.length (stK L2' cell t2) = S3 at *
  have b4 : exS md (callN md 3) 199 lwC (lwE x (vi i) (vi cell) (some (.val (.ref S.length))) (vi n) (some (.val (.lst (things n))))) S2 ((forB (st 34 0)).getD 3 pss) = some (.nx (lwE x (vi i) (vi cell) (some (.val (.ref S.length))) (vi n) (some (.val (.lst (things n))))) S3) :=
    (st_if (n := 198) (r := false) (S1 := S3) (ev_or (n := 197) (S1 := S3) (ev_not (n := 196) (b := true) (ev_callT (n := 195) (ev_call (n := 197) (di := ⟨["thing"], ["thing", "one", "other", "name"], top 33⟩) (by kernel_rfl) (by kernel_rfl) (by kernel_rfl)
      (evL_cons (by kernel_rfl) (ev_ix (nosl (by kernel_rfl)) (by kernel_rfl) (ev_nm (d := .lst (things n)) (by kernel_rfl)) (ev_call (di := ⟨["state", "below"], digN, top 29⟩) (by kernel_rfl) (by kernel_rfl) (by kernel_rfl)
        (evL_cons (by kernel_rfl) (ev_nm (d := .ref S.length) (by kernel_rfl)) (evL_cons (by kernel_rfl) (ev_ct (d := .int 7) rfl) evL_nil)) rfl e3) hy) evL_nil) rfl r1)))
      (ev_or1 (n := 196) (ev_not (n := 195) (b := true) (ev_callT (n := 194) (ev_call (n := 197) (di := ⟨["thing"], ["thing", "one", "other", "name"], top 33⟩) (by kernel_rfl) (by kernel_rfl) (by kernel_rfl)
        (evL_cons (S1 := S3) (x := .int (((10 ^ 50) ^ 50) ^ 2)) (by kernel_rfl) (by kernel_rfl) evL_nil) rfl r2))))) rfl).trans (by kernel_rfl)
  exact ⟨_, _, _, S3, ss_cons b1 (ss_cons b2 (ss_cons b3 (ss_cons b4 rfl)))⟩
theorem turns_all (x : D) : ∀ (qs : List (Int × Int)), (∀ q ∈ qs, 0 ≤ q.1 ∧ q.1 < 1000) → ∀ (y1 y2 y3 y4 y5 : Option SV) (S : List Ob), ∃ z1 z2 z3 z4 z5 S',
    evFor (bindT lwC (forT (st 34 0))) (fun δ S => exSs (exS md (callN md 3) 199 lwC) δ S (forB (st 34 0))) (qs.map fun q => D.tup [.int q.1, .int q.2]) (lwE x y1 y2 y3 y4 y5) S = some (.nx (lwE x z1 z2 z3 z4 z5) S')
  | [], _, y1, y2, y3, y4, y5, S => ⟨y1, y2, y3, y4, y5, S, rfl⟩
  | q :: qs, h, y1, y2, y3, y4, y5, S => by
    obtain ⟨z3, z4, z5, S1, e⟩ := turn_ok x q.1 q.2 (h q (by simp)).1 (h q (by simp)).2 y3 y4 y5 S
    obtain ⟨w1, w2, w3, w4, w5, S2, e2⟩ := turns_all x qs (fun p hp => h p (by simp [hp])) (vi q.1) (vi q.2) z3 z4 z5 S1
    exact ⟨w1, w2, w3, w4, w5, S2, for_cons (δ1 := lwE x (vi q.1) (vi q.2) y3 y4 y5) (by kernel_rfl) e e2⟩
theorem ints_of : ∀ ns : List Int, intsD (ns.map D.int) = some ns
  | [] => rfl
  | n :: r => by
    show (intsD (r.map D.int)).map (fun ns => n :: ns) = _
    rw [ints_of r] <;> rfl
theorem ev_slice {call : CallF} {n : Nat} {c : Cf} {δ : Dv} {S S1 S2 S3 : List Ob} {a : Expr} {lo hi : Option Expr} {p q : Pos} {xs : List D} {l h : Option Int} (h1 : evE md call n c δ S a = some (.klst xs, S1)) (h2 : partE (evE md call n c δ) S1 lo = some (l, S2)) (h3 : partE (evE md call n c δ) S2 hi = some (h, S3)) :
    evE md call (n + 1) c δ S (.Subscript a (.Slice lo hi none p) q) = some (.lst (Ev.cutD xs l h), S3) := by
  unfold evE
  simp only [h1, h2, h3]
theorem cut_ints (ns : List Int) (l h : Option Int) : ∃ ms : List Int, Ev.cutD (ns.map D.int) l h = ms.map D.int ∧ ms.length ≤ ns.length := by
  refine ⟨(ns.drop (HT.sIx ns.length 0 l)).take (HT.sIx ns.length ns.length h - HT.sIx ns.length 0 l), ?_, ?_⟩
  · unfold Ev.cutD
    rw [List.length_map, List.map_take, List.map_drop]
  · rw [List.length_take, List.length_drop]
    omega
theorem ev_bf {call : CallF} {n : Nat} {c : Cf} {δ : Dv} {S S1 : List Ob} {f : Str} {args : List Expr} {p pos : Pos} {xs : List D} {d : D} (h0 : (dbg f || !isGl c.sc f) = false) (hd : md.defs f = none) (hx : md.exs f = none) (ha : (([] : List Keyword).isEmpty && md.bfn f && !args.isEmpty) = true) (h1 : evL (evE md call n c δ) S args = some (xs, S1)) (h2 : bfnD md f xs = some d) :
    evE md call (n + 1) c δ S (.Call (.Name f p) args [] pos) = some (d, S1) := by
  unfold evE
  simp only [h0, hd, hx, ha, h1, h2, Option.map_some, if_true, Bool.false_eq_true, if_false]
theorem items_law (ns : List Int) (hl : ns.length ≤ 63) : ∃ qs : List (Int × Int), (∀ q ∈ qs, 0 ≤ q.1 ∧ q.1 < 1000) ∧ evI md (callN md 3) 199 lwC (lwE (.klst (ns.map D.int)) none none none none none) [] (forI (st 34 0)) = some (qs.map fun q => D.tup [.int q.1, .int q.2], []) := by
  obtain ⟨ms, hc, hm⟩ := cut_ints ns none (some 4)
  refine ⟨(ms ++ [ns.sum]).mapIdx fun i m => ((i : Int), m), fun q hq => ?_, ?_⟩
  · obtain ⟨i, hi, e⟩ := List.mem_mapIdx.mp hq
    subst e
    rw [List.length_append, List.length_singleton] at hi
    refine ⟨by simp, ?_⟩
    show (i : Int) < 1000
    omega
  · have he : evE md (callN md 3) 199 lwC (lwE (.klst (ns.map D.int)) none none none none none) [] (match forI (st 34 0) with | .Call _ (a :: _) _ _ => a | e => e) = some (.lst ((ms ++ [ns.sum]).map D.int), []) := by
      refine ev_bin (n := 198) (x := .lst (ms.map D.int)) (y := .lst [.int ns.sum]) (S1 := []) (S2 := []) ?_ ?_ ?_
      · rw [← hc]
        exact ev_slice (n := 197) (S1 := []) (S2 := []) (l := none) (h := some 4) (ev_nm (d := .klst (ns.map D.int)) (by kernel_rfl)) rfl (by kernel_rfl)
      · refine ev_lst (n := 197) (evL_cons (S1 := []) (by kernel_rfl) (ev_bf (n := 196) (xs := [.klst (ns.map D.int)]) (by kernel_rfl) (by kernel_rfl) (by kernel_rfl) (by kernel_rfl) (evL_cons (by kernel_rfl) (ev_nm (d := .klst (ns.map D.int)) (by kernel_rfl)) evL_nil) ?_) evL_nil) rfl
        show (intsD (ns.map D.int)).map (fun ns => D.int ns.sum) = _
        rw [ints_of] <;> rfl
      · show (if sizeB ((ms.map D.int).length + ([D.int ns.sum] : List D).length) = true then some (D.lst (ms.map D.int ++ [.int ns.sum])) else none) = _
        rw [if_pos (by rw [List.length_map]; exact decide_eq_true (by simp; omega)), List.map_append] <;> rfl
    have e2 : evI md (callN md 3) 199 lwC (lwE (.klst (ns.map D.int)) none none none none none) [] (forI (st 34 0)) = (match evE md (callN md 3) 199 lwC (lwE (.klst (ns.map D.int)) none none none none none) [] (match forI (st 34 0) with | .Call _ (a :: _) _ _ => a | e => e) with
      | some (.lst xs, S1) => some ((xs.mapIdx fun i x => D.tup [.int i, x]), S1)
      | _ => none) := by kernel_rfl
    rw [e2, he]
    show some (((ms ++ [ns.sum]).map D.int).mapIdx (fun i x => D.tup [.int i, x]), ([] : List Ob)) = _
    congr 2
    apply List.ext_getElem?
    intro i
    simp only [List.getElem?_mapIdx, List.getElem?_map]
    cases (ms ++ [ns.sum])[i]? <;> rfl
theorem rest_ok (x : D) (y1 y2 y3 y4 y5 : Option SV) (S : List Ob) : exSs (exS md (callN md 3) 200 lwC) (lwE x y1 y2 y3 y4 y5) S (defBody (top 34)).tail = some (.ret (.bl true) S) := by kernel_rfl
theorem pure_ok : ∀ ns : List Int, ns.length ≤ 63 → ∃ S', callN md 4 "law" [.klst (ns.map D.int)] [] = some (.bl true, S') := by
  intro ns hl
  obtain ⟨qs, hq, hi⟩ := items_law ns hl
  obtain ⟨z1, z2, z3, z4, z5, S', e⟩ := turns_all (.klst (ns.map D.int)) qs hq none none none none none []
  refine ⟨S', (call_run (di := ⟨["script"], lwN, top 34⟩) (by kernel_rfl)).trans (run_ret rfl ?_)⟩
  have fz : frz lwC [forI (st 34 0)] (lwE (.klst (ns.map D.int)) none none none none none) = lwE (.klst (ns.map D.int)) none none none none none := by kernel_rfl
  have e1 : exS md (callN md 3) 200 lwC (lwE (.klst (ns.map D.int)) none none none none none) [] (st 34 0) = some (.nx (lwE (.klst (ns.map D.int)) z1 z2 z3 z4 z5) S') :=
    st_for (n := 199) (S1 := []) (tg := forT (st 34 0)) (it := forI (st 34 0)) (body := forB (st 34 0)) (by kernel_rfl) (by rw [fz]; exact hi) (by rw [fz]; exact e)
  exact ss_cons e1 (rest_ok _ z1 z2 z3 z4 z5 S')
end K99

/-! The law, over its pure part. -/
namespace K99
open PySem PySem.Spec PyProof.Rows L2 Ev
/-- the machine's word on the law -/
def Pure : Prop := ∀ ns : List Int, ns.length ≤ 63 → ∃ S', callN md 4 "law" [.klst (ns.map D.int)] [] = some (.bl true, S')
def tb (K : PySem.W.Frag) : Tb := ⟨K, md.exs⟩
section
variable {K : PySem.W.Frag} {h : Heap} {mg : Str → Option Value}
theorem ba {a b : Bool} (h : (a && b) = true) : a = true ∧ b = true := Bool.and_eq_true_iff.mp h
theorem glo_of (X : K.In h) (G : h.Ns mainGlobals mg) (c : He.SaysD fa fn K) {x : Str} (hx : x ∈ kinds ++ (defsL.map (fun r => r.1) : List Str)) : mg x = some (.ref (He.ga K x)) :=
  He.glo_ok X G (c.facts (f := .glo x) (List.mem_append_left _ (List.mem_map_of_mem hx)))
theorem free_of (X : K.In h) (G : h.Ns mainGlobals mg) (c : He.SaysD fa fn K) {x : Str} (hx : x ∈ frees) : mg x = none :=
  He.free_ok X G (c.facts (f := .free x) (List.mem_append_right _ (List.mem_map_of_mem hx)))
theorem lk_mem {α : Type} {l : List (Str × α)} {x : Str} {a : α} (h : l.lookup x = some a) : (x, a) ∈ l := PySem.mem_of_lookup h
theorem kind_mem {x : Str} (hx : ((md.exs x).isSome || md.own x) = true) : x ∈ kinds := by
  rcases Bool.or_eq_true_iff.mp hx with z | z
  · obtain ⟨y, hy⟩ := Option.isSome_iff_exists.mp z
    exact List.mem_append_left _ (List.mem_map_of_mem (f := fun r => r.1) (lk_mem (show exsL.lookup x = some y from hy)))
  · have e : x = "RealError" := by simpa using (show (x == ("RealError" : Str)) = true from z)
    exact List.mem_append_right _ (by rw [e]; exact List.mem_singleton.mpr rfl)
theorem isVal_ok {o : Option PySem.W.CFound} {id : String} (h : isVal o id = true) : o = some (.val (.builtin id)) := by
  unfold isVal at h
  split at h
  · rw [of_decide_eq_true h]
  · cases h
theorem cls_ok {C : Addr} {B newId initId : String} {bmB : List Value} {ff : Str} (fb : ExcBaseFacts B newId initId bmB) (sf : StoreFacts B bmB "object.__setattr__" "object") (sg : PySem.W.specialIn K (.builtin "object.__class__") "__get__" = some (some (.builtin "getset_descriptor.__get__"))) (ti : PySem.W.takesIn K (.builtin "object.__class__") = some true)
    (h : clsB K C ff newId bmB = true) : ClsK K C ff B newId initId bmB ∧ PySem.W.findIn K (.ref C) "__init__" = some (some (.ref (He.ma K C "__init__"))) ∧ PySem.W.typeIn K (.ref (He.ma K C "__init__")) = some (.type "function") := by
  unfold clsB at h
  obtain ⟨h, a15⟩ := ba h
  obtain ⟨h, a14⟩ := ba h
  obtain ⟨h, a13⟩ := ba h
  obtain ⟨h, a12⟩ := ba h
  obtain ⟨h, a11⟩ := ba h
  obtain ⟨h, a10⟩ := ba h
  obtain ⟨h, a9⟩ := ba h
  obtain ⟨h, a8⟩ := ba h
  obtain ⟨h, a7⟩ := ba h
  obtain ⟨h, a6⟩ := ba h
  obtain ⟨h, a5⟩ := ba h
  obtain ⟨h, a4⟩ := ba h
  obtain ⟨h, a3⟩ := ba h
  obtain ⟨a1, a2⟩ := ba h
  exact ⟨⟨fb, sf, a1, a2, of_decide_eq_true a3, a4, of_decide_eq_true a5, of_decide_eq_true a6, of_decide_eq_true a7, of_decide_eq_true a8, of_decide_eq_true a9, of_decide_eq_true a10, of_decide_eq_true a11, sg, ti, of_decide_eq_true a12, a13⟩, of_decide_eq_true a14, of_decide_eq_true a15⟩
/-- the pattern of an __init__ -/
theorem init_pat {x : ExI} {st : Stmt} (h : initChk x st = true) : ∃ (a1 a2 : Option Expr) (q1 q2 : Pos) (ds : List Expr) (p1 p2 p3 p4 p5 p6 p7 p8 p9 p10 : Pos) (k0 : Nat), defArgs st = initPs x.fld a1 a2 q1 q2 ds ∧ defBody st = initBody x.via x.msg x.fld p1 p2 p3 p4 p5 p6 p7 p8 p9 p10 k0 ∧
    (p2.endLine == p5.line) = true ∧ isGl (defScope st) x.via = true ∧ FnScope ["self", x.fld] ["self", x.fld] (defScope st) := by
  unfold initChk at h
  split at h
  · rename_i e1 e2
    obtain ⟨h, a12⟩ := ba h
    obtain ⟨h, a11⟩ := ba h
    obtain ⟨h, a10⟩ := ba h
    obtain ⟨h, a9⟩ := ba h
    obtain ⟨h, a8⟩ := ba h
    obtain ⟨h, a7⟩ := ba h
    obtain ⟨h, a6⟩ := ba h
    obtain ⟨h, a5⟩ := ba h
    obtain ⟨h, a4⟩ := ba h
    obtain ⟨h, a3⟩ := ba h
    obtain ⟨a1, a2⟩ := ba h
    have a1 := of_decide_eq_true a1
    have a2 := of_decide_eq_true a2
    have a3 := of_decide_eq_true a3
    have a4 := of_decide_eq_true a4
    have a5 := of_decide_eq_true a5
    have a6 := of_decide_eq_true a6
    have a7 := of_decide_eq_true a7
    have a8 := of_decide_eq_true a8
    have a9 := of_decide_eq_true a9
    subst a1 a2 a3 a4 a5 a6 a8 a9
    rw [e1, e2, a7]
    exact ⟨_, _, _, _, _, _, _, _, _, _, _, _, _, _, _, _, rfl, rfl, a10, a11, C8.fnScope_by a12⟩
  · cases h
theorem via_of (X : K.In h) (G : h.Ns mainGlobals mg) (c : He.SaysD fa fn K) (e : ex K = true) {P : Program} {w : World} {scope : Scope} {via : Str} {id : String} (hg : isGl scope via = true)
    (hv : (via = "RealError" ∧ id = "ValueError.__init__") ∨ (via = "OverflowError" ∧ id = "OverflowError.__init__") ∨ (via = "LookupError" ∧ id = "LookupError.__init__")) : ∀ Y : Cx, Y.prog = P → Y.w = w → Y.K = K → Y.mg = mg → Y.env.scope = scope → Via Y via id := by
  intro Y y1 y2 y3 y4 y5
  unfold ex at e
  obtain ⟨e, f7⟩ := ba e
  obtain ⟨e, f6⟩ := ba e
  obtain ⟨e, f5⟩ := ba e
  obtain ⟨e, f4⟩ := ba e
  obtain ⟨e, f3⟩ := ba e
  have gl : Gl Y via := by
    show Y.env.scope.names.lookup via = some .globalImplicit
    rw [y5]
    exact isGl_of hg
  rcases hv with ⟨rfl, rfl⟩ | ⟨rfl, rfl⟩ | ⟨rfl, rfl⟩
  · exact via_own gl (by rw [y4]; exact glo_of X G c (by decide +kernel)) rfl (by rw [y3]; exact of_decide_eq_true f3) (by rw [y3]; exact f4) (by rw [y3]; exact isVal_ok f5) (by decide +kernel)
  · exact via_blt (T := "OverflowError") gl (by rw [y4]; exact free_of X G c (by decide +kernel)) PyProof.Rows.Boot.«OverflowError» (by decide) rfl (by kernel_rfl) (by decide +kernel) (by rw [y3]; exact isVal_ok f6) (by decide +kernel)
  · exact via_blt (T := "LookupError") gl (by rw [y4]; exact free_of X G c (by decide +kernel)) PyProof.Rows.Boot.«LookupError» (by decide) rfl (by kernel_rfl) (by decide +kernel) (by rw [y3]; exact isVal_ok f7) (by decide +kernel)
theorem exsI_of {c : Str} {x : ExI} (hx : md.exs c = some x) : ∃ i, (c, x, i) ∈ exsI := by
  obtain ⟨j, hj, e⟩ := List.mem_iff_getElem.mp (lk_mem (show exsL.lookup c = some x from hx))
  exact ⟨j + 2, by
    unfold exsI
    exact List.mem_mapIdx.mpr ⟨j, hj, by rw [e]⟩⟩
theorem shapes : exsL.all (fun r => (r.2.opt && (decide (r.2.fld = "value") || decide (r.2.fld = "place"))) || (!r.2.opt && decide (r.2.fld = "most"))) = true := by decide +kernel
theorem xok (X : K.In h) (G : h.Ns mainGlobals mg) (c : He.SaysD fa fn K) (e : ex K = true) {P : Program} {w : World} {base : Heap} {n : Str} {x : ExI} (hx : md.exs n = some x) : XOk P w K mg base n x := by
  have hm := lk_mem (show exsL.lookup n = some x from hx)
  obtain ⟨i, hi⟩ := exsI_of hx
  obtain ⟨fd, F⟩ := c.defs (d := initD (n, x, i)) (List.mem_append_right _ (List.mem_map_of_mem hi))
  obtain ⟨a1, a2, q1, q2, ds, p1, p2, p3, p4, p5, p6, p7, p8, p9, p10, k0, h1, h2, h3, h4, h5⟩ := init_pat (List.all_eq_true.mp inits_ok _ hi)
  have e0 := e
  unfold ex at e
  obtain ⟨e, f7⟩ := ba e
  obtain ⟨e, f6⟩ := ba e
  obtain ⟨e, f5⟩ := ba e
  obtain ⟨e, f4⟩ := ba e
  obtain ⟨e, f3⟩ := ba e
  obtain ⟨e, f2⟩ := ba e
  obtain ⟨e, f1⟩ := ba e
  have hb := (ba (ba (List.all_eq_true.mp e _ hm)).1).1
  have F : FunD K "__init__" (n ++ ".__init__") (defArgs (initS i)) (defBody (initS i)) (defScope (initS i)) ((if x.opt then [He.Dv.non] else []).map (He.Dv.v K)) [] (He.ma K (He.ga K n) "__init__") fd := F
  rw [h1, h2] at F
  have bn : Bnds K fd x.fld x.opt := by
    have sh := List.all_eq_true.mp shapes _ hm
    rcases Bool.or_eq_true_iff.mp sh with z | z
    · obtain ⟨z1, z2⟩ := ba z
      have z1 : x.opt = true := z1
      rw [z1] at F ⊢
      refine bnds_opt F ?_
      rcases Bool.or_eq_true_iff.mp z2 with z | z
      · exact .inl (of_decide_eq_true z)
      · exact .inr (of_decide_eq_true z)
    · obtain ⟨z1, z2⟩ := ba z
      have z1 : x.opt = false := by simpa using z1
      have z2 : x.fld = "most" := of_decide_eq_true z2
      rw [z1, z2] at F
      rw [z1, z2]
      exact bnds_most F
  have dd : (x.fld == ("__debug__" : Str)) = false ∧ (x.fld == ("__classdict__" : Str)) = false := by
    have sh := List.all_eq_true.mp shapes _ hm
    rcases Bool.or_eq_true_iff.mp sh with z | z
    · rcases Bool.or_eq_true_iff.mp (ba z).2 with z | z
      · rw [show x.fld = "value" from of_decide_eq_true z]; exact ⟨by decide, by decide⟩
      · rw [show x.fld = "place" from of_decide_eq_true z]; exact ⟨by decide, by decide⟩
    · rw [show x.fld = "most" from of_decide_eq_true (ba z).2]; exact ⟨by decide, by decide⟩
  have sg := of_decide_eq_true f1
  have ti := of_decide_eq_true f2
  have fin : ∀ {B newId initId : String} {bmB : List Value}, ExcBaseFacts B newId initId bmB → StoreFacts B bmB "object.__setattr__" "object" → clsB K (He.ga K n) x.fld newId bmB = true →
      ((x.via = "RealError" ∧ initId = "ValueError.__init__") ∨ (x.via = "OverflowError" ∧ initId = "OverflowError.__init__") ∨ (x.via = "LookupError" ∧ initId = "LookupError.__init__")) → XOk P w K mg base n x := fun fb sf g hv => by
    obtain ⟨T, i1, i2⟩ := cls_ok fb sf sg ti g
    exact xOk_of T i1 i2 (init_ok F h5 T dd.1 dd.2 (via_of X G c e0 h4 hv) h3) bn
  unfold baseB at hb
  split at hb
  · obtain ⟨g1, g2⟩ := ba hb
    exact fin PySem.F.excBase_ValueError PySem.F.store_ValueError g1 (.inl ⟨of_decide_eq_true g2, rfl⟩)
  · split at hb
    · obtain ⟨g1, g2⟩ := ba hb
      exact fin PySem.F.excBase_OverflowError PySem.F.store_OverflowError g1 (.inr (.inl ⟨of_decide_eq_true g2, rfl⟩))
    · split at hb
      · obtain ⟨g1, g2⟩ := ba hb
        exact fin PySem.F.excBase_LookupError PySem.F.store_LookupError g1 (.inr (.inr ⟨of_decide_eq_true g2, rfl⟩))
      · cases hb
/-- a def of the text -/
theorem dfok (X : K.In h) (G : h.Ns mainGlobals mg) (c : He.SaysD fa fn K) {f : Str} {di : DefI} (hd : md.defs f = some di) : DfOk K mg f di := by
  have hm := lk_mem (show defsL.lookup f = some di from hd)
  obtain ⟨fd, F⟩ := c.defs (d := defD (f, di)) (List.mem_append_left _ (List.mem_map_of_mem hm))
  have F : FunD K f f (defArgs di.st) (defBody di.st) (defScope di.st) [] [] (He.ga K f) fd := F
  have F2 : L2.Fun K f f di.st (He.ga K f) fd := by
    obtain ⟨oc, od, dV, kV, doc, pm, an, cdv, ct, osl, rfl, lk, hcd, hD, hK⟩ := F.ex
    rcases hD with ⟨_, rfl⟩ | ⟨z, _⟩
    · exact ⟨⟨oc, od, kV, doc, pm, an, cdv, ct, osl, rfl, lk, hcd⟩, F.kp⟩
    · exact absurd rfl z
  have sc : FnScope di.N di.ps (defScope di.st) := C8.fnScope_by (List.all_eq_true.mp (show defsL.all (fun r => C8.scC r.2.N r.2.ps (defScope r.2.st)) = true by decide +kernel) _ hm)
  have mgf : mg f = some (.ref (He.ga K f)) := glo_of X G c (List.mem_append_right _ (List.mem_map_of_mem (f := fun r => r.1) hm))
  refine ⟨⟨fd, F2, ?_⟩, sc, mgf⟩
  simp only [defsL, List.mem_cons, List.mem_nil_iff, or_false, List.not_mem_nil, Prod.mk.injEq] at hm
  rcases hm with ⟨rfl, rfl⟩ | ⟨rfl, rfl⟩ | ⟨rfl, rfl⟩ | ⟨rfl, rfl⟩ | ⟨rfl, rfl⟩ | ⟨rfl, rfl⟩ | ⟨rfl, rfl⟩ | ⟨rfl, rfl⟩
  · exact F2.binds fun _ _ _ _ _ _ us hl => match us, hl with | [_, _], _ => rfl
  · exact F2.binds fun _ _ _ _ _ _ us hl => match us, hl with | [_, _], _ => rfl
  · exact F2.binds fun _ _ _ _ _ _ us hl => match us, hl with | [_, _], _ => rfl
  · exact F2.binds fun _ _ _ _ _ _ us hl => match us, hl with | [_], _ => rfl
  · exact F2.binds fun _ _ _ _ _ _ us hl => match us, hl with | [_], _ => rfl
  · exact F2.binds fun _ _ _ _ _ _ us hl => match us, hl with | [_], _ => rfl
  · exact F2.binds fun _ _ _ _ _ _ us hl => match us, hl with | [_], _ => rfl
  · exact F2.binds fun _ _ _ _ _ _ us hl => match us, hl with | [_], _ => rfl
theorem mdb (X : K.In h) (G : h.Ns mainGlobals mg) (c : He.SaysD fa fn K) (e : ex K = true) (P : Program) (w : World) (base : Heap) : MdB P w mg base (tb K) md where
  exs := rfl
  gl := fun x hx => glo_of X G c (List.mem_append_left _ (kind_mem hx))
  ty := fun x n hn => by
    have hn : (if x == ("ValueError" : Str) then some "ValueError" else if x == ("LookupError" : Str) then some "LookupError" else if x == ("OverflowError" : Str) then some "OverflowError" else none) = some n := hn
    split at hn
    · rename_i z
      obtain rfl : x = "ValueError" := by simpa using z
      cases hn
      exact ⟨free_of X G c (by decide +kernel), PyProof.Rows.Boot.«ValueError»⟩
    · split at hn
      · rename_i z
        obtain rfl : x = "LookupError" := by simpa using z
        cases hn
        exact ⟨free_of X G c (by decide +kernel), PyProof.Rows.Boot.«LookupError»⟩
      · split at hn
        · rename_i z
          obtain rfl : x = "OverflowError" := by simpa using z
          cases hn
          exact ⟨free_of X G c (by decide +kernel), PyProof.Rows.Boot.«OverflowError»⟩
        · cases hn
  fn := fun x hx => free_of X G c (List.mem_append_left _ (List.contains_iff_mem.mp (show (["isinstance", "sum", "str", "enumerate", "range"] : List Str).contains x = true from hx)))
  kitC := fun n x d hn hd => by
    have hm := lk_mem (show exsL.lookup n = some x from hn)
    unfold ex at e
    have e := List.all_eq_true.mp (ba (ba (ba (ba (ba (ba (ba e).1).1).1).1).1).1).1 _ hm
    exact of_decide_eq_true (List.all_eq_true.mp (ba (ba e).1).2 d (kind_mem hd))
  kitT := fun n x t hn ht => by
    have hm := lk_mem (show exsL.lookup n = some x from hn)
    unfold ex at e
    have e := List.all_eq_true.mp (ba (ba (ba (ba (ba (ba (ba e).1).1).1).1).1).1).1 _ hm
    exact of_decide_eq_true (List.all_eq_true.mp (ba e).2 t (List.contains_iff_mem.mp (show tys.contains t = true from ht)))
  x := fun n x hx => xok X G c e hx
  dfs := fun f di hd => dfok X G c hd
/-- the law's promise -/
theorem law_sp (p : Pure) {H : Hp} {a : Addr} {ns : List Int} (hl : ns.length ≤ 63) (hO : Only H) (hS : SqL K H a (ns.map V.int)) : spF (tb K) (callN md 4) "law" 1 [.ref a] H (fun v _ => v = .bl true) fun _ _ _ => False := by
  obtain ⟨S', e⟩ := p ns hl
  have kq : KQ K ⟨fun _ => 0, 0, fun _ => False⟩ H a (ns.map V.int) := by
    rcases hS with z | z
    · rcases z with z | ⟨o, z⟩
      · rcases hO a with q | ⟨o, xs, q⟩
        · rw [z] at q; cases q
        · rw [z] at q; cases q
      · exact .inl ⟨o, z, fun q => q.elim (fun ⟨i, hi, _⟩ => absurd hi (Nat.not_lt_zero i)) id⟩
    · exact .inr z
  exact ⟨⟨fun _ => 0, 0, fun _ => False⟩, [], [.klst (ns.map D.int)], .bl true, S', e, rfl, ⟨rfl, fun i o q => by simp at q, fun i j hi => absurd hi (Nat.not_lt_zero i), fun i hi => absurd hi (Nat.not_lt_zero i), fun a q => q.elim⟩, .cons (.klst kq (RepDs.ints ns)) .nil, fun g' H' v _ _ r => by cases r; rfl⟩
end
theorem holds (p : Pure) : PySem.Challenge.rw_everyreal_k99_errors_by_hand.Holds := by
  open PySem.W PySem.Calls in
  w_on; o_law
  refine HandSHeadRun.head_any (r := R) (q := view R.prog [34]) (H := hk) (ob := ob) (M := 20000) (loose := loose) (d := HandSHeadRun.topDef R.prog 34) (kwd := []) ob_eq
    (by kernel_rfl) (fun s => by kernel_rfl) run (by kernel_rfl) (by kernel_rfl) (by kernel_rfl) (by rfl) (by first | assumption | decide +kernel) (by decide +kernel) ⟨rfl, rfl, rfl, rfl, rfl, by decide +kernel⟩ ?hw ?hc
  case hw => w_witness2
  case hc =>
    refine L2.walk_ofE (l := PySem.Challenge.rw_everyreal_k99_errors_by_hand) (n := 63) (k := 8) (x := "script") (CX := L2.CX0) rfl (by decide) (by kernel_rfl) ⟨rfl, by decide, by decide⟩ ?F (fun _ _ _ _ z => z)
    intro w mg fAd h Y G hmg0
    obtain ⟨K, KX, c, e⟩ := Y
    have hmg : mg ("law" : PySem.Str) = some (.ref fAd) := by
      have e : (HandSHeadRun.topDef R.prog 34).name = ("law" : PySem.Str) := by kernel_rfl
      rw [← e]
      exact hmg0
    have hlaw : md.defs "law" = some ⟨["script"], ["script", "k", "cell", "state", "number", "some", "others", "e", "rows", "thing", "made", "one", "other", "name"], top 34⟩ := by kernel_rfl
    obtain ⟨⟨_, _, _⟩, sc, hm⟩ := dfok KX G c hlaw
    obtain ⟨fd, FD⟩ := c.defs (d := defD ("law", ⟨["script"], ["script", "k", "cell", "state", "number", "some", "others", "e", "rows", "thing", "made", "one", "other", "name"], top 34⟩)) (by
      refine List.mem_append_left _ (List.mem_map_of_mem ?_)
      simp [defsL])
    have FD : FunD K "law" "law" (defArgs (top 34)) (defBody (top 34)) (defScope (top 34)) [] [] (He.ga K "law") fd := FD
    have b := FunD.bindsA (ps := ["script"]) FD fun _ _ _ _ _ _ us hl => match us, hl with | [_], _ => rfl
    have F0 : L2.Fun K "law" "law" (top 34) (He.ga K "law") fd := by
      obtain ⟨oc, od, dV, kV, doc, pm, an, cdv, ct, osl, rfl, lk, hcd, hD, hK⟩ := FD.ex
      rcases hD with ⟨_, rfl⟩ | ⟨z, _⟩
      · exact ⟨⟨oc, od, kV, doc, pm, an, cdv, ct, osl, rfl, lk, hcd⟩, FD.kp⟩
      · exact absurd rfl z
    have ea : fAd = He.ga K "law" := by
      rw [hmg] at hm
      cases hm
      rfl
    subst ea
    exact ⟨K, fd, spF (tb K) (callN md 4) "law" 1, KX, fun s u => b s [u] rfl, fun H a ns hl hO hS => law_sp p hl hO hS, fun base _ _ => def_ok (T := tb K) (f := "law") (di := ⟨["script"], ["script", "k", "cell", "state", "number", "some", "others", "e", "rows", "thing", "made", "one", "other", "name"], top 34⟩) (md_all (mdb KX G c e _ w base) 3) F0 sc hlaw⟩
end K99

theorem PySem.Challenge.cw_everyreal_k99_errors_by_hand_holds : PySem.Challenge.rw_everyreal_k99_errors_by_hand.Holds := by
  exact K99.holds K99.pure_ok
