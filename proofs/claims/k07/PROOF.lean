import PyProof.Rows.All
import Wide.All
import OpenK.AllK
import Wide.FinOn
import HandS.ForMost
import HandS.Exc
import HandS.Wide
import HandS.Gcd
import HandS.TupMul
import HandS.TupAny
import HandS.Style
import HandS.Zip
import HandS.TryOnly
import HandS.ExcInit
import KE.KExcSuper
import KE.KSuper
import HandS.Nested
import HandS.ExcField
import HandS.HeadHook2
import PyProof.ReprRoads
import KE.RegKMathGC
import KE.KMathG
import PyProof.P3In
import HandS.WordsDict
import HandS.Defaults
import HandS.EndBits
import HandS.Head3
import HandS.IsInst
import PySem.Challenge.RW_copiedcurves_k07_fractions_by_cross_prod
section
set_option Elab.async false
set_option linter.all false
set_option maxRecDepth 100000
namespace Cv
open PySem L2
noncomputable section
open Classical

inductive DV where
  | non | bl (b : Bool) | int (i : Int) | str (x : Str)
  | tup (ds : List DV) | lst (ds : List DV) | dct (ks : List Key) (ds : List DV)
  | loc (n : Nat) | glb (n : Nat) | scr (is : List Int)
  | xc (c : String) (fs : List Str) (ds : List DV)

inductive Ob where
  | lst (ds : List DV) | dct (ks : List Key) (ds : List DV) | ins (c : String) (fs : List Str) (ds : List DV)

structure Sta where
  env : List (Option DV)
  lh : List (Bool × Ob)
  gh : List Ob

inductive Out (σ α : Type) where
  | ok (a : α) (s : σ) | ex (x : DV) (s : σ) | bad

namespace Out
variable {σ α β : Type}
def bind (o : Out σ α) (f : α → σ → Out σ β) : Out σ β := match o with
  | .ok a s => f a s
  | .ex x s => .ex x s
  | .bad => .bad
@[simp] theorem bind_ok (a : α) (s : σ) (f : α → σ → Out σ β) : bind (.ok a s) f = f a s := rfl
@[simp] theorem bind_ex (x : DV) (s : σ) (f : α → σ → Out σ β) : bind (.ex x s) f = .ex x s := rfl
@[simp] theorem bind_bad (f : α → σ → Out σ β) : bind (.bad : Out σ α) f = .bad := rfl
end Out

inductive Fl where
  | nx | bk | ct | rt (d : DV)

abbrev Fn := List DV → List Ob → Out (List Ob) DV
abbrev Cal := Nat → Fn
abbrev Ex := Sta → Out Sta DV
abbrev Exs := Sta → Out Sta (List DV)
abbrev Sm := Sta → Out Sta Fl

def Ob.val : Ob → DV
  | .lst ds => .lst ds
  | .dct ks ds => .dct ks ds
  | .ins c fs ds => .non
def look (st : Sta) : DV → DV
  | .loc n => match st.lh[n]? with
    | some (_, o) => o.val
    | none => .loc n
  | .glb n => match st.gh[n]? with
    | some (.lst ds) => .lst ds
    | some (.dct ks ds) => .dct ks ds
    | _ => .glb n
  | d => d
def frz (d : DV) (st : Sta) : Out Sta DV := match d with
  | .loc n => match st.lh[n]? with
    | some (_, o) => .ok o.val { st with lh := st.lh.set n (true, o) }
    | none => .bad
  | d => .ok d st
def out (f : Ex) : Ex := fun st => (f st).bind frz

def optO {α : Type} (o : Option α) (st : Sta) : Out Sta α := match o with
  | some a => .ok a st
  | none => .bad
@[simp] theorem optO_some {α : Type} (a : α) (st : Sta) : optO (some a) st = .ok a st := rfl
@[simp] theorem optO_none {α : Type} (st : Sta) : optO (none : Option α) st = .bad := rfl

def cst (d : DV) : Ex := fun st => .ok d st
def var (i : Nat) : Ex := fun st => match st.env[i]? with
  | some (some d) => .ok d st
  | _ => .bad
def vw1 (r : DV → Option DV) (f : Ex) : Ex := fun st => (f st).bind fun a s => optO (r (look s a)) s
def vw2 (r : DV → DV → Option DV) (f g : Ex) : Ex := fun st => (f st).bind fun a s => (g s).bind fun b s => optO (r (look s a) (look s b)) s
def ife (c a b : Ex) : Ex := fun st => (c st).bind fun x s => match x with
  | .bl true => a s
  | .bl false => b s
  | _ => .bad
def andE (a b : Ex) : Ex := fun st => (a st).bind fun x s => match x with
  | .bl true => b s
  | .bl false => .ok (.bl false) s
  | _ => .bad
def orE (a b : Ex) : Ex := fun st => (a st).bind fun x s => match x with
  | .bl false => b s
  | .bl true => .ok (.bl true) s
  | _ => .bad
def nilE : Exs := fun st => .ok [] st
def consE (f : Ex) (g : Exs) : Exs := fun st => (out f st).bind fun a s => (g s).bind fun as s => .ok (a :: as) s
def tupE (g : Exs) : Ex := fun st => (g st).bind fun as s => if as.length ≤ sizeLine then .ok (.tup as) s else .bad
inductive Md | val | loc | glb
def keepO (m : Md) (o : Ob) : Ex := fun st => match m with
  | .val => .ok o.val st
  | .loc => .ok (.loc st.lh.length) { st with lh := st.lh ++ [(false, o)] }
  | .glb => .ok (.glb st.gh.length) { st with gh := st.gh ++ [o] }
def keep (m : Md) (ds : List DV) : Ex := keepO m (.lst ds)
def keepD (m : Md) (ks : List Key) (ds : List DV) : Ex := keepO m (.dct ks ds)
def lstE (m : Md) (g : Exs) : Ex := fun st => (g st).bind fun as s => if as.length ≤ sizeLine then keep m as s else .bad
def calD (F : Fn) (g : Exs) : Ex := fun st => (g st).bind fun as s => match F as s.gh with
  | .ok d gh => .ok d { s with gh := gh }
  | .ex x gh => .ex x { s with gh := gh }
  | .bad => .bad
def fGet : List Str → List DV → Str → Option DV
  | k :: ks, d :: ds, q => if k = q then some d else fGet ks ds q
  | _, _, _ => none
def fPut : List Str → List DV → Str → DV → List Str × List DV
  | k :: ks, d :: ds, q, y => if k = q then (k :: ks, y :: ds) else (k :: (fPut ks ds q y).1, d :: (fPut ks ds q y).2)
  | _, _, q, y => ([q], [y])
def fldE (cs : List String) (x : Str) (f : Ex) : Ex := fun st => (f st).bind fun d s => match d with
  | .glb n => match s.gh[n]? with
    | some (.ins c fs ds) => if c ∈ cs then optO (fGet fs ds x) s else .bad
    | _ => .bad
  | _ => .bad
def metO (F : Fn) (n : Nat) (as : List DV) (s : Sta) : Out Sta DV := match F (.glb n :: as) s.gh with
  | .ok d gh => .ok d { s with gh := gh }
  | .ex x gh => .ex x { s with gh := gh }
  | .bad => .bad
def metE (c : String) (m : Str) (F : Fn) (f : Ex) (g : Exs) : Ex := fun st => (f st).bind fun d s => match d with
  | .glb n => match s.gh[n]? with
    | some (.ins c' fs ds) => if c' = c ∧ fGet fs ds m = none then (g s).bind fun as s => metO F n as s else .bad
    | _ => .bad
  | _ => .bad
def makE (c : String) (F : Fn) (g : Exs) : Ex := fun st => (g st).bind fun as s => match F (.glb s.gh.length :: as) (s.gh ++ [.ins c [] []]) with
  | .ok .non gh => .ok (.glb s.gh.length) { s with gh := gh }
  | .ok _ _ => .bad
  | .ex x gh => .ex x { s with gh := gh }
  | .bad => .bad

structure Src where
  ds : List DV
  gd : List DV
abbrev Ite := Sta → Out Sta Src
def items : DV → Option (List DV)
  | .lst ds => some ds
  | .tup ds => some ds
  | .scr is => some (is.map .int)
  | _ => none
def stays (gd : List DV) (s s' : Sta) : Prop := ∀ d ∈ gd, look s' d = look s d
def isRef : DV → Bool
  | .loc _ => true
  | .glb _ => true
  | _ => false
def guardOf (d : DV) : List DV := if isRef d then [d] else []
def seqI (f : Ex) : Ite := fun st => (f st).bind fun d s => (optO (items (look s d)) s).bind fun ds s => .ok ⟨ds, guardOf d⟩ s
inductive Tg | one (i : Nat) | many (is : List Nat) | lst (is : List Nat)
def setE (i : Nat) (d : DV) (env : List (Option DV)) : List (Option DV) := env.set i (some d)
def setEs : List Nat → List DV → List (Option DV) → Option (List (Option DV))
  | [], [], env => some env
  | i :: is, d :: ds, env => setEs is ds (setE i d env)
  | _, _, _ => none
def Tg.bind (t : Tg) (d : DV) (st : Sta) : Out Sta Unit := match t with
  | .one i => .ok () { st with env := setE i d st.env }
  | .many is => match look st d with
    | .tup ds => match setEs is ds st.env with
      | some env => .ok () { st with env := env }
      | none => .bad
    | _ => .bad
  | .lst is => match look st d with
    | .lst ds => match setEs is ds st.env with
      | some env => .ok () { st with env := env }
      | none => .bad
    | _ => .bad

def wipeE (env : List (Option DV)) : List Nat → List (Option DV)
  | [] => env
  | v :: vs => (wipeE env vs).set v none
def tests : List Ex → Ex
  | [] => fun st => .ok (.bl true) st
  | f :: fs => fun st => (f st).bind fun x s => match x with
    | .bl true => tests fs s
    | .bl false => .ok (.bl false) s
    | _ => .bad
def lcGo (t : Tg) (own : List Nat) (c : Ex) (f : Ex) (env0 : List (Option DV)) (s0 : Sta) (gd : List DV) : List DV → Sta → List DV → Out Sta (List DV)
  | [], st, acc => .ok acc { st with env := env0 }
  | d :: ds, st, acc =>
    match t.bind d { st with env := wipeE env0 own } with
    | .ok _ s1 => match c s1 with
      | .ok (.bl true) s2 => match out f s2 with
        | .ok y s3 => if stays gd s0 s3 then lcGo t own c f env0 s0 gd ds s3 (acc ++ [y]) else .bad
        | _ => .bad
      | .ok (.bl false) s2 => if stays gd s0 s2 then lcGo t own c f env0 s0 gd ds s2 acc else .bad
      | _ => .bad
    | _ => .bad
def lcE (m : Md) (t : Tg) (own : List Nat) (it : Ite) (c : Ex) (f : Ex) : Ex := fun st => (it st).bind fun src s =>
  if src.ds.length ≤ sizeLine then (lcGo t own c f s.env s src.gd src.ds s []).bind fun ds s => keep m ds s else .bad

def pasS : Sm := fun st => .ok .nx st
def retS (f : Ex) : Sm := fun st => (out f st).bind fun d s => .ok (.rt d) s
def retN : Sm := fun st => .ok (.rt .non) st
def bkS : Sm := fun st => .ok .bk st
def ctS : Sm := fun st => .ok .ct st
def expS (f : Ex) : Sm := fun st => (f st).bind fun _ s => .ok .nx s
def asgS (t : Tg) (f : Ex) : Sm := fun st => (f st).bind fun d s => (t.bind d s).bind fun _ s => .ok .nx s
def seqS (f g : Sm) : Sm := fun st => (f st).bind fun fl s => match fl with
  | .nx => g s
  | fl => .ok fl s
def ifS (c : Ex) (a b : Sm) : Sm := fun st => (c st).bind fun x s => match x with
  | .bl true => a s
  | .bl false => b s
  | _ => .bad
def evs : List Ex → Exs
  | [] => fun st => .ok [] st
  | f :: fs => fun st => (f st).bind fun d s => (evs fs s).bind fun ds s => .ok (d :: ds) s
def conses : List Ex → Exs
  | [] => nilE
  | f :: fs => consE f (conses fs)
def dctE (m : Md) (ks : List Key) (fs : List Ex) : Ex := fun st => (conses fs st).bind fun ds s => keepD m ks ds s
def parS (is : List Nat) (fs : List Ex) : Sm := fun st => (evs fs st).bind fun ds s => match setEs is ds s.env with
  | some env => .ok .nx { s with env := env }
  | none => .bad
def augS (i : Nat) (r : DV → DV → Option DV) (f : Ex) : Sm := asgS (.one i) (vw2 r (var i) f)
def forGo (t : Tg) (b : Sm) (s0 : Sta) (gd : List DV) : List DV → Sta → Out Sta Fl
  | [], st => .ok .nx st
  | d :: ds, st => (t.bind d st).bind fun _ s => (b s).bind fun fl s => match fl with
    | .nx => if stays gd s0 s then forGo t b s0 gd ds s else .bad
    | .ct => if stays gd s0 s then forGo t b s0 gd ds s else .bad
    | .bk => .ok .nx s
    | .rt d => .ok (.rt d) s
def forS (t : Tg) (it : Ite) (b : Sm) : Sm := fun st => (it st).bind fun src s => forGo t b s src.gd src.ds s
def wl (c : Ex) (b : Sm) : Nat → Sta → Out Sta Fl
  | 0, _ => .bad
  | n + 1, st => (c st).bind fun x s => match x with
    | .bl true => (b s).bind fun fl s => match fl with
      | .nx => wl c b n s
      | .ct => wl c b n s
      | .bk => .ok .nx s
      | .rt d => .ok (.rt d) s
    | .bl false => .ok .nx s
    | _ => .bad
def whlS (c : Ex) (b : Sm) : Sm := fun st => if h : ∃ n, wl c b n st ≠ .bad then wl c b (choose h) st else .bad

def chg (d : DV) (r : Ob → Option (DV × Ob)) (st : Sta) : Out Sta DV := match d with
  | .loc n => match st.lh[n]? with
    | some (false, o) => match r o with
      | some (x, o') => .ok x { st with lh := st.lh.set n (false, o') }
      | none => .bad
    | _ => .bad
  | .glb n => match st.gh[n]? with
    | some o => match r o with
      | some (x, o') => .ok x { st with gh := st.gh.set n o' }
      | none => .bad
    | _ => .bad
  | _ => .bad
def fldS (cs : List String) (x : Str) (f v : Ex) : Sm := fun st => (out v st).bind fun y s => (f s).bind fun d s => match d with
  | .glb n => match s.gh[n]? with
    | some (.ins c fs ds) => if c ∈ cs ∧ fs.length < 1000 then .ok .nx { s with gh := s.gh.set n (.ins c (fPut fs ds x y).1 (fPut fs ds x y).2) } else .bad
    | _ => .bad
  | _ => .bad
def appR (y : DV) : Ob → Option (DV × Ob)
  | .lst ds => if ds.length < sizeLine then some (.non, .lst (ds ++ [y])) else none
  | _ => none
def popR : Ob → Option (DV × Ob)
  | .lst ds => match ds[ds.length - 1]? with
    | some y => some (y, .lst ds.dropLast)
    | none => none
  | _ => none
def isLst : DV → Bool
  | .lst _ => true
  | _ => false
def appE (a f : Ex) : Ex := fun st => (a st).bind fun d s => if isLst (look s d) = true then (out f s).bind fun y s => chg d (appR y) s else .bad
def popE (a : Ex) : Ex := fun st => (a st).bind fun d s => if isLst (look s d) = true then chg d popR s else .bad
end
end Cv
end
section
set_option Elab.async false
set_option linter.all false
set_option maxRecDepth 100000
namespace Cv
open PySem L2

structure Wd where
  P : Program
  w : World
  K : PySem.W.Frag
  mg : Str → Option Value
  base : Heap
  cl : String → Addr

structure Gh where
  S : Addr → Prop
  ml : List Addr
  mg : List Addr

def NoH : Hp := fun _ => none
def TupA (W : Wd) (g : Gh) (H : Hp) (a : Addr) (vs : List V) : Prop := (g.S a ∧ Rd H a (.tup vs)) ∨ SqT W.K NoH a vs
def LstA (g : Gh) (H : Hp) (a : Addr) (vs : List V) : Prop := g.S a ∧ H a = some (.lst vs)
def ScrA (W : Wd) (g : Gh) (H : Hp) (a : Addr) (vs : List V) : Prop := (g.S a ∧ Rd H a (.lst vs)) ∨ SqL W.K NoH a vs
theorem rd_noH {a : Addr} {u : HO} (h : Rd NoH a u) : False := by
  rcases h with h | ⟨o, h⟩ <;> cases h
theorem TupA.sq {W : Wd} {g : Gh} {H : Hp} {a : Addr} {vs : List V} (h : TupA W g H a vs) : SqT W.K H a vs := by
  rcases h with ⟨_, h⟩ | h
  · exact .inl h
  · rcases h with h | h
    · exact (rd_noH h).elim
    · exact .inr h
theorem ScrA.sq {W : Wd} {g : Gh} {H : Hp} {a : Addr} {vs : List V} (h : ScrA W g H a vs) : SqL W.K H a vs := by
  rcases h with ⟨_, h⟩ | h
  · exact .inl h
  · rcases h with h | h
    · exact (rd_noH h).elim
    · exact .inr h

mutual
def RV (W : Wd) (g : Gh) (H : Hp) : DV → V → Prop
  | .non, v => v = .non
  | .bl b, v => v = .bl b
  | .int i, v => v = .int i
  | .str x, v => v = .str x
  | .tup ds, v => ∃ a vs, v = .ref a ∧ TupA W g H a vs ∧ RVs W g H ds vs
  | .lst ds, v => ∃ a vs, v = .ref a ∧ LstA g H a vs ∧ RVs W g H ds vs
  | .dct ks ds, v => ∃ a kvs, v = .ref a ∧ (g.S a ∧ H a = some (.dK kvs)) ∧ kvs.map (·.1) = ks ∧ RVs W g H ds (kvs.map (·.2))
  | .loc _, _ => False
  | .glb n, v => ∃ a, v = .ref a ∧ g.mg[n]? = some a
  | .xc _ _ _, _ => False
  | .scr is, v => ∃ a, v = .ref a ∧ ScrA W g H a (is.map V.int)
def RVs (W : Wd) (g : Gh) (H : Hp) : List DV → List V → Prop
  | [], vs => vs = []
  | d :: ds, vs => ∃ v r, vs = v :: r ∧ RV W g H d v ∧ RVs W g H ds r
end
def RVl (W : Wd) (g : Gh) (H : Hp) (d : DV) (v : V) : Prop := match d with
  | .loc n => ∃ a, v = .ref a ∧ g.ml[n]? = some a
  | d => RV W g H d v

def RO (W : Wd) (g : Gh) (H : Hp) (a : Addr) : Ob → Prop
  | .lst ds => ∃ vs, H a = some (.lst vs) ∧ RVs W g H ds vs
  | .dct ks ds => ∃ kvs, H a = some (.dK kvs) ∧ kvs.map (·.1) = ks ∧ RVs W g H ds (kvs.map (·.2))
  | .ins c fs ds => ∃ dx fvs, H a = some (.ins (W.cl c) dx fvs) ∧ fvs.map (·.1) = fs ∧ RVs W g H ds (fvs.map (·.2))

def Ob.plain : Ob → Prop
  | .ins _ _ _ => False
  | _ => True

structure SI (W : Wd) (g : Gh) (st : Sta) (σ : L2.St) (H : Hp) : Prop where
  len : st.env.length = σ.length
  env : ∀ (i : Nat) d, st.env[i]? = some (some d) → ∃ v, σ[i]? = some (some v) ∧ RVl W g H d v
  ll : g.ml.length = st.lh.length
  lo : ∀ (n : Nat) b o, st.lh[n]? = some (b, o) → ∃ a, g.ml[n]? = some a ∧ RO W g H a o ∧ (b = true ↔ g.S a) ∧ o.plain
  gl : g.mg.length = st.gh.length
  go : ∀ (n : Nat) o, st.gh[n]? = some o → ∃ a, g.mg[n]? = some a ∧ RO W g H a o ∧ ¬ g.S a
  nd : (g.ml ++ g.mg).Nodup
  sok : ∀ a, g.S a → H a ≠ none

structure Ext (g : Gh) (H : Hp) (g' : Gh) (H' : Hp) : Prop where
  s : ∀ a, g.S a → g'.S a
  l : ∃ x, g'.ml = g.ml ++ x
  m : ∃ x, g'.mg = g.mg ++ x
  kp : ∀ a, H a ≠ none → (g.S a ∨ (a ∉ g.ml ∧ a ∉ g.mg)) → H' a = H a
  ns : ∀ a, g'.S a → g.S a ∨ a ∈ g.ml ∨ H a = none
  nl : ∀ a, a ∈ g'.ml → a ∈ g.ml ∨ H a = none
  nm : ∀ a, a ∈ g'.mg → a ∈ g.mg ∨ H a = none
  al : ∀ a, H a ≠ none → H' a ≠ none

theorem Ext.refl (g : Gh) (H : Hp) : Ext g H g H := ⟨fun _ h => h, ⟨[], by simp⟩, ⟨[], by simp⟩, fun _ _ _ => rfl, fun _ h => .inl h, fun _ h => .inl h, fun _ h => .inl h, fun _ h => h⟩

theorem get_pre {α : Type} {l x : List α} {n : Nat} {a : α} (h : l[n]? = some a) : (l ++ x)[n]? = some a := by
  rw [List.getElem?_append_left (List.getElem?_eq_some_iff.mp h).1]; exact h

theorem Ext.trans {g g1 g2 : Gh} {H H1 H2 : Hp} (sok : ∀ a, g.S a → H a ≠ none) (a : Ext g H g1 H1) (b : Ext g1 H1 g2 H2) : Ext g H g2 H2 where
  s := fun x h => b.s x (a.s x h)
  l := by
    obtain ⟨x, hx⟩ := a.l; obtain ⟨y, hy⟩ := b.l
    exact ⟨x ++ y, by rw [hy, hx, List.append_assoc]⟩
  m := by
    obtain ⟨x, hx⟩ := a.m; obtain ⟨y, hy⟩ := b.m
    exact ⟨x ++ y, by rw [hy, hx, List.append_assoc]⟩
  kp := fun x h hx => by
    have e1 := a.kp x h hx
    have h1 : H1 x ≠ none := by rw [e1]; exact h
    have : H2 x = H1 x := by
      refine b.kp x h1 ?_
      rcases hx with hs | ⟨h2, h3⟩
      · exact .inl (a.s x hs)
      · refine .inr ⟨fun q => ?_, fun q => ?_⟩
        · rcases a.nl x q with z | z
          · exact h2 z
          · exact h z
        · rcases a.nm x q with z | z
          · exact h3 z
          · exact h z
    rw [this, e1]
  ns := fun x h => by
    rcases b.ns x h with z | z | z
    · exact a.ns x z
    · rcases a.nl x z with q | q
      · exact .inr (.inl q)
      · exact .inr (.inr q)
    · refine .inr (.inr (Classical.byContradiction fun q => ?_))
      exact a.al x q z
  nl := fun x h => by
    rcases b.nl x h with z | z
    · exact a.nl x z
    · exact .inr (Classical.byContradiction fun q => a.al x q z)
  nm := fun x h => by
    rcases b.nm x h with z | z
    · exact a.nm x z
    · exact .inr (Classical.byContradiction fun q => a.al x q z)
  al := fun x h => b.al x (a.al x h)

section
variable {W : Wd} {g g' : Gh} {H H' : Hp}
theorem Ext.keepS (e : Ext g H g' H') (sok : ∀ a, g.S a → H a ≠ none) {a : Addr} (h : g.S a) : H' a = H a := e.kp a (sok a h) (.inl h)
structure Fr0 (g : Gh) (H : Hp) (g' : Gh) (H' : Hp) : Prop where
  s : ∀ a, g.S a → g'.S a
  h : ∀ a, g.S a → H' a = H a
  m : ∃ x, g'.mg = g.mg ++ x
theorem Ext.fr (e : Ext g H g' H') (sok : ∀ a, g.S a → H a ≠ none) : Fr0 g H g' H' := ⟨e.s, fun a h => e.keepS sok h, e.m⟩
theorem Fr0.rd (e : Fr0 g H g' H') {a : Addr} {u : HO} (hs : g.S a) (h : Rd H a u) : Rd H' a u := by
  unfold Rd at *
  rw [e.h a hs]
  exact h
theorem Fr0.tup (e : Fr0 g H g' H') {a : Addr} {vs : List V} (h : TupA W g H a vs) : TupA W g' H' a vs := by
  rcases h with ⟨hs, h⟩ | h
  · exact .inl ⟨e.s a hs, e.rd hs h⟩
  · exact .inr h
theorem Fr0.lst (e : Fr0 g H g' H') {a : Addr} {vs : List V} (h : LstA g H a vs) : LstA g' H' a vs :=
  ⟨e.s a h.1, by rw [e.h a h.1]; exact h.2⟩
theorem Fr0.scr (e : Fr0 g H g' H') {a : Addr} {vs : List V} (h : ScrA W g H a vs) : ScrA W g' H' a vs := by
  rcases h with ⟨hs, h⟩ | h
  · exact .inl ⟨e.s a hs, e.rd hs h⟩
  · exact .inr h
theorem Ext.tup (e : Ext g H g' H') (sok : ∀ a, g.S a → H a ≠ none) {a : Addr} {vs : List V} (h : TupA W g H a vs) : TupA W g' H' a vs := (e.fr sok).tup h
theorem Ext.lst (e : Ext g H g' H') (sok : ∀ a, g.S a → H a ≠ none) {a : Addr} {vs : List V} (h : LstA g H a vs) : LstA g' H' a vs := (e.fr sok).lst h
theorem Ext.scr (e : Ext g H g' H') (sok : ∀ a, g.S a → H a ≠ none) {a : Addr} {vs : List V} (h : ScrA W g H a vs) : ScrA W g' H' a vs := (e.fr sok).scr h
mutual
theorem RV.fr (e : Fr0 g H g' H') : ∀ (d : DV) {v : V}, RV W g H d v → RV W g' H' d v
  | .non, v, h => by simpa [RV] using h
  | .bl b, v, h => by simpa [RV] using h
  | .int i, v, h => by simpa [RV] using h
  | .str x, v, h => by simpa [RV] using h
  | .tup ds, v, h => by
    simp only [RV] at h ⊢
    obtain ⟨a, vs, e1, h1, h2⟩ := h
    exact ⟨a, vs, e1, e.tup h1, RVs.fr e ds h2⟩
  | .lst ds, v, h => by
    simp only [RV] at h ⊢
    obtain ⟨a, vs, e1, h1, h2⟩ := h
    exact ⟨a, vs, e1, e.lst h1, RVs.fr e ds h2⟩
  | .dct ks ds, v, h => by
    simp only [RV] at h ⊢
    obtain ⟨a, kvs, e1, ⟨h1, h0⟩, h2, h3⟩ := h
    exact ⟨a, kvs, e1, ⟨e.s a h1, by rw [e.h a h1]; exact h0⟩, h2, RVs.fr e ds h3⟩
  | .loc n, v, h => by simp only [RV] at h
  | .glb n, v, h => by
    simp only [RV] at h ⊢
    obtain ⟨a, e1, h1⟩ := h
    obtain ⟨x, hx⟩ := e.m
    exact ⟨a, e1, by rw [hx]; exact get_pre h1⟩
  | .xc _ _ _, v, h => by simp only [RV] at h
  | .scr is, v, h => by
    simp only [RV] at h ⊢
    obtain ⟨a, e1, h1⟩ := h
    exact ⟨a, e1, e.scr h1⟩
theorem RVs.fr (e : Fr0 g H g' H') : ∀ (ds : List DV) {vs : List V}, RVs W g H ds vs → RVs W g' H' ds vs
  | [], vs, h => by simpa [RVs] using h
  | d :: ds, vs, h => by
    simp only [RVs] at h ⊢
    obtain ⟨v, r, e1, h1, h2⟩ := h
    exact ⟨v, r, e1, RV.fr e d h1, RVs.fr e ds h2⟩
end
theorem RV.ext (e : Ext g H g' H') (sok : ∀ a, g.S a → H a ≠ none) (d : DV) {v : V} (h : RV W g H d v) : RV W g' H' d v := RV.fr (e.fr sok) d h
theorem RVs.ext (e : Ext g H g' H') (sok : ∀ a, g.S a → H a ≠ none) (ds : List DV) {vs : List V} (h : RVs W g H ds vs) : RVs W g' H' ds vs := RVs.fr (e.fr sok) ds h
theorem RO.fr (e : Fr0 g H g' H') {a : Addr} (ha : H' a = H a) {o : Ob} (h : RO W g H a o) : RO W g' H' a o := by
  cases o with
  | lst ds =>
    obtain ⟨vs, h1, h2⟩ := h
    exact ⟨vs, by rw [ha]; exact h1, RVs.fr e _ h2⟩
  | dct ks ds =>
    obtain ⟨kvs, h1, h2, h3⟩ := h
    exact ⟨kvs, by rw [ha]; exact h1, h2, RVs.fr e _ h3⟩
  | ins c fs ds =>
    obtain ⟨dx, fvs, h1, h2, h3⟩ := h
    exact ⟨dx, fvs, by rw [ha]; exact h1, h2, RVs.fr e _ h3⟩
theorem RVl.ext (e : Ext g H g' H') (sok : ∀ a, g.S a → H a ≠ none) {d : DV} {v : V} (h : RVl W g H d v) : RVl W g' H' d v := by
  cases d with
  | loc n =>
    obtain ⟨a, e1, h1⟩ := h
    obtain ⟨x, hx⟩ := e.l
    exact ⟨a, e1, by rw [hx]; exact get_pre h1⟩
  | _ => exact RV.ext e sok _ h
theorem RVl.of {d : DV} {v : V} (h : RV W g H d v) : RVl W g H d v := by
  cases d with
  | loc n => simp only [RV] at h
  | _ => exact h
theorem RO.ext (e : Ext g H g' H') (sok : ∀ a, g.S a → H a ≠ none) {a : Addr} (ha : H' a = H a) {o : Ob} (h : RO W g H a o) : RO W g' H' a o := by
  cases o with
  | lst ds =>
    obtain ⟨vs, h1, h2⟩ := h
    exact ⟨vs, by rw [ha]; exact h1, RVs.ext e sok _ h2⟩
  | dct ks ds =>
    obtain ⟨kvs, h1, h2, h3⟩ := h
    exact ⟨kvs, by rw [ha]; exact h1, h2, RVs.ext e sok _ h3⟩
  | ins c fs ds =>
    obtain ⟨dx, fvs, h1, h2, h3⟩ := h
    exact ⟨dx, fvs, by rw [ha]; exact h1, h2, RVs.ext e sok _ h3⟩

mutual
theorem RV.ml {l : List Addr} : ∀ (d : DV) {v : V}, RV W g H d v → RV W { g with ml := l } H d v
  | .non, v, h => by simpa [RV] using h
  | .bl b, v, h => by simpa [RV] using h
  | .int i, v, h => by simpa [RV] using h
  | .str x, v, h => by simpa [RV] using h
  | .tup ds, v, h => by
    simp only [RV] at h ⊢
    obtain ⟨a, vs, e1, h1, h2⟩ := h
    exact ⟨a, vs, e1, h1, RVs.ml ds h2⟩
  | .lst ds, v, h => by
    simp only [RV] at h ⊢
    obtain ⟨a, vs, e1, h1, h2⟩ := h
    exact ⟨a, vs, e1, h1, RVs.ml ds h2⟩
  | .dct ks ds, v, h => by
    simp only [RV] at h ⊢
    obtain ⟨a, kvs, e1, h1, h2, h3⟩ := h
    exact ⟨a, kvs, e1, h1, h2, RVs.ml ds h3⟩
  | .loc n, v, h => by simp only [RV] at h
  | .glb n, v, h => by
    simp only [RV] at h ⊢
    exact h
  | .xc _ _ _, v, h => by simp only [RV] at h
  | .scr is, v, h => by
    simp only [RV] at h ⊢
    exact h
theorem RVs.ml {l : List Addr} : ∀ (ds : List DV) {vs : List V}, RVs W g H ds vs → RVs W { g with ml := l } H ds vs
  | [], vs, h => by simpa [RVs] using h
  | d :: ds, vs, h => by
    simp only [RVs] at h ⊢
    obtain ⟨v, r, e1, h1, h2⟩ := h
    exact ⟨v, r, e1, RV.ml d h1, RVs.ml ds h2⟩
end
theorem RO.ml {l : List Addr} {a : Addr} {o : Ob} (h : RO W g H a o) : RO W { g with ml := l } H a o := by
  cases o with
  | lst ds =>
    obtain ⟨vs, h1, h2⟩ := h
    exact ⟨vs, h1, RVs.ml _ h2⟩
  | dct ks ds =>
    obtain ⟨kvs, h1, h2, h3⟩ := h
    exact ⟨kvs, h1, h2, RVs.ml _ h3⟩
  | ins c fs ds =>
    obtain ⟨dx, fvs, h1, h2, h3⟩ := h
    exact ⟨dx, fvs, h1, h2, RVs.ml _ h3⟩

theorem RVs.length : ∀ {ds : List DV} {vs : List V}, RVs W g H ds vs → vs.length = ds.length
  | [], vs, h => by simp only [RVs] at h; subst h; rfl
  | d :: ds, vs, h => by
    simp only [RVs] at h
    obtain ⟨v, r, e, _, h2⟩ := h
    subst e
    simp [RVs.length h2]
theorem RVs.get : ∀ {ds : List DV} {vs : List V} {i : Nat} {d : DV}, RVs W g H ds vs → ds[i]? = some d → ∃ v, vs[i]? = some v ∧ RV W g H d v
  | [], _, _, _, _, h => by simp at h
  | d :: ds, vs, i, x, h, hi => by
    simp only [RVs] at h
    obtain ⟨v, r, e, h1, h2⟩ := h
    subst e
    cases i with
    | zero => simp at hi; subst hi; exact ⟨v, rfl, h1⟩
    | succ i => exact RVs.get (i := i) h2 (by simpa using hi)
theorem RVs.append : ∀ {ds es : List DV} {vs us : List V}, RVs W g H ds vs → RVs W g H es us → RVs W g H (ds ++ es) (vs ++ us)
  | [], _, vs, _, h, k => by simp only [RVs] at h; subst h; exact k
  | d :: ds, es, vs, us, h, k => by
    simp only [RVs] at h
    obtain ⟨v, r, e, h1, h2⟩ := h
    subst e
    simp only [List.cons_append, RVs]
    exact ⟨v, r ++ us, rfl, h1, RVs.append h2 k⟩
theorem RVs.take : ∀ {ds : List DV} {vs : List V} (n : Nat), RVs W g H ds vs → RVs W g H (ds.take n) (vs.take n)
  | _, _, 0, _ => by simp [RVs]
  | [], vs, _ + 1, h => by simp only [RVs] at h; subst h; simp [RVs]
  | d :: ds, vs, n + 1, h => by
    simp only [RVs] at h
    obtain ⟨v, r, e, h1, h2⟩ := h
    subst e
    simp only [List.take_succ_cons, RVs]
    exact ⟨v, r.take n, rfl, h1, RVs.take n h2⟩
theorem RVs.drop : ∀ {ds : List DV} {vs : List V} (n : Nat), RVs W g H ds vs → RVs W g H (ds.drop n) (vs.drop n)
  | _, _, 0, h => by simpa using h
  | [], vs, _ + 1, h => by simp only [RVs] at h; subst h; simp [RVs]
  | d :: ds, vs, n + 1, h => by
    simp only [RVs] at h
    obtain ⟨v, r, e, h1, h2⟩ := h
    subst e
    simp only [List.drop_succ_cons]
    exact RVs.drop n h2
theorem RVs.reverse : ∀ {ds : List DV} {vs : List V}, RVs W g H ds vs → RVs W g H ds.reverse vs.reverse
  | [], vs, h => by simp only [RVs] at h; subst h; simp [RVs]
  | d :: ds, vs, h => by
    simp only [RVs] at h
    obtain ⟨v, r, e, h1, h2⟩ := h
    subst e
    simp only [List.reverse_cons]
    exact RVs.append (RVs.reverse h2) (by simp only [RVs]; exact ⟨v, [], rfl, h1, rfl⟩)
theorem RVs.set : ∀ {ds : List DV} {vs : List V} (n : Nat) {d : DV} {v : V}, RVs W g H ds vs → RV W g H d v → RVs W g H (ds.set n d) (vs.set n v)
  | [], vs, _, _, _, h, _ => by simp only [RVs] at h; subst h; simp [RVs]
  | e :: ds, vs, n, d, v, h, k => by
    simp only [RVs] at h
    obtain ⟨v', r, e', h1, h2⟩ := h
    subst e'
    cases n with
    | zero => simp only [List.set_cons_zero, RVs]; exact ⟨v, r, rfl, k, h2⟩
    | succ n => simp only [List.set_cons_succ, RVs]; exact ⟨v', r.set n v, rfl, h1, RVs.set n h2 k⟩
theorem RVs.dropLast {ds : List DV} {vs : List V} (h : RVs W g H ds vs) : RVs W g H ds.dropLast vs.dropLast := by
  rw [List.dropLast_eq_take, List.dropLast_eq_take, h.length]
  exact h.take _
theorem RVs.one {d : DV} {v : V} (h : RV W g H d v) : RVs W g H [d] [v] := by simp only [RVs]; exact ⟨v, [], rfl, h, rfl⟩
theorem RVs.rep {ds : List DV} {vs : List V} (h : RVs W g H ds vs) : ∀ k : Nat, RVs W g H (List.replicate k ds).flatten (List.replicate k vs).flatten
  | 0 => by simp [RVs]
  | k + 1 => by
    simp only [List.replicate_succ, List.flatten_cons]
    exact RVs.append h (RVs.rep h k)
theorem RVs.ints : ∀ {is : List Int} {vs : List V}, RVs W g H (is.map .int) vs → vs = is.map V.int
  | [], vs, h => by simpa [RVs] using h
  | i :: is, vs, h => by
    simp only [List.map_cons, RVs] at h
    obtain ⟨v, r, e, h1, h2⟩ := h
    simp only [RV] at h1
    subst e h1
    rw [RVs.ints h2, List.map_cons]

def Cur (W : Wd) (g : Gh) (H : Hp) : DV → V → Prop
  | .lst ds, v => ∃ a vs, v = .ref a ∧ H a = some (.lst vs) ∧ RVs W g H ds vs
  | .dct ks ds, v => ∃ a kvs, v = .ref a ∧ H a = some (.dK kvs) ∧ kvs.map (·.1) = ks ∧ RVs W g H ds (kvs.map (·.2))
  | d, v => RVl W g H d v
theorem Cur.of {d : DV} {v : V} (h : RV W g H d v) : Cur W g H d v := by
  cases d with
  | lst ds =>
    simp only [RV] at h
    obtain ⟨a, vs, e, h1, h2⟩ := h
    exact ⟨a, vs, e, h1.2, h2⟩
  | dct ks ds =>
    simp only [RV] at h
    obtain ⟨a, kvs, e, h1, h2, h3⟩ := h
    exact ⟨a, kvs, e, h1.2, h2, h3⟩
  | loc n => simp only [RV] at h
  | _ => exact h
variable {st : Sta} {σ : L2.St}
theorem SI.look (I : SI W g st σ H) {d : DV} {v : V} (h : RVl W g H d v) : Cur W g H (look st d) v := by
  cases d with
  | loc n =>
    obtain ⟨a, e, h1⟩ := h
    subst e
    have hn : n < st.lh.length := by rw [← I.ll]; exact (List.getElem?_eq_some_iff.mp h1).1
    obtain ⟨b, o, hg⟩ : ∃ b o, st.lh[n]? = some (b, o) := ⟨_, _, List.getElem?_eq_getElem hn⟩
    obtain ⟨a', e', r, _, pl⟩ := I.lo n b o hg
    rw [h1] at e'; cases e'
    simp only [Cv.look, hg]
    cases o with
    | lst ds =>
      obtain ⟨vs, q1, q2⟩ := r
      exact ⟨a, vs, rfl, q1, q2⟩
    | dct ks ds =>
      obtain ⟨kvs, q1, q2, q3⟩ := r
      exact ⟨a, kvs, rfl, q1, q2, q3⟩
    | ins c fs ds => exact pl.elim
  | glb n =>
    have h' : RV W g H (.glb n) v := h
    simp only [RV] at h'
    obtain ⟨a, e, h1⟩ := h'
    subst e
    have hn : n < st.gh.length := by rw [← I.gl]; exact (List.getElem?_eq_some_iff.mp h1).1
    have hg : st.gh[n]? = some st.gh[n] := List.getElem?_eq_getElem hn
    obtain ⟨a', e', r, _⟩ := I.go n _ hg
    rw [h1] at e'; cases e'
    simp only [Cv.look, hg]
    cases ho : st.gh[n] with
    | lst ds =>
      rw [ho] at r
      obtain ⟨vs, q1, q2⟩ := r
      exact ⟨a, vs, rfl, q1, q2⟩
    | dct ks ds =>
      rw [ho] at r
      obtain ⟨kvs, q1, q2, q3⟩ := r
      exact ⟨a, kvs, rfl, q1, q2, q3⟩
    | ins c fs ds => exact h
  | lst ds => exact Cur.of h
  | dct ks ds => exact Cur.of h
  | _ => exact h
end
end Cv
end
section
set_option Elab.async false
set_option linter.all false
set_option maxRecDepth 100000
set_option maxHeartbeats 2000000
namespace Cv
open PySem PySem.Spec PyProof.Rows L2
structure SupK (P : Program) (K : PySem.W.Frag) (C f cc cda : Addr) : Prop where
  oex : OexC K C
  cell : ∃ cl cld csl, K.lookup cc = some ⟨cl, cld, .cell (some (.ref C)), csl⟩
  cls : ∃ cd, PySem.W.clsIn K C = some cd
  sub : PySem.W.mroIn K C (.ref C) = some true
  sup : PySem.W.ks_superIn K C C "__init__" = some (some (.builtin "ValueError.__init__"))
  ve : PySem.W.subIn K (.ref C) (.type "ValueError") = some true
  opq : PySem.W.nsIn K cStatics "thirdparty.any" = some none
  code : ∃ ccl cdd vs ccs file tf, K.lookup cda = some ⟨ccl, cdd, .fields vs, ccs⟩ ∧ vs[2]? = some (.str file tf) ∧ ((P.main.file : Str) == file) = true
  top : (P.main.scope.names.lookup ("super" : Str)).isSome = false
section
variable {X : Cx} {pins : List (Addr × Obj)} {σ : L2.St} {H : Hp} {s : Shared}
theorem super_init {qual : Str} {scope : Scope} {L f cc cda C a : Addr} {ar : Arg} {fd : FuncData} {e : Expr} {es : List Expr} {ta : TA} {p0 p1 p2 p3 p4 : Pos} {body : List Stmt} {oc : Value} {od : Option Addr} {osl : Array (Option Value)} {Q : Flow → Shared → Prop} {pl : Sem Bool}
    (I : Inv X pins σ H s) (hX : X.env = PySem.W.ksEnv qual scope L f (.ref cda) cc) (T : SupK X.prog X.K C f cc cda) (hm : X.mg "super" = none)
    (hf : X.K.lookup f = some ⟨oc, od, .func fd, osl⟩) (hp : (fd.params.posonlyargs ++ fd.params.args).head? = some ar) (hN : X.N[0]? = some ar.arg) (hs0 : σ[0]? = some (some (.ref a))) (ha : H a = some (exo a C none))
    (hks : scope.names.lookup ("super" : Str) = some .globalImplicit) (hkc : scope.names.lookup ("__class__" : Str) = some .free) (hka : scope.names.lookup ar.arg = some .local) (hk : scope.kind = .function)
    (hes : PA X (e :: es) ta) (hta : ta σ H fun vs H1 => vs.length ≤ 1000 ∧ H1 = H)
    (hq : ∀ s', Inv X pins σ H s' → Q .next s')
    (hst : starEach (e :: es) X.env = (false, eval e X.env) :: starEach es X.env) (hpl : (backTo p3 (starEach es X.env)).any (·.1) = false)
    (he : eval (.Call (.Attribute (.Call (.Name "super" p0) [] [] p1) "__init__" p2) (e :: es) [] p3) X.env = (do
      let ov ← attributeBase (.Call (.Name "super" p0) [] [] p1) "__init__" X.env (eval (.Call (.Name "super" p0) [] [] p1) X.env)
      standAt p2.atName
      let (f, first) ← holding [ov] (getMethod ov "__init__" pl)
      callWith p3 f first (backTo p3 (starEach (e :: es) X.env)) []))
    (hi : interactive X.env = false) (hsw : swapsWith (.Call (.Attribute (.Call (.Name "super" p0) [] [] p1) "__init__" p2) (e :: es) [] p3) none p4.line X.env = pure false) :
    _root_.PySem.wpAt (model X.prog X.w) X.A (.func body X.env) (exec (.Expr (.Call (.Attribute (.Call (.Name "super" p0) [] [] p1) "__init__" p2) (e :: es) [] p3) p4) X.env) Q X.xe s := by
  have KX := I.kIn
  obtain ⟨cl, cld, csl, hcell⟩ := T.cell
  obtain ⟨cdD, hD⟩ := T.cls
  obtain ⟨ccl, cdd, vs, ccs, file, tf, hcode, hvs, hfile⟩ := T.code
  obtain ⟨t1, hx⟩ := exo_at I.hok ha
  obtain ⟨oD, hD1, hD2⟩ : ∃ oD, s.heap.get? C = some oD ∧ oD.data = .cls cdD := by
    have hD' := hD
    unfold PySem.W.clsIn at hD'
    split at hD'
    · rename_i c d cd' sl ho
      cases hD'
      exact ⟨_, KX _ _ ho, rfl⟩
    · cases hD'
  have hsup := T.sup
  unfold PySem.W.ks_superIn at hsup
  rw [hD] at hsup
  have hkind : X.env.scope.kind = .function := I.ok.kind
  have k1 : X.env.kindOf "super" = some .globalImplicit := by rw [hX]; exact hks
  have k2 : X.env.kindOf "__class__" = some .free := by rw [hX]; exact hkc
  have k3 : X.env.kindOf ar.arg = some .local := by rw [hX]; exact hka
  have k4 : X.env.func = some f := by rw [hX]
  have k5 : X.env.code = .ref cda := by rw [hX]
  have k6 : X.env.cells.lookup ("__class__" : Str) = some cc := by rw [hX]; rfl
  obtain ⟨m, hns, hlk⟩ := I.loc
  obtain ⟨u, ru, lk⟩ := hlk 0 _ _ hN hs0 (.inl k3)
  obtain rfl : u = Value.ref a := ru
  have hv : m ar.arg = some (.ref a) := by
    rcases lk with ⟨_, z⟩ | ⟨z, _⟩
    · exact z
    · rw [k3] at z
      rcases z with z | z <;> cases z
  obtain ⟨mb, hb1, hb2⟩ := I.mod.blt
  have gN := I.mod.glob.keeps I.bk
  have bN := hb1.keeps I.bk
  rw [← I.ok.glob] at gN
  rw [← I.ok.blt] at bN
  have lim := I.nolimit
  obtain ⟨hh, g, d, t, os⟩ := s
  refine ks_wpAt_Expr_any (ks_wpAt_MethodCall (pl := pl) ?_ he) hi hsw
  refine ks_wpAt_super_base (env := X.env) k1 k2 rfl k4 (KX _ _ hf) rfl hp k5 (KX _ _ hcode) rfl hvs hfile T.top ?_
  refine PySem.W.ks_loadName_global hkind k1 (Calls.loadGlobal_builtin gN hm bN ((hb2 _ (by decide)).trans (by decide +kernel)) ⟨rfl, ?_⟩)
  refine wpAny_loadName_free hkind k2 k6 ⟨_, KX _ _ hcell, rfl⟩ ?_
  refine wpAny_loadName_local hkind k3 hns hv ?_
  refine ks_wpAny_isType_cls hD1 hD2 ⟨rfl, ?_⟩
  refine ks_wpAny_call_super hD1 hD2 hx rfl (fun c z => by cases z) (PySem.W.looks_mroIn KX T.sub) (fun h1 e1 kk1 => ?_)
  have I1 : Inv X pins σ H ⟨h1, g, d, t, os⟩ := I.kept kk1
  have IA : PySem.W.InstAt h1 a ({ cls := .ref C, dict := none, data := .fields #[.ref t1, .none, .none, .none, .bool false, .none] } : Obj) C none := ⟨kk1 _ _ hx, rfl, rfl, trivial⟩
  have hin : PySem.W.Looks (model X.prog X.w) h1 (isInstance (.ref a) (.type "ValueError")) true := IA.type.andThen (PySem.W.looks_subIn I1.kIn T.ve)
  have hne := PySem.W.ks_ne I1.kIn IA hD
  refine PySem.W.kxs_getMethod PySem.W.kxs_ValueError e1 (PySem.W.looks_opaque I1.kIn T.opq) (l₀ := cdD.mro) (fun A Q E s k q => wpAny_bind ((PySem.W.looks_clsIn I1.kIn hD) A _ E s k (wpAny_pure q))) rfl I1.kIn hsup hin hne rfl ?_
  have kk2 : ∀ b o, h1.get? b = some o → (h1.push (PySem.W.kxs_mw "ValueError.__init__" a)).get? b = some o := fun b o e => Heap.get?_push_of_some _ e
  have I2 : Inv X pins σ H ⟨h1.push (PySem.W.kxs_mw "ValueError.__init__" a), g, d, t + 1, os⟩ := I1.kept kk2
  have hu : (h1.push (PySem.W.kxs_mw "ValueError.__init__" a)).get? h1.objs.size = some (PySem.W.kxs_mw "ValueError.__init__" a) := Heap.get?_push_at rfl rfl
  have I3 : Inv X ((h1.objs.size, PySem.W.kxs_mw "ValueError.__init__" a) :: pins) σ H ⟨h1.push (PySem.W.kxs_mw "ValueError.__init__" a), g, d, t + 1, os⟩ := I2.pins_of fun p hp => by
    rcases List.mem_cons.mp hp with z | z
    · rw [z]
      exact ⟨hu, I1.hok.fresh (Nat.le_refl _), Nat.ne_of_gt I1.lt, I1.nofs (Nat.le_refl _), fun v z => by cases z⟩
    · exact I2.pin p (List.mem_append_right _ z)
  show wpAny _ _ (callWith p3 (.ref h1.objs.size) [] (backTo p3 (starEach (e :: es) X.env)) []) _ _ _
  have hsp := hes.run p3 _ _ σ H _ I3 hta
  rw [hst] at hsp ⊢
  refine PySem.W.kxs_callWith (i := "ValueError.__init__") (x := a) (by show (false || (backTo p3 (starEach es X.env)).any (·.1)) = false; rw [hpl]; rfl) ?_
  refine Calls.evalArgs_plain (wpAny_mono hsp (fun us s3 hs3 => ?_) fun _ _ z => z)
  obtain ⟨vs', H1, J, r1, hz, eH⟩ := hs3
  subst eH
  have hu3 : s3.heap.get? h1.objs.size = some (PySem.W.kxs_mw "ValueError.__init__" a) := (J.pin _ (List.mem_append_right _ List.mem_cons_self)).1
  refine ⟨hu3, ?_⟩
  obtain ⟨nm, q, N, bs, bm, sn, sub, ab, col, dd, q0, q1, q2, q3, q5, hC, hbm⟩ := T.oex.cls
  obtain ⟨t3, he3⟩ := exo_at J.hok ha
  have hlen : us.length ≤ sizeLine := by
    rw [← Paired.length r1, sizeLine_eq]
    omega
  have hC3 := J.kIn _ _ hC
  obtain ⟨h3, g3, d3, tk3, os3⟩ := s3
  refine wpAny_call (codeAny_of_tree ?_)
  show wpAny _ X.A.in1 (callAny (.ref h1.objs.size) ⟨us, []⟩) _ _ _
  simp only [callAny]
  refine wpAny_bind (wpAny_load hu3 ?_)
  simp only [PySem.W.kxs_mw, show (Value.type "method-wrapper" == Value.type "method" || Value.type "method-wrapper" == Value.type "builtin_function_or_method" || Value.type "method-wrapper" == Value.type "method-wrapper") = true by decide, if_true]
  refine PySem.W.KFB.if_so (by decide) ?_
  refine wpAny_bind (PySem.W.check_bound_init F.excBase_ValueError.toExcCallFacts hC3 he3 rfl ?_)
  refine wpAny_bind (wpAny_pure (wpAny_pure ?_))
  refine ⟨PySem.plainId_quiet F.excBase_ValueError.init.plain _, codeAny_builtin F.excBase_ValueError.initEntry ?_⟩
  refine PySem.W.exc_init_tree (cls := .ref C) (t0 := t3) (dv := none) (c2 := .none) (c3 := .none) (b4 := .bool false) he3 hlen fun h' kk hx' _ => ?_
  have J2 := J.write (t' := tk3) (x := a) (e := a) (o := exo a C none) (by rw [ha]; exact True.intro) (.inl rfl) kk ⟨_, hx'⟩ (exo_ok hx')
  have eu : upd H1 a (exo a C none) = H1 := by
    funext b
    by_cases hb : b = a
    · rw [hb, upd_same, ha]
    · rw [upd_ne hb]
  rw [eu] at J2
  exact hq _ (J2.pins_of fun p hp => J2.pin p (List.mem_append_right _ (List.mem_cons_of_mem _ hp)))
end
end Cv
end
section
set_option Elab.async false
set_option linter.all false
set_option maxRecDepth 100000
set_option maxHeartbeats 2000000
namespace Cv
open PySem PySem.Spec PyProof.Rows L2
def spX (C : Addr) (fs : List Str) : Sp := fun vs H Q _ => ∃ (a : Addr) (ws : List V), vs = .ref a :: ws ∧ ws.length = fs.length ∧ H a = some (exo a C none) ∧
  ∀ dx, H dx = none → dx ≠ a → Q .non (upd (upd H dx (exd dx (fs.zip ws).reverse)) a (exo a C (some dx)))
def clsN : List Str := ["__class__"]
def supRow (ns : List Expr) (p0 p1 p2 p3 p4 : Pos) : Stmt := .Expr (.Call (.Attribute (.Call (.Name "super" p0) [] [] p1) "__init__" p2) ns [] p3) p4
section
variable {P : Program} {w : World} {K : PySem.W.Frag} {mg : Str → Option Value} {base : Heap}
theorem fn_sup {k : Nat} {f cc cda C : Addr} {name qual : Str} {params : Arguments} {rest : List Stmt} {scope : Scope} {doc pm ct oc : Value} {od : Option Addr} {osl : Array (Option Value)} {ps : List Str} {ar : Arg} {n1 : Str} {es : List Expr} {q1 p0 p1 p2 p3 p4 : Pos} {fs : List Str} {ta : TA} {t : PySem.W.Frag → TS}
    {kV dV : Value} {an : Option Addr} {pl : Addr → Sem Bool}
    (lk : K.lookup f = some ⟨oc, od, .func (PySem.W.fnX name qual params (supRow (.Name n1 q1 :: es) p0 p1 p2 p3 p4 :: rest) scope [("__class__", cc)] dV kV doc pm an (.ref cda) ct), osl⟩) (hcd : PySem.W.codeIn K (.ref cda) qual = true)
    (T : SupK P K C f cc cda) (hm : mg "super" = none) (S : NdefX.NScope (ps ++ clsN) ps clsN scope) (hp0 : (params.posonlyargs ++ params.args).head? = some ar) (hps : ps[0]? = some ar.arg) (hpl : ps.length = fs.length + 1)
    (hks : scope.names.lookup ("super" : Str) = some .globalImplicit)
    (hes : ∀ X : Cx, X.N = ps ++ clsN → X.env.scope = scope → PA X (.Name n1 q1 :: es) ta) (hta : ∀ (a : Addr) (ws : List V) (x : List (Option V)) H, ws.length = fs.length → ta (some (.ref a) :: (ws.map some ++ x)) H fun vs H1 => vs.length ≤ 1000 ∧ H1 = H)
    (hst : ∀ env : Env, starEach (.Name n1 q1 :: es) env = (false, eval (.Name n1 q1) env) :: starEach es env) (hpl2 : ∀ env : Env, (backTo p3 (starEach es env)).any (·.1) = false)
    (he : ∀ L : Addr, eval (.Call (.Attribute (.Call (.Name "super" p0) [] [] p1) "__init__" p2) (.Name n1 q1 :: es) [] p3) (PySem.W.ksEnv qual scope L f (.ref cda) cc) = (do
      let ov ← attributeBase (.Call (.Name "super" p0) [] [] p1) "__init__" (PySem.W.ksEnv qual scope L f (.ref cda) cc) (eval (.Call (.Name "super" p0) [] [] p1) (PySem.W.ksEnv qual scope L f (.ref cda) cc))
      standAt p2.atName
      let (fn, first) ← holding [ov] (getMethod ov "__init__" (pl L))
      callWith p3 fn first (backTo p3 (starEach (.Name n1 q1 :: es) (PySem.W.ksEnv qual scope L f (.ref cda) cc))) []))
    (hi : ∀ L : Addr, interactive (PySem.W.ksEnv qual scope L f (.ref cda) cc) = false) (hsw : ∀ L : Addr, swapsWith (.Call (.Attribute (.Call (.Name "super" p0) [] [] p1) "__init__" p2) (.Name n1 q1 :: es) [] p3) none p4.line (PySem.W.ksEnv qual scope L f (.ref cda) cc) = pure false)
    (hrest : ∀ X : Cx, X.N = ps ++ clsN → X.env.scope = scope → X.K = K → PSs X rest (t K))
    (ht : ∀ (a : Addr) (ws : List V) (x : List (Option V)) (H : Hp) (Q : VK), ws.length = fs.length → H a = some (exo a C none) → (∀ dx, H dx = none → dx ≠ a → Q .non (upd (upd H dx (exd dx (fs.zip ws).reverse)) a (exo a C (some dx)))) →
      t K { nx := fun _ H' => Q .non H', rt := Q } (some (.ref a) :: (ws.map some ++ x)) H) :
    FnOk P w K mg base (L2.CX P w) k f (PySem.W.fnX name qual params (supRow (.Name n1 q1 :: es) p0 p1 p2 p3 p4 :: rest) scope [("__class__", cc)] dV kV doc pm an (.ref cda) ct) ps (spX C fs) := by
  refine ⟨fun vs H Q E ⟨a, ws, e, hl, _⟩ => by rw [e, List.length_cons, hl, hpl], fun A outer s H args us vs Q E hr e0 hb r hsp => ?_⟩
  obtain ⟨a, ws, rfl, hwl, hea, hQ⟩ := hsp
  have KX : K.In s.heap := e0.mod.kin.keeps fun b o e => (e0.bs b o e).1
  have lim : s.heap.NoLimit := e0.mod.nolimit.keeps fun b o e => (e0.bs b o e).1
  have hul : (V.ref a :: ws).length = ps.length := by rw [List.length_cons, hwl, hpl]
  obtain ⟨cl, cld, csl, hcell⟩ := id T.cell
  have hcN : H cc = none := (e0.bs _ _ (e0.mod.kin _ _ hcell)).2
  have hloc : ∀ y ∈ ps.zip us, scope.names.lookup y.1 = some .local := fun ⟨n, v⟩ hy => S.par n (List.of_mem_zip hy).1
  refine ks_codeAny_call_defAt hr.depth (KX _ _ lk) rfl lim (PySem.W.codeRec_of KX hcd) rfl hb S.nocell hloc (fun h₀ hns kp => ?_) S.co S.gen S.kind
  have I := NdefX.inv_startN (CX := L2.CX P w) (P := P) (w := w) (K := K) (mg := mg) (base := base) (N := ps ++ clsN) (ps := ps) (fr := clsN) (F := { name := name, qual := qual, params := params, body := [], scope := scope, cl := [("__class__", cc)], c := cda }) (f := f) (A := A) (outer := outer) (s := s) (H := H) (E := E) (us := us) (vs := V.ref a :: ws) (ws := [some (.ref C)]) (h₁ := h₀) (tk := s.toks + (ps.zip us).length)
    S hr.hd e0 hul r ⟨rfl, fun y c e => ?_, fun x y c e1 e2 => ?_, fun i y e => ?_⟩ hns kp
  case refine_1 =>
    have e' : c = cc := by
      simp only [List.lookup] at e
      split at e
      · exact (Option.some.inj e).symm
      · cases e
    subst e'
    exact ⟨hcN, _, _, KX _ _ hcell, rfl⟩
  case refine_2 =>
    simp only [List.lookup] at e1 e2
    split at e1
    · split at e2
      · rename_i z1 _ z2
        exact (beq_iff_eq.mp z1).trans (beq_iff_eq.mp z2).symm
      · cases e2
    · cases e1
  case refine_3 =>
    cases i with
    | succ i => cases e
    | zero =>
      have e := Option.some.inj e
      subst e
      refine ⟨cc, rfl, fun v hv => ?_⟩
      have hv := Option.some.inj (Option.some.inj hv)
      subst hv
      exact ⟨.ref C, rfl, _, KX _ _ hcell, rfl⟩
  have hstart : NdefX.startF (ps ++ clsN) (V.ref a :: ws) [some (V.ref C)] = some (.ref a) :: (ws.map some ++ ([some (V.ref C)] ++ List.replicate ((ps ++ clsN).length - (V.ref a :: ws).length - 1) none)) := rfl
  rw [hstart] at I
  have hN0 : (ps ++ clsN)[0]? = some ar.arg := get_pre hps
  refine ks_wpAt_mono (E := fun e s' => wpAny (model P w) (A.deeper (PySem.W.ksEnv qual scope s.heap.objs.size f (.ref cda) cc)) (leaving (PySem.W.ksEnv qual scope s.heap.objs.size f (.ref cda) cc) e) (fun _ s'' => L2.CX P w outer H s E e s'') (fun e' s'' => L2.CX P w outer H s E e' s'') s') (ks_wpAt_execs_cons ?_) (fun fl s' h' => h') fun e s' h' => h'
  refine super_init (X := NdefX.ncx (L2.CX P w) P w K mg base (ps ++ clsN) { name := name, qual := qual, params := params, body := [], scope := scope, cl := [("__class__", cc)], c := cda } f A outer s H E) (pins := []) I rfl T hm lk hp0 hN0 rfl hea hks (S.frk _ List.mem_cons_self) (S.par _ (List.mem_of_getElem? hps)) S.kind (hes _ rfl rfl) (hta a ws _ H hwl) (fun s' J => ?_) (hst _) (hpl2 _) (he _) (hi _) (hsw _)
  refine wpAt_of_wpAny (wpAny_mono ((hrest _ rfl rfl rfl).run [] s' _ H { nx := fun _ H' => Q .non H', rt := Q } J (ht a ws _ H Q hwl hea hQ)) (fun fl s2 hs2 => ?_) fun e s' h' => h')
  have fin : ∀ {σ' : L2.St} {H' : Hp} {v : V} {u : Value}, Inv (NdefX.ncx (L2.CX P w) P w K mg base (ps ++ clsN) { name := name, qual := qual, params := params, body := [], scope := scope, cl := [("__class__", cc)], c := cda } f A outer s H E) [] σ' H' s2 → RelV v u → Q v H' → CE outer P w H s Q u s2 :=
    fun {σ' H' v u} J rv q => ⟨v, H', J.os, J.bare, J.base, J.hok, rv, q⟩
  cases fl with
  | ret u =>
    obtain ⟨v, σ', H', J, rv, q⟩ := hs2
    exact fin J rv q
  | next =>
    obtain ⟨σ', H', J, q⟩ := hs2
    exact fin (v := V.non) (u := Value.none) J rfl q
  | brk =>
    obtain ⟨_, _, _, q⟩ := hs2
    exact False.elim q
  | cont =>
    obtain ⟨_, _, _, q⟩ := hs2
    exact False.elim q
end
end Cv
end
section
set_option Elab.async false
set_option linter.all false
set_option maxRecDepth 100000
set_option maxHeartbeats 2000000
namespace Cv
open PySem PySem.Spec PyProof.Rows L2
section
variable {P : Program} {w : World} {K : PySem.W.Frag} {mg : Str → Option Value} {base : Heap}
theorem eval_sup (env : Env) (es : List Expr) (p0 p1 p2 p3 : Pos) (h : (p2.endLine == p3.line) = true) (hf : methodCallForm es.length (backTo p3 (starEach es env)) [] = true) : eval (.Call (.Attribute (.Call (.Name "super" p0) [] [] p1) "__init__" p2) es [] p3) env = (do
      let ov ← attributeBase (.Call (.Name "super" p0) [] [] p1) "__init__" env (eval (.Call (.Name "super" p0) [] [] p1) env)
      standAt p2.atName
      let (fn, first) ← holding [ov] (getMethod ov "__init__" (do return (← importBound (.Call (.Name "super" p0) [] [] p1) env).getD true))
      callWith p3 fn first (backTo p3 (starEach es env)) []) := by
  show (do
      let ov ← attributeBase (.Call (.Name "super" p0) [] [] p1) "__init__" env (eval (.Call (.Name "super" p0) [] [] p1) env)
      standAt p2.atName
      methodCall (.Call (.Name "super" p0) [] [] p1) "__init__" p2 p3 env ov (es.length + 0) (backTo p3 (starEach es env)) []) = _
  unfold methodCall methodCallPos calleeOf
  rw [Nat.add_zero, hf]
  simp only [h, Bool.not_true, Bool.false_or, if_true, pure_bind]
theorem inter_no {env : Env} (h : env.scope.kind = .function) : interactive env = false := by
  unfold interactive
  rw [h]
  rfl
theorem ost_at {X : Cx} {i : Nat} {sf n f : Str} {q2 q3 q4 q5 : Pos} (h0 : X.N[0]? = some sf) (hi : X.N[i]? = some n) (l0 : X.env.scope.names.lookup sf = some .local) (l1 : X.env.scope.names.lookup n = some .local)
    (d1 : (sf == ("__debug__" : Str)) = false) (d2 : (sf == ("__classdict__" : Str)) = false) (d3 : (n == ("__debug__" : Str)) = false) (d4 : (n == ("__classdict__" : Str)) = false) :
    PS X (.Assign [.Attribute (.Name sf q2) f q3] (.Name n q4) q5) (tOst X.K f (tVar 0) (tVar i)) :=
  ps_ost (pe_var h0 (.inl l0) d1 d2) (pe_var hi (.inl l1) d3 d4)
def fldRow (sf n f : Str) (q2 q3 q4 q5 : Pos) : Stmt := .Assign [.Attribute (.Name sf q2) f q3] (.Name n q4) q5
theorem fn_sup1 {k : Nat} {f cc cda C : Addr} {name qual sf n1 f1 : Str} {params : Arguments} {scope : Scope} {doc pm ct oc : Value} {od : Option Addr} {osl : Array (Option Value)} {ar : Arg} {q1 q2 q3 q4 q5 p0 p1 p2 p3 p4 : Pos} {kV dV : Value} {an : Option Addr}
    (lk : K.lookup f = some ⟨oc, od, .func (PySem.W.fnX name qual params [supRow [.Name n1 q1] p0 p1 p2 p3 p4, fldRow sf n1 f1 q2 q3 q4 q5] scope [("__class__", cc)] dV kV doc pm an (.ref cda) ct), osl⟩) (hcd : PySem.W.codeIn K (.ref cda) qual = true)
    (hpos : (p2.endLine == p3.line) = true) (T : SupK P K C f cc cda) (hm : mg "super" = none) (S : NdefX.NScope ([sf, n1] ++ clsN) [sf, n1] clsN scope) (hp0 : (params.posonlyargs ++ params.args).head? = some ar) (hps : sf = ar.arg)
    (hks : scope.names.lookup ("super" : Str) = some .globalImplicit) (hno : PySem.W.findIn K (.ref C) f1 = some none)
    (d1 : (sf == ("__debug__" : Str)) = false) (d2 : (sf == ("__classdict__" : Str)) = false) (d3 : (n1 == ("__debug__" : Str)) = false) (d4 : (n1 == ("__classdict__" : Str)) = false) :
    FnOk P w K mg base (L2.CX P w) k f (PySem.W.fnX name qual params [supRow [.Name n1 q1] p0 p1 p2 p3 p4, fldRow sf n1 f1 q2 q3 q4 q5] scope [("__class__", cc)] dV kV doc pm an (.ref cda) ct) [sf, n1] (spX C [f1]) := by
  have l0 := S.par sf (by simp)
  have l1 := S.par n1 (by simp)
  refine fn_sup (pl := fun _ => _) (rest := [fldRow sf n1 f1 q2 q3 q4 q5]) (ps := [sf, n1]) (fs := [f1]) (es := []) (ta := tCons (tVar 1) tNil) (t := fun K => tOst K f1 (tVar 0) (tVar 1)) lk hcd T hm S hp0 (by rw [hps]; rfl) rfl hks (fun X hN hS => pa_cons (pe_var (i := 1) (by rw [hN]; rfl) (.inl (by rw [hS]; exact l1)) d3 d4) pa_nil) (fun a ws x H hl => ?_) (fun _ => rfl) (fun _ => rfl) (fun L => eval_sup _ _ _ _ _ _ hpos rfl) (fun L => inter_no S.kind) (fun _ => rfl) (fun X hN hS hK => ?_) (fun a ws x H Q hl ha q => ?_)
  · obtain ⟨y, rfl⟩ : ∃ y, ws = [y] := by
      match ws, hl with
      | [y], _ => exact ⟨y, rfl⟩
    exact ⟨y, rfl, by simp, rfl⟩
  · have := ost_at (X := X) (i := 1) (sf := sf) (n := n1) (f := f1) (q2 := q2) (q3 := q3) (q4 := q4) (q5 := q5) (by rw [hN]; rfl) (by rw [hN]; rfl) (by rw [hS]; exact l0) (by rw [hS]; exact l1) d1 d2 d3 d4
    rw [hK] at this
    exact pss_one this
  · obtain ⟨y, rfl⟩ : ∃ y, ws = [y] := by
      match ws, hl with
      | [y], _ => exact ⟨y, rfl⟩
    exact ⟨y, rfl, .ref a, rfl, a, C, rfl, T.oex, hno, .inl ⟨ha, fun dx hd hne => q dx hd hne⟩⟩
theorem fn_sup2 {k : Nat} {f cc cda C : Addr} {name qual sf n1 n2 f1 f2 : Str} {params : Arguments} {scope : Scope} {doc pm ct oc : Value} {od : Option Addr} {osl : Array (Option Value)} {ar : Arg} {q1 q2 q3 q4 q5 r1 r2 r3 r4 r5 p0 p1 p2 p3 p4 : Pos} {kV dV : Value} {an : Option Addr}
    (lk : K.lookup f = some ⟨oc, od, .func (PySem.W.fnX name qual params [supRow [.Name n1 q1, .Name n2 r1] p0 p1 p2 p3 p4, fldRow sf n1 f1 q2 q3 q4 q5, fldRow sf n2 f2 r2 r3 r4 r5] scope [("__class__", cc)] dV kV doc pm an (.ref cda) ct), osl⟩) (hcd : PySem.W.codeIn K (.ref cda) qual = true)
    (hpos : (p2.endLine == p3.line) = true) (T : SupK P K C f cc cda) (hm : mg "super" = none) (S : NdefX.NScope ([sf, n1, n2] ++ clsN) [sf, n1, n2] clsN scope) (hp0 : (params.posonlyargs ++ params.args).head? = some ar) (hps : sf = ar.arg)
    (hks : scope.names.lookup ("super" : Str) = some .globalImplicit) (hno1 : PySem.W.findIn K (.ref C) f1 = some none) (hno2 : PySem.W.findIn K (.ref C) f2 = some none)
    (d1 : (sf == ("__debug__" : Str)) = false) (d2 : (sf == ("__classdict__" : Str)) = false) (d3 : (n1 == ("__debug__" : Str)) = false) (d4 : (n1 == ("__classdict__" : Str)) = false) (d5 : (n2 == ("__debug__" : Str)) = false) (d6 : (n2 == ("__classdict__" : Str)) = false) :
    FnOk P w K mg base (L2.CX P w) k f (PySem.W.fnX name qual params [supRow [.Name n1 q1, .Name n2 r1] p0 p1 p2 p3 p4, fldRow sf n1 f1 q2 q3 q4 q5, fldRow sf n2 f2 r2 r3 r4 r5] scope [("__class__", cc)] dV kV doc pm an (.ref cda) ct) [sf, n1, n2] (spX C [f1, f2]) := by
  have l0 := S.par sf (by simp)
  have l1 := S.par n1 (by simp)
  have l2 := S.par n2 (by simp)
  refine fn_sup (pl := fun _ => _) (rest := [fldRow sf n1 f1 q2 q3 q4 q5, fldRow sf n2 f2 r2 r3 r4 r5]) (ps := [sf, n1, n2]) (fs := [f1, f2]) (es := [.Name n2 r1]) (ta := tCons (tVar 1) (tCons (tVar 2) tNil)) (t := fun K D σ H => tOst K f1 (tVar 0) (tVar 1) { D with nx := fun σ' H' => tOst K f2 (tVar 0) (tVar 2) D σ' H' } σ H) lk hcd T hm S hp0 (by rw [hps]; rfl) rfl hks (fun X hN hS => pa_cons (pe_var (i := 1) (by rw [hN]; rfl) (.inl (by rw [hS]; exact l1)) d3 d4) (pa_cons (pe_var (i := 2) (by rw [hN]; rfl) (.inl (by rw [hS]; exact l2)) d5 d6) pa_nil)) (fun a ws x H hl => ?_) (fun _ => rfl) (fun _ => rfl) (fun L => eval_sup _ _ _ _ _ _ hpos rfl) (fun L => inter_no S.kind) (fun _ => rfl) (fun X hN hS hK => ?_) (fun a ws x H Q hl ha q => ?_)
  · obtain ⟨y, z, rfl⟩ : ∃ y z, ws = [y, z] := by
      match ws, hl with
      | [y, z], _ => exact ⟨y, z, rfl⟩
    exact ⟨y, rfl, z, rfl, by simp, rfl⟩
  · have e1 := ost_at (X := X) (i := 1) (sf := sf) (n := n1) (f := f1) (q2 := q2) (q3 := q3) (q4 := q4) (q5 := q5) (by rw [hN]; rfl) (by rw [hN]; rfl) (by rw [hS]; exact l0) (by rw [hS]; exact l1) d1 d2 d3 d4
    have e2 := ost_at (X := X) (i := 2) (sf := sf) (n := n2) (f := f2) (q2 := r2) (q3 := r3) (q4 := r4) (q5 := r5) (by rw [hN]; rfl) (by rw [hN]; rfl) (by rw [hS]; exact l0) (by rw [hS]; exact l2) d1 d2 d5 d6
    rw [hK] at e1 e2
    exact pss_cons e1 (pss_one e2)
  · obtain ⟨y, z, rfl⟩ : ∃ y z, ws = [y, z] := by
      match ws, hl with
      | [y, z], _ => exact ⟨y, z, rfl⟩
    refine ⟨y, rfl, .ref a, rfl, a, C, rfl, T.oex, hno1, .inl ⟨ha, fun dx hd hne => ?_⟩⟩
    have hae : (upd (upd H dx (exd dx [(f1, y)])) a (exo a C (some dx))) a = some (exo a C (some dx)) := upd_same
    have hde : (upd (upd H dx (exd dx [(f1, y)])) a (exo a C (some dx))) dx = some (exd dx [(f1, y)]) := by rw [upd_ne hne, upd_same]
    refine ⟨z, rfl, .ref a, rfl, a, C, rfl, T.oex, hno2, .inr ⟨dx, [(f1, y)], hae, hde, by simp, ?_⟩⟩
    have e : upd (upd (upd H dx (exd dx [(f1, y)])) a (exo a C (some dx))) dx (exd dx [(f2, z), (f1, y)]) = upd (upd H dx (exd dx [(f2, z), (f1, y)])) a (exo a C (some dx)) := by
      funext b
      by_cases h1 : b = dx
      · subst h1
        rw [upd_same, upd_ne hne, upd_same]
      · rw [upd_ne h1]
        by_cases h2 : b = a
        · subst h2
          rw [upd_same, upd_same]
        · rw [upd_ne h2, upd_ne h2, upd_ne h1, upd_ne h1]
    show Q .non (upd (upd (upd H dx (exd dx [(f1, y)])) a (exo a C (some dx))) dx (exd dx [(f2, z), (f1, y)]))
    rw [e]
    exact q dx hd hne
end
end Cv
end
section
set_option Elab.async false
set_option linter.all false
set_option maxRecDepth 100000
set_option maxHeartbeats 2000000
namespace Cv
open PySem PySem.Spec PyProof.Rows L2
structure XcD where
  c : String
  fs : List Str
  name : Str
  qual : Str
  params : Arguments
  body : List Stmt
  scope : Scope
abbrev XcD.C (d : XcD) (K : PySem.W.Frag) : Addr := He.ga K (.ofString d.c)
abbrev XcD.f (d : XcD) (K : PySem.W.Frag) : Addr := He.ma K (d.C K) "__init__"
abbrev XV := Option (Str × Str × Arguments × FuncBody × Scope × Addr × Addr × Value)
def xObs (K : PySem.W.Frag) (d : XcD) : XV := match K.lookup (d.f K) with
  | some ⟨_, _, .func fd, _⟩ => some (fd.name, fd.qualname, fd.params, fd.body, fd.scope, fd.globals, fd.builtins, fd.defaults)
  | _ => none
def XcD.val (d : XcD) : XV := some (d.name, d.qual, d.params, .stmts d.body, d.scope, mainGlobals, builtinsNs, .none)
def oexB (K : PySem.W.Frag) (C : Addr) : Bool := match K.lookup C with
  | some ⟨.type "type", _, .cls cd, sl⟩ => (match cd.mro, sl.toList with
    | .ref C' :: bm, [_, _, _, _, some (.builtin n), _] => C' == C && n == "ValueError.__new__" && !cd.hasDel && cd.hasDict && PySem.HandSPX.refsVE bm
    | _, _ => false)
  | _ => false
def eqV (a b : Option (Option Value)) : Bool := decide (a = b)
def oexA (K : PySem.W.Frag) (C : Addr) : Bool := oexB K C && (eqV (PySem.W.findIn K (.ref C) "__setattr__") (some (some (.builtin "object.__setattr__"))) && (decide (PySem.W.subIn K (.ref C) (.type "BaseException") = some true) && (decide (PySem.W.typeIn K (.ref C) = some (.type "type")) && PySem.W.keepIn K (.ref C))))
theorem ba {a b : Bool} (h : (a && b) = true) : a = true ∧ b = true := Bool.and_eq_true_iff.mp h
theorem oexB_ok {K : PySem.W.Frag} {C : Addr} (q : oexB K C = true) : ∃ nm q N bs bm sn sub ab col dd k0 k1 k2 k3 k5, K.lookup C = some (excClassObj nm q C N bs bm true sn sub ab col dd k0 k1 k2 k3 k5 "ValueError.__new__") ∧ PySem.HandSPX.refsVE bm = true := by
  unfold oexB at q
  split at q
  · rename_i dd cd sl ho
    split at q
    · rename_i C' bm k0 k1 k2 k3 n k5 hm hs
      simp only [Bool.and_eq_true, beq_iff_eq, Bool.not_eq_true'] at q
      obtain ⟨⟨⟨⟨rfl, rfl⟩, hdel⟩, hdict⟩, ht⟩ := q
      obtain ⟨nm, bs, mro, ns, qn, hd, sn, sub, ab, col, del⟩ := cd
      dsimp only at hm hdel hdict
      subst hm hdel hdict
      have hsl : sl = #[k0, k1, k2, k3, some (.builtin "ValueError.__new__"), k5] := by
        obtain ⟨l⟩ := sl
        simp only at hs
        rw [hs]
      subst hsl
      exact ⟨nm, qn, ns, bs, bm, sn, sub, ab, col, dd, k0, k1, k2, k3, k5, ho, ht⟩
    · cases q
  · cases q
theorem oexA_ok {K : PySem.W.Frag} {C : Addr} (q : oexA K C = true) : OexC K C := by
  obtain ⟨h1, q⟩ := ba q
  obtain ⟨h2, q⟩ := ba q
  obtain ⟨h3, q⟩ := ba q
  obtain ⟨h4, h5⟩ := ba q
  exact ⟨oexB_ok h1, of_decide_eq_true h2, of_decide_eq_true h3, of_decide_eq_true h4, h5⟩
def xCell (K : PySem.W.Frag) (C : Addr) (file : Str) (fd : FuncData) (qual : Str) : Bool := match fd.closure with
  | [(n, cc)] => (match fd.code with
    | .ref cda => decide (n = ("__class__" : Str)) && (PySem.W.codeIn K fd.code qual && ((match K.lookup cc with
        | some ⟨_, _, .cell (some (.ref D)), _⟩ => decide (D = C)
        | _ => false) && (match K.lookup cda with
        | some ⟨_, _, .fields vs, _⟩ => (match (vs[2]? : Option Value) with
          | some (.str f _) => decide (f = file)
          | _ => false)
        | _ => false)))
    | _ => false)
  | _ => false
def xFn (K : PySem.W.Frag) (file : Str) (d : XcD) : Bool := match K.lookup (d.f K) with
  | some ⟨_, _, .func fd, _⟩ => xCell K (d.C K) file fd d.qual
  | _ => false
def xB (K : PySem.W.Frag) (file : Str) (d : XcD) : Bool :=
  xFn K file d && (oexA K (d.C K) && (xfB K (d.C K) && (eqV (PySem.W.findIn K (.ref (d.C K)) "__init__") (some (some (.ref (d.f K)))) && (PySem.W.isFn K (.ref (d.f K)) && (d.fs.all (fun x => eqV (PySem.W.findIn K (.ref (d.C K)) x) (some none)) &&
  ((PySem.W.clsIn K (d.C K)).isSome && (decide (PySem.W.mroIn K (d.C K) (.ref (d.C K)) = some true) && (eqV (PySem.W.ks_superIn K (d.C K) (d.C K) "__init__") (some (some (.builtin "ValueError.__init__"))) && (decide (PySem.W.subIn K (.ref (d.C K)) (.type "ValueError") = some true) &&
  (eqV (PySem.W.nsIn K cStatics "thirdparty.any") (some none) && (eqV (PySem.W.nsIn K mainGlobals "super") (some none) && (He.Fa.glo (.ofString d.c)).ok K)))))))))))
structure XIs (P : Program) (K : PySem.W.Frag) (mg : Str → Option Value) (d : XcD) : Prop where
  fn : ∃ oc od osl cc cda kV doc pm an ct, K.lookup (d.f K) = some ⟨oc, od, .func (PySem.W.fnX d.name d.qual d.params d.body d.scope [("__class__", cc)] .none kV doc pm an (.ref cda) ct), osl⟩ ∧ PySem.W.codeIn K (.ref cda) d.qual = true ∧ SupK P K (d.C K) (d.f K) cc cda
  sup : mg "super" = none
  glo : mg (.ofString d.c) = some (.ref (d.C K))
  oex : OexC K (d.C K)
  xf : XfC K (d.C K)
  ini : PySem.W.findIn K (.ref (d.C K)) "__init__" = some (some (.ref (d.f K)))
  isf : PySem.W.typeIn K (.ref (d.f K)) = some (.type "function")
  no : ∀ x ∈ d.fs, PySem.W.findIn K (.ref (d.C K)) x = some none
theorem xIs {P : Program} {K : PySem.W.Frag} {h : Heap} {mg : Str → Option Value} {d : XcD} {file : Str} (X : K.In h) (G : h.Ns mainGlobals mg) (hP : P.main.file = file) (htop : (P.main.scope.names.lookup ("super" : Str)).isSome = false)
    (e : xObs K d = d.val) (q : xB K file d = true) : XIs P K mg d := by
  obtain ⟨h1, q⟩ := ba q
  obtain ⟨h2, q⟩ := ba q
  obtain ⟨h3, q⟩ := ba q
  obtain ⟨h4, q⟩ := ba q
  obtain ⟨h5, q⟩ := ba q
  obtain ⟨h6, q⟩ := ba q
  obtain ⟨h7, q⟩ := ba q
  obtain ⟨h8, q⟩ := ba q
  obtain ⟨h9, q⟩ := ba q
  obtain ⟨h10, q⟩ := ba q
  obtain ⟨h11, q⟩ := ba q
  obtain ⟨h12, h13⟩ := ba q
  have ho := oexA_ok h2
  refine ⟨?_, PySem.W.mg_none_of X G (of_decide_eq_true h12), He.glo_ok X G h13, ho, xfB_ok h3, of_decide_eq_true h4, by unfold PySem.W.isFn at h5; exact eq_of_beq h5, fun x hx => of_decide_eq_true (List.all_eq_true.mp h6 x hx)⟩
  unfold xFn at h1
  unfold xObs at e
  cases qf : K.lookup (d.f K) with
  | none => rw [qf] at h1; cases h1
  | some o =>
    obtain ⟨oc, od, dt, osl⟩ := o
    rw [qf] at h1 e
    cases dt with
    | func fd =>
      obtain ⟨n1, n2, n3, n4, n5, n6, n7, n8, n9, n10, n11, n12, n13, n14, n15⟩ := fd
      have e2 : (some (n1, n2, n3, n4, n5, n6, n15, n8) : XV) = some (d.name, d.qual, d.params, .stmts d.body, d.scope, mainGlobals, builtinsNs, .none) := e
      simp only [Option.some.injEq, Prod.mk.injEq] at e2
      obtain ⟨e1, e2, e3, e4, e5, e6, e7, e8⟩ := e2
      subst e1 e2 e3 e4 e5 e6 e7 e8
      simp only [xCell] at h1
      cases n7 with
      | nil => cases h1
      | cons p r =>
        obtain ⟨n, cc⟩ := p
        cases r with
        | cons _ _ => cases h1
        | nil =>
          simp only at h1
          split at h1
          · rename_i cda
            obtain ⟨k1, k⟩ := ba h1
            obtain ⟨k2, k⟩ := ba k
            obtain ⟨k3, k4⟩ := ba k
            have en : n = ("__class__" : Str) := of_decide_eq_true k1
            subst en
            refine ⟨oc, od, osl, cc, cda, _, _, _, _, _, rfl, k2, ⟨ho, ?_, Option.isSome_iff_exists.mp h7, of_decide_eq_true h8, of_decide_eq_true h9, of_decide_eq_true h10, of_decide_eq_true h11, ?_, htop⟩⟩
            · split at k3
              · rename_i c1 c2 D c3 hc
                have : D = d.C K := of_decide_eq_true k3
                subst this
                exact ⟨_, _, _, hc⟩
              · cases k3
            · split at k4
              · rename_i c1 c2 vs c3 hc
                split at k4
                · rename_i f tf hv
                  have : f = file := of_decide_eq_true k4
                  subst this
                  exact ⟨_, _, _, _, _, _, hc, hv, by rw [hP]; exact beq_self_eq_true _⟩
                · cases k4
              · cases k4
          · cases h1
    | _ => cases h1
structure XOk (P : Program) (w : World) (K : PySem.W.Frag) (mg : Str → Option Value) (base : Heap) (c : String) (C : Addr) (fs : List Str) : Prop where
  glo : mg (.ofString c) = some (.ref C)
  oex : OexC K C
  xf : XfC K C
  no : ∀ x ∈ fs, PySem.W.findIn K (.ref C) x = some none
  ini : ∃ f fd ps, PySem.W.findIn K (.ref C) "__init__" = some (some (.ref f)) ∧ PySem.W.typeIn K (.ref f) = some (.type "function") ∧ FnOk P w K mg base (L2.CX P w) 0 f fd ps (spX C fs) ∧ Binds K fd ps []
section
variable {P : Program} {w : World} {K : PySem.W.Frag} {mg : Str → Option Value} {base : Heap} {d : XcD}
theorem xok1 {sf n1 f1 : Str} {q1 q2 q3 q4 q5 p0 p1 p2 p3 p4 : Pos} (X : XIs P K mg d) (hb : d.body = [supRow [.Name n1 q1] p0 p1 p2 p3 p4, fldRow sf n1 f1 q2 q3 q4 q5]) (hf : d.fs = [f1]) (hpos : (p2.endLine == p3.line) = true) (S : NdefX.NScope ([sf, n1] ++ clsN) [sf, n1] clsN d.scope)
    (hp0 : ((d.params.posonlyargs ++ d.params.args).head?.map (·.arg)) = some sf) (hks : d.scope.names.lookup ("super" : Str) = some .globalImplicit)
    (d1 : (sf == ("__debug__" : Str)) = false) (d2 : (sf == ("__classdict__" : Str)) = false) (d3 : (n1 == ("__debug__" : Str)) = false) (d4 : (n1 == ("__classdict__" : Str)) = false)
    (hbind : ∀ (cl : List (Str × Addr)) (kV doc pm : Value) (an : Option Addr) (cdv ct : Value) (us : List Value), us.length = 2 → bindArgs (PySem.W.fnX d.name d.qual d.params d.body d.scope cl .none kV doc pm an cdv ct) ⟨us, []⟩ = pure ([sf, n1].zip us)) :
    XOk P w K mg base d.c (d.C K) d.fs := by
  obtain ⟨oc, od, osl, cc, cda, kV, doc, pm, an, ct, lk, hcd, T⟩ := X.fn
  have hb2 : Binds K (PySem.W.fnX d.name d.qual d.params d.body d.scope [("__class__", cc)] .none kV doc pm an (.ref cda) ct) [sf, n1] [] := Binds.all fun us hl => hbind _ _ _ _ _ _ _ us hl
  refine ⟨X.glo, X.oex, X.xf, X.no, d.f K, _, [sf, n1], X.ini, X.isf, ?_, hb2⟩
  have hno := X.no f1 (by rw [hf]; simp)
  rw [hf]
  rw [hb] at lk ⊢
  obtain ⟨ar, a1, a2⟩ := Option.map_eq_some_iff.mp hp0
  exact fn_sup1 lk hcd hpos T X.sup S a1 a2.symm hks hno d1 d2 d3 d4
theorem xok2 {sf n1 n2 f1 f2 : Str} {q1 q2 q3 q4 q5 r1 r2 r3 r4 r5 p0 p1 p2 p3 p4 : Pos} (X : XIs P K mg d) (hb : d.body = [supRow [.Name n1 q1, .Name n2 r1] p0 p1 p2 p3 p4, fldRow sf n1 f1 q2 q3 q4 q5, fldRow sf n2 f2 r2 r3 r4 r5]) (hf : d.fs = [f1, f2]) (hpos : (p2.endLine == p3.line) = true) (S : NdefX.NScope ([sf, n1, n2] ++ clsN) [sf, n1, n2] clsN d.scope)
    (hp0 : ((d.params.posonlyargs ++ d.params.args).head?.map (·.arg)) = some sf) (hks : d.scope.names.lookup ("super" : Str) = some .globalImplicit)
    (d1 : (sf == ("__debug__" : Str)) = false) (d2 : (sf == ("__classdict__" : Str)) = false) (d3 : (n1 == ("__debug__" : Str)) = false) (d4 : (n1 == ("__classdict__" : Str)) = false) (d5 : (n2 == ("__debug__" : Str)) = false) (d6 : (n2 == ("__classdict__" : Str)) = false)
    (hbind : ∀ (cl : List (Str × Addr)) (kV doc pm : Value) (an : Option Addr) (cdv ct : Value) (us : List Value), us.length = 3 → bindArgs (PySem.W.fnX d.name d.qual d.params d.body d.scope cl .none kV doc pm an cdv ct) ⟨us, []⟩ = pure ([sf, n1, n2].zip us)) :
    XOk P w K mg base d.c (d.C K) d.fs := by
  obtain ⟨oc, od, osl, cc, cda, kV, doc, pm, an, ct, lk, hcd, T⟩ := X.fn
  have hb2 : Binds K (PySem.W.fnX d.name d.qual d.params d.body d.scope [("__class__", cc)] .none kV doc pm an (.ref cda) ct) [sf, n1, n2] [] := Binds.all fun us hl => hbind _ _ _ _ _ _ _ us hl
  refine ⟨X.glo, X.oex, X.xf, X.no, d.f K, _, [sf, n1, n2], X.ini, X.isf, ?_, hb2⟩
  have hn1 := X.no f1 (by rw [hf]; simp)
  have hn2 := X.no f2 (by rw [hf]; simp)
  rw [hf]
  rw [hb] at lk ⊢
  obtain ⟨ar, a1, a2⟩ := Option.map_eq_some_iff.mp hp0
  exact fn_sup2 lk hcd hpos T X.sup S a1 a2.symm hks hn1 hn2 d1 d2 d3 d4 d5 d6
end
end Cv
end
section
set_option Elab.async false
set_option linter.all false
set_option maxRecDepth 100000
namespace Cv
open PySem L2

def RX (W : Wd) (g : Gh) (H : Hp) (x : DV) (c : Value) (dd : Option Addr) : Prop := match x with
  | .xc n fs ds => c = .ref (W.cl n) ∧ ((fs = [] ∧ ds = [] ∧ dd = none) ∨ ∃ a fvs, dd = some a ∧ H a = some (.xd fvs) ∧ fvs.map (·.1) = fs ∧ RVs W g H ds (fvs.map (·.2)))
  | _ => False

def Post {α β : Type} (W : Wd) (E : WX) (σ : L2.St) (rel : Gh → Hp → α → β → Prop) (g : Gh) (H : Hp) (o : Out Sta α) (Q : β → Hp → Prop) : Prop := match o with
  | .ok a st' => ∀ g' b H', SI W g' st' σ H' → Ext g H g' H' → rel g' H' a b → Q b H'
  | .ex x st' => ∀ g' c dd H', SI W g' st' σ H' → Ext g H g' H' → RX W g' H' x c dd → E c dd σ H'
  | .bad => False
def tru : Ex → Sta → Out Sta Bool := fun f st => (f st).bind fun d s => match d with
  | .bl b => .ok b s
  | _ => .bad
def same : Gh → Hp → Bool → Bool → Prop := fun _ _ a b => b = a
def TEv (W : Wd) (E : WX) (f : Ex) : TE := fun σ H Q => ∃ g st, SI W g st σ H ∧ Post W E σ (RVl W) g H (f st) Q
def TTv (W : Wd) (E : WX) (f : Ex) : TT := fun σ H Q => ∃ g st, SI W g st σ H ∧ Post W E σ same g H (tru f st) Q
def TAv (W : Wd) (E : WX) (f : Exs) : TA := fun σ H Q => ∃ g st, SI W g st σ H ∧ Post W E σ (RVs W) g H (f st) Q
section
variable {α β γ δ : Type} {W : Wd} {E : WX} {σ : L2.St} {rel : Gh → Hp → α → β → Prop} {rel' : Gh → Hp → γ → δ → Prop} {g : Gh} {H : Hp} {st : Sta}
theorem Post.ok {a : α} {b : β} {Q : β → Hp → Prop} (p : Post W E σ rel g H (.ok a st) Q) (I : SI W g st σ H) (r : rel g H a b) : Q b H := p g b H I (Ext.refl _ _) r
theorem Post.mono {g1 : Gh} {H1 : Hp} {o : Out Sta α} {Q : β → Hp → Prop} (sok : ∀ a, g.S a → H a ≠ none) (p : Post W E σ rel g H o Q) (e : Ext g H g1 H1) : Post W E σ rel g1 H1 o Q := by
  cases o with
  | ok a st' => exact fun g' b H' I e' r => p g' b H' I (e.trans sok e') r
  | ex x st' => exact fun g' c dd H' I e' r => p g' c dd H' I (e.trans sok e') r
  | bad => exact p
theorem Post.bind {o : Out Sta α} {k : α → Sta → Out Sta γ} {Q : δ → Hp → Prop} {R : β → Hp → Prop} (sok : ∀ a, g.S a → H a ≠ none) (p : Post W E σ rel' g H (o.bind k) Q)
    (h : ∀ g1 st1 a b H1, SI W g1 st1 σ H1 → Ext g H g1 H1 → rel g1 H1 a b → Post W E σ rel' g1 H1 (k a st1) Q → R b H1) : Post W E σ rel g H o R := by
  cases o with
  | ok a st' => exact fun g1 b H1 I e r => h g1 st' a b H1 I e r (p.mono sok e)
  | ex x st' => exact p
  | bad => exact p
end

structure Sc where
  names : List (Str × NameKind)
  N : List Str
  body : Bool := true
def ScOk (names : List (Str × NameKind)) (s : Scope) : Prop := ∀ x k, names.lookup x = some k →
  (k ≠ .free → s.names.lookup x = some k) ∧ (k = .free → s.names.lookup x = some .free ∨ s.names.lookup x = some .cell)
structure Lw where
  fns : List (Str × Nat)
  blts : List Str
  cons : List (Str × DV)
  bfs : List (Str × String)
  flds : List (String × Str) := []
  mets : List (String × Str × Nat) := []
  mks : List (Str × String × Nat) := []
  exs : List (String × List Str) := []
  exms : List (String × String × Bool) := []

def spOf (W : Wd) (F : Cal) (f : Nat) : Sp := fun vs H Q E => ∃ g ds gh, SI W g ⟨[], [], gh⟩ [] H ∧ RVs W g H ds vs ∧ match F f ds gh with
  | .ok d gh' => ∀ g' v H', SI W g' ⟨[], [], gh'⟩ [] H' → Ext g H g' H' → RV W g' H' d v → Q v H'
  | .ex x gh' => ∀ g' c dd H', SI W g' ⟨[], [], gh'⟩ [] H' → Ext g H g' H' → RX W g' H' x c dd → E c dd H'
  | .bad => False
structure FnG (W : Wd) (k : Nat) (f : Addr) (fd : FuncData) (ps : List Str) (sp : Sp) : Prop where
  run : ∀ (A : Around) (outer : List Env) (s : Shared) (H : Hp) (args : Args) (us : List Value) (vs : List V) (Q : VK) (E : XK),
    Room k A → A.guards = some [] → Env0 W.P W.w W.K W.mg W.base A outer s H → BindsTo s fd args (ps.zip us) → Vals vs us → vs.length = ps.length → sp vs H Q E →
    codeAny (model W.P W.w) A (.call (.ref f) args) (CR (CX W.P W.w) outer W.P W.w H s Q E) s
structure Glb (W : Wd) (F : Cal) (lw : Lw) (A : Around) : Prop where
  fn : ∀ p ∈ lw.fns, ∃ a fd ps k, W.mg p.1 = some (.ref a) ∧ PySem.W.keepIn W.K (.ref a) = true ∧ FnG W k a fd ps (spOf W F p.2) ∧ Binds W.K fd ps [] ∧ Room k A ∧ ∀ ds gh, ds.length ≠ ps.length → F p.2 ds gh = .bad
  bl : ∀ x ∈ lw.blts, W.mg x = none
  bf : ∀ p ∈ lw.bfs, W.mg p.1 = some (.builtin p.2)
  fl : ∀ p ∈ lw.flds, Cls W.K (W.cl p.1) ∧ NoAttr W.K (W.cl p.1) p.2
  me : ∀ p ∈ lw.mets, ∃ a fd ps k, Cls W.K (W.cl p.1) ∧ Meth W.K (W.cl p.1) p.2.1 a ∧ FnG W k a fd ps (spOf W F p.2.2) ∧ Binds W.K fd ps [] ∧ Room k A ∧ ∀ ds gh, ds.length ≠ ps.length → F p.2.2 ds gh = .bad
  mak : ∀ p ∈ lw.mks, ∃ a fd ps k, W.mg p.1 = some (.ref (W.cl p.2.1)) ∧ Mk W.K (W.cl p.2.1) a ∧ FnG W k a fd ps (spOf W F p.2.2) ∧ Binds W.K fd ps [] ∧ Room (k + 1) A ∧ ∀ ds gh, ds.length ≠ ps.length → F p.2.2 ds gh = .bad
  co : ∀ p ∈ lw.cons, ∃ u v, W.mg p.1 = some u ∧ RelV v u ∧ ∀ g H, RV W g H p.2 v
  xc : ∀ p ∈ lw.exs, XOk W.P W.w W.K W.mg W.base p.1 (W.cl p.1) p.2 ∧ Room 1 A
  em : ∀ p ∈ lw.exms, PySem.W.exmOne W.K (.ref (W.cl p.1)) (.ref (W.cl p.2.1)) = some p.2.2

structure Cok (W : Wd) (F : Cal) (lw : Lw) (sc : Sc) (E : WX) (X : Cx) : Prop where
  pr : X.prog = W.P
  wo : X.w = W.w
  ka : X.K = W.K
  gm : X.mg = W.mg
  ba : X.base = W.base
  na : X.N = sc.N
  nd : X.N.Nodup
  so : ScOk sc.names X.env.scope
  calm : X.calm = true
  gu : X.A.guards = some []
  ro : Room 0 X.A
  tk : Takes X E
  ce : ∀ x, sc.names.lookup x = some .cell → X.fn x = true
  gb : Glb W F lw X.A
  pa : sc.body = true → PassesOwn (model X.prog X.w) X.A X.env X.xe
  kd : sc.body = true → X.env.scope.kind = .function
  stk : sc.body = true → X.stack = X.env :: X.outer
  frm : sc.body = true → X.env.frame = some X.env.locals

def Snd (F : Cal) (lw : Lw) (sc : Sc) (e : Expr) (f : Ex) : Prop := ∀ W E X, Cok W F lw sc E X → PE X e (TEv W E f)
def SndT (F : Cal) (lw : Lw) (sc : Sc) (e : Expr) (f : Ex) : Prop := ∀ W E X, Cok W F lw sc E X → PT X e (TTv W E f)
def SndA (F : Cal) (lw : Lw) (sc : Sc) (es : List Expr) (f : Exs) : Prop := ∀ W E X, Cok W F lw sc E X → PA X es (TAv W E f)

theorem pe_imp {X : Cx} {e : Expr} {t t' : TE} (h : PE X e t) (i : ∀ σ H Q, t' σ H Q → t σ H Q) : PE X e t' := ⟨fun p s σ H Q I q => h.run p s σ H Q I (i σ H Q q)⟩
theorem pt_imp {X : Cx} {e : Expr} {t t' : TT} (h : PT X e t) (i : ∀ σ H Q, t' σ H Q → t σ H Q) : PT X e t' := ⟨fun p s σ H Q I q => h.run p s σ H Q I (i σ H Q q)⟩
theorem pa_imp {X : Cx} {e : List Expr} {t t' : TA} (h : PA X e t) (i : ∀ σ H Q, t' σ H Q → t σ H Q) : PA X e t' := ⟨fun po p s σ H Q I q => h.run po p s σ H Q I (i σ H Q q)⟩

section
variable {W : Wd} {E : WX} {F : Cal} {lw : Lw} {sc : Sc} {X : Cx}
theorem Cok.units (c : Cok W F lw sc E X) : X.A.units + 64 < cLine := c.ro.units
theorem Cok.hd (c : Cok W F lw sc E X) : X.A.handled = none := c.ro.hd

theorem pt_plain {e : Expr} {f : Ex} (h : PE X e (TEv W E f)) (he : ∀ whole, isTrue e X.env whole = (do let v ← whole; standAt e.pos; PySem.holding [v] (truthy v))) : PT X e (TTv W E f) := by
  refine pt_imp (pt_val h he) fun σ H Q q => ?_
  obtain ⟨g, st, I, q⟩ := q
  refine ⟨g, st, I, Post.bind (rel := RVl W) I.sok q fun g1 st1 d v H1 I1 e1 r1 p1 => ?_⟩
  cases d with
  | bl b =>
    have r' : v = .bl b := r1
    exact ⟨b, r', p1.ok I1 rfl⟩
  | _ => exact p1.elim

def visB (sc : Sc) (x : Str) : Bool := match sc.names.lookup x with
  | some .local => true
  | some .cell => true
  | some .free => true
  | _ => false
theorem vis_of {x : Str} (c : Cok W F lw sc E X) (h : visB sc x = true) : Vis X.env.scope x := by
  unfold visB at h
  cases hl : sc.names.lookup x with
  | none => rw [hl] at h; cases h
  | some k =>
    rw [hl] at h
    have q := c.so x k hl
    cases k <;> first
      | exact .inl (q.1 (by decide))
      | exact .inr (.inl (q.1 (by decide)))
      | exact (q.2 rfl).elim (fun z => .inr (.inr z)) (fun z => .inr (.inl z))
      | cases h
theorem snd_var {i : Nat} {x : Str} {pos : Pos} (hN : sc.N[i]? = some x) (hv : visB sc x = true) (hd : (x == ("__debug__" : Str)) = false) (hc : (x == ("__classdict__" : Str)) = false) : Snd F lw sc (.Name x pos) (var i) := by
  intro W E X c
  have pe : PE X (.Name x pos) (TEv W E (var i)) := by
    refine pe_imp (pe_var (i := i) (by rw [c.na]; exact hN) (vis_of c hv) hd hc) fun σ H Q q => ?_
    obtain ⟨g, st, I, q⟩ := q
    unfold var at q
    cases hs : st.env[i]? with
    | none => rw [hs] at q; exact q.elim
    | some o =>
      cases o with
      | none => rw [hs] at q; exact q.elim
      | some d =>
        rw [hs] at q
        obtain ⟨v, h1, h2⟩ := I.env i d hs
        exact ⟨v, h1, Post.ok q I h2⟩
  exact pe
theorem tev_cst {d : DV} {v : V} (h : ∀ g H, RV W g H d v) {σ : L2.St} {H : Hp} {Q : VK} (q : TEv W E (cst d) σ H Q) : tC v σ H Q := by
  obtain ⟨g, st, I, q⟩ := q
  exact q.ok I (RVl.of (h g H))
theorem snd_int {i : Int} {j pos} : Snd F lw sc (.Constant (.int i) j pos) (cst (.int i)) := fun W E X c =>
  have pe : PE X (.Constant (.int i) j pos) (TEv W E (cst (.int i))) := pe_imp pe_int fun _ _ _ q => tev_cst (fun _ _ => by simp [RV]) q
  pe
theorem snd_bl {b : Bool} {j pos} : Snd F lw sc (.Constant (.bool b) j pos) (cst (.bl b)) := fun W E X c =>
  have pe : PE X (.Constant (.bool b) j pos) (TEv W E (cst (.bl b))) := pe_imp pe_bl fun _ _ _ q => tev_cst (fun _ _ => by simp [RV]) q
  pe
theorem snd_str {x : Str} {j pos} : Snd F lw sc (.Constant (.str x) j pos) (cst (.str x)) := fun W E X c =>
  have pe : PE X (.Constant (.str x) j pos) (TEv W E (cst (.str x))) := pe_imp pe_str fun _ _ _ q => tev_cst (fun _ _ => by simp [RV]) q
  pe
theorem snd_non {j pos} : Snd F lw sc (.Constant .none j pos) (cst .non) := fun W E X c =>
  have pe : PE X (.Constant .none j pos) (TEv W E (cst .non)) := pe_imp pe_non fun _ _ _ q => tev_cst (fun _ _ => by simp [RV]) q
  pe
def glbB (sc : Sc) (x : Str) : Bool := match sc.names.lookup x with
  | some .globalImplicit => true
  | _ => false
theorem gl_of {x : Str} (c : Cok W F lw sc E X) (h : glbB sc x = true) : Gl X x := by
  unfold glbB at h
  cases hl : sc.names.lookup x with
  | none => rw [hl] at h; cases h
  | some k =>
    rw [hl] at h
    have q := c.so x k hl
    cases k <;> first
      | exact q.1 (by decide)
      | cases h
theorem snd_con {x : Str} {d : DV} {pos : Pos} (hg : glbB sc x = true) (hc : (x, d) ∈ lw.cons) (hd : (x == ("__debug__" : Str)) = false) : Snd F lw sc (.Name x pos) (cst d) := by
  intro W E X c
  obtain ⟨u, v, h1, h2, h3⟩ := c.gb.co _ hc
  have pe : PE X (.Name x pos) (TEv W E (cst d)) := pe_imp (pe_glob (gl_of c hg) (by rw [c.gm]; exact h1) h2 hd) fun _ _ _ q => tev_cst h3 q
  exact pe

def Grow (g : Gh) (H : Hp) (g' : Gh) (H' : Hp) : Prop := (g' = g ∧ H' = H) ∨ ∃ p o, H p = none ∧ g' = { g with S := fun a => g.S a ∨ a = p } ∧ H' = upd H p o
theorem Grow.refl (g : Gh) (H : Hp) : Grow g H g H := .inl ⟨rfl, rfl⟩
theorem grow_new {g : Gh} {H : Hp} {p : Addr} {o : HO} (hp : H p = none) (nm : ∀ a, a ∈ g.ml ++ g.mg → H a ≠ none) : Ext g H { g with S := fun a => g.S a ∨ a = p } (upd H p o) where
  s := fun a h => .inl h
  l := ⟨[], by simp⟩
  m := ⟨[], by simp⟩
  kp := fun a h _ => upd_ne fun e => h (by rw [e]; exact hp)
  ns := fun a h => by
    rcases h with h | h
    · exact .inl h
    · subst h; exact .inr (.inr hp)
  nl := fun a h => .inl h
  nm := fun a h => .inl h
  al := fun a h => by
    by_cases e : a = p
    · subst e; rw [upd_same]; simp
    · rw [upd_ne e]; exact h
theorem SI.there {g : Gh} {st : Sta} {σ : L2.St} {H : Hp} (I : SI W g st σ H) : ∀ a, a ∈ g.ml ++ g.mg → H a ≠ none := by
  intro a ha
  rcases List.mem_append.mp ha with h | h
  · obtain ⟨n, hn⟩ := List.mem_iff_getElem?.mp h
    have hl : n < st.lh.length := by rw [← I.ll]; exact (List.getElem?_eq_some_iff.mp hn).1
    obtain ⟨a', e, r, _, _⟩ := I.lo n _ _ (List.getElem?_eq_getElem hl)
    rw [hn] at e; cases e
    revert r
    cases (st.lh[n]).2 with
    | lst ds => rintro ⟨vs, h1, _⟩; rw [h1]; simp
    | dct ks ds => rintro ⟨vs, h1, _⟩; rw [h1]; simp
    | ins c fs ds => rintro ⟨dx, fvs, h1, _⟩; rw [h1]; simp
  · obtain ⟨n, hn⟩ := List.mem_iff_getElem?.mp h
    have hl : n < st.gh.length := by rw [← I.gl]; exact (List.getElem?_eq_some_iff.mp hn).1
    obtain ⟨a', e, r, _⟩ := I.go n _ (List.getElem?_eq_getElem hl)
    rw [hn] at e; cases e
    revert r
    cases st.gh[n] with
    | lst ds => rintro ⟨vs, h1, _⟩; rw [h1]; simp
    | dct ks ds => rintro ⟨vs, h1, _⟩; rw [h1]; simp
    | ins c fs ds => rintro ⟨dx, fvs, h1, _⟩; rw [h1]; simp
theorem SI.apart {g : Gh} {st : Sta} {σ : L2.St} {H : Hp} (I : SI W g st σ H) {p : Addr} (hp : H p = none) : p ∉ g.ml ++ g.mg := fun h => I.there p h hp
theorem SI.grow {g g' : Gh} {st : Sta} {σ : L2.St} {H H' : Hp} (I : SI W g st σ H) (h : Grow g H g' H') : SI W g' st σ H' ∧ Ext g H g' H' := by
  rcases h with ⟨rfl, rfl⟩ | ⟨p, o, hp, rfl, rfl⟩
  · exact ⟨I, Ext.refl _ _⟩
  · have e := grow_new (g := g) (o := o) hp I.there
    have ne : ∀ a, a ∈ g.ml ++ g.mg → a ≠ p := fun a ha z => I.apart hp (z ▸ ha)
    refine ⟨⟨I.len, fun i d hi => ?_, I.ll, fun n b o' hn => ?_, I.gl, fun n o' hn => ?_, I.nd, fun a ha => ?_⟩, e⟩
    · obtain ⟨v, h1, h2⟩ := I.env i d hi
      exact ⟨v, h1, h2.ext e I.sok⟩
    · obtain ⟨a, h1, h2, h3, h4⟩ := I.lo n b o' hn
      have hm : a ∈ g.ml ++ g.mg := List.mem_append_left _ (List.mem_of_getElem? h1)
      refine ⟨a, h1, h2.ext e I.sok (upd_ne (ne a hm)), h3.trans ⟨fun z => .inl z, fun z => z.elim id fun z => absurd z (ne a hm)⟩, h4⟩
    · obtain ⟨a, h1, h2, h3⟩ := I.go n o' hn
      have hm : a ∈ g.ml ++ g.mg := List.mem_append_right _ (List.mem_of_getElem? h1)
      exact ⟨a, h1, h2.ext e I.sok (upd_ne (ne a hm)), fun z => z.elim h3 fun z => absurd z (ne a hm)⟩
    · rcases ha with ha | ha
      · rw [upd_ne (fun z => I.sok a ha (by rw [z]; exact hp))]; exact I.sok a ha
      · subst ha; rw [upd_same]; simp

def Op2T (W : Wd) (r : R2) (f : DV → DV → Option DV) : Prop := ∀ g H x y v u d, (∀ a, g.S a → H a ≠ none) → (∀ a, a ∈ g.ml ++ g.mg → H a ≠ none) → Cur W g H x v → Cur W g H y u → f x y = some d →
  ∀ Q : VK, (∀ g' w H', Grow g H g' H' → RV W g' H' d w → Q w H') → r v u H Q
def Op1T (W : Wd) (r : V → Hp → VK → Prop) (f : DV → Option DV) : Prop := ∀ g H x v d, (∀ a, g.S a → H a ≠ none) → (∀ a, a ∈ g.ml ++ g.mg → H a ≠ none) → Cur W g H x v → f x = some d →
  ∀ Q : VK, (∀ g' w H', Grow g H g' H' → RV W g' H' d w → Q w H') → r v H Q

theorem optO_post {σ : L2.St} {g : Gh} {H : Hp} {st : Sta} {o : Option DV} {Q : VK} (p : Post W E σ (RVl W) g H (optO o st) Q) : ∃ d, o = some d ∧ Post W E σ (RVl W) g H (.ok d st) Q := by
  cases o with
  | some d => exact ⟨d, rfl, p⟩
  | none => exact p.elim
theorem Post.grow {σ : L2.St} {g : Gh} {H : Hp} {st : Sta} {d : DV} {Q : VK} (p : Post W E σ (RVl W) g H (.ok d st) Q) (I : SI W g st σ H) : ∀ g' w H', Grow g H g' H' → RV W g' H' d w → Q w H' := fun g' w H' gr r => by
  obtain ⟨I', e'⟩ := I.grow gr
  exact p g' w H' I' e' (RVl.of r)
theorem tev_vw2 {r : R2} {f : DV → DV → Option DV} {fa fb : Ex} (hs : Op2T W r f) {σ : L2.St} {H : Hp} {Q : VK} (q : TEv W E (vw2 f fa fb) σ H Q) : tOp r (TEv W E fa) (TEv W E fb) σ H Q := by
  obtain ⟨g, st, I, q⟩ := q
  refine ⟨g, st, I, Post.bind I.sok q fun g1 st1 d1 v1 H1 I1 e1 r1 q1 => ?_⟩
  refine ⟨g1, st1, I1, Post.bind I1.sok q1 fun g2 st2 d2 v2 H2 I2 e2 r2 q2 => ?_⟩
  obtain ⟨d, hd, q2⟩ := optO_post q2
  exact hs g2 H2 _ _ _ _ d I2.sok I2.there (I2.look (r1.ext e2 I1.sok)) (I2.look r2) hd Q (q2.grow I2)
theorem tev_vw1 {r : V → Hp → VK → Prop} {f : DV → Option DV} {fa : Ex} (hs : Op1T W r f) {σ : L2.St} {H : Hp} {Q : VK} (q : TEv W E (vw1 f fa) σ H Q) : TEv W E fa σ H (fun x H1 => r x H1 Q) := by
  obtain ⟨g, st, I, q⟩ := q
  refine ⟨g, st, I, Post.bind I.sok q fun g1 st1 d1 v1 H1 I1 e1 r1 q1 => ?_⟩
  obtain ⟨d, hd, q2⟩ := optO_post q1
  exact hs g1 H1 _ _ d I1.sok I1.there (I1.look r1) hd Q (q2.grow I1)

theorem snd_bin {op : Operator} {f : DV → DV → Option DV} {a b : Expr} {fa fb : Ex} {pos : Pos} (o : ∀ W E X, Cok W F lw sc E X → ∃ r, OpR X (binaryOp op) r ∧ Op2T W r f) (ha : Snd F lw sc a fa) (hb : Snd F lw sc b fb) : Snd F lw sc (.BinOp a op b pos) (vw2 f fa fb) := by
  intro W E X c
  obtain ⟨r, h1, h2⟩ := o W E X c
  have pe : PE X (.BinOp a op b pos) (TEv W E (vw2 f fa fb)) := pe_imp (pe_op h1 (ha W E X c) (hb W E X c)) fun _ _ _ q => tev_vw2 h2 q
  exact pe
theorem snd_un {op : UnaryOp} {f : DV → Option DV} {a : Expr} {fa : Ex} {pos : Pos} (o : ∀ W E X, Cok W F lw sc E X → ∃ r, UnR X (unaryOp op) r ∧ Op1T W r f) (ha : Snd F lw sc a fa) : Snd F lw sc (.UnaryOp op a pos) (vw1 f fa) := by
  intro W E X c
  obtain ⟨r, h1, h2⟩ := o W E X c
  have pe : PE X (.UnaryOp op a pos) (TEv W E (vw1 f fa)) := pe_imp (pe_un h1 (ha W E X c)) fun _ _ _ q => tev_vw1 h2 q
  exact pe
theorem ttv_cmp {r : R2} {f : DV → DV → Option DV} {fa fb : Ex} (hs : Op2T W r f) {σ : L2.St} {H : Hp} {Q : Bool → Hp → Prop} (q : TTv W E (vw2 f fa fb) σ H Q) : tTest (tOp r (TEv W E fa) (TEv W E fb)) σ H Q := by
  obtain ⟨g, st, I, q⟩ := q
  refine tev_vw2 hs ⟨g, st, I, Post.bind (rel := RVl W) I.sok q fun g1 st1 d v H1 I1 e1 r1 p1 => ?_⟩
  cases d with
  | bl b => exact ⟨b, r1, p1.ok I1 rfl⟩
  | _ => exact p1.elim
theorem snd_cmp {op : CmpOp} {f : DV → DV → Option DV} {a b : Expr} {fa fb : Ex} {pos : Pos} (o : ∀ W E X, Cok W F lw sc E X → ∃ r, OpR X (compareOp op) r ∧ Op2T W r f) (hm : behindInMarks op b = false) (ha : Snd F lw sc a fa) (hb : Snd F lw sc b fb) :
    Snd F lw sc (.Compare a [op] [b] pos) (vw2 f fa fb) := by
  intro W E X c
  obtain ⟨r, h1, h2⟩ := o W E X c
  exact pe_imp (pe_cmpR h1 (ha W E X c) (hb W E X c) hm) fun _ _ _ q => tev_vw2 h2 q
theorem sndT_cmp {op : CmpOp} {f : DV → DV → Option DV} {a b : Expr} {fa fb : Ex} {pos : Pos} (o : ∀ W E X, Cok W F lw sc E X → ∃ r, OpR X (compareOp op) r ∧ Op2T W r f) (hm : behindInMarks op b = false) (ha : Snd F lw sc a fa) (hb : Snd F lw sc b fb) :
    SndT F lw sc (.Compare a [op] [b] pos) (vw2 f fa fb) := by
  intro W E X c
  obtain ⟨r, h1, h2⟩ := o W E X c
  exact pt_imp (pt_cmpR h1 (ha W E X c) (hb W E X c) hm) fun _ _ _ q => ttv_cmp h2 q
def chnE (f f' : DV → DV → Option DV) (fa fb fc : Ex) : Ex := fun st => (fa st).bind fun a s => (fb s).bind fun b s => (optO (f (look s a) (look s b)) s).bind fun x s => match x with
  | .bl true => (fc s).bind fun d s => optO (f' (look s b) (look s d)) s
  | .bl false => .ok (.bl false) s
  | _ => .bad
theorem tev_chn {r r' : R2} {f f' : DV → DV → Option DV} {fa fb fc : Ex} (hs : Op2T W r f) (hs' : Op2T W r' f') {σ : L2.St} {H : Hp} {Q : VK} (q : TEv W E (chnE f f' fa fb fc) σ H Q) : tChain r r' (TEv W E fa) (TEv W E fb) (TEv W E fc) σ H Q := by
  obtain ⟨g, st, I, q⟩ := q
  refine ⟨g, st, I, Post.bind I.sok q fun g1 st1 d1 v1 H1 I1 e1 r1 q1 => ?_⟩
  refine ⟨g1, st1, I1, Post.bind I1.sok q1 fun g2 st2 d2 v2 H2 I2 e2 r2 q2 => ?_⟩
  cases hd : f (look st2 d1) (look st2 d2) with
  | none => rw [hd] at q2; exact q2.elim
  | some d =>
    rw [hd] at q2
    simp only [optO_some, Out.bind_ok] at q2
    refine hs g2 H2 _ _ _ _ d I2.sok I2.there (I2.look (r1.ext e2 I1.sok)) (I2.look r2) hd _ fun g3 w H3 gr rw => ?_
    obtain ⟨I3, e3⟩ := I2.grow gr
    cases d with
    | bl b =>
      refine ⟨b, by simpa [RV] using rw, ?_⟩
      cases b with
      | false => rw [if_neg Bool.false_ne_true]; exact (q2.mono I2.sok e3).ok I3 (by simp [RVl, RV])
      | true =>
        rw [if_pos rfl]
        refine ⟨g3, st2, I3, Post.bind I3.sok (q2.mono I2.sok e3) fun g4 st4 d4 v4 H4 I4 e4 r4 q4 => ?_⟩
        obtain ⟨d5, h5, q5⟩ := optO_post q4
        exact hs' g4 H4 _ _ _ _ d5 I4.sok I4.there (I4.look (r2.ext (e3.trans I2.sok e4) I2.sok)) (I4.look r4) h5 Q (q5.grow I4)
    | _ => exact q2.elim
theorem ttv_of {t : TE} {f : Ex} (h : ∀ σ H Q, TEv W E f σ H Q → t σ H Q) {σ : L2.St} {H : Hp} {Q : Bool → Hp → Prop} (q : TTv W E f σ H Q) : tTest t σ H Q := by
  obtain ⟨g, st, I, q⟩ := q
  refine h _ _ _ ⟨g, st, I, Post.bind (rel := RVl W) I.sok q fun g1 st1 d v H1 I1 e1 r1 p1 => ?_⟩
  cases d with
  | bl b => exact ⟨b, r1, p1.ok I1 rfl⟩
  | _ => exact p1.elim
theorem snd_chn {op op' : CmpOp} {f f' : DV → DV → Option DV} {a b d : Expr} {fa fb fd : Ex} {pos : Pos} (o : ∀ W E X, Cok W F lw sc E X → ∃ r, OpR X (compareOp op) r ∧ Op2T W r f) (o' : ∀ W E X, Cok W F lw sc E X → ∃ r, OpR X (compareOp op') r ∧ Op2T W r f')
    (hm : lastMarks [op, op'] [b, d] = false) (ha : Snd F lw sc a fa) (hb : Snd F lw sc b fb) (hd : Snd F lw sc d fd) : Snd F lw sc (.Compare a [op, op'] [b, d] pos) (chnE f f' fa fb fd) := by
  intro W E X c
  obtain ⟨r, h1, h2⟩ := o W E X c
  obtain ⟨r', h1', h2'⟩ := o' W E X c
  exact pe_imp (pe_chain h1 h1' (ha W E X c) (hb W E X c) (hd W E X c) hm) fun _ _ _ q => tev_chn h2 h2' q
theorem sndT_chn {op op' : CmpOp} {f f' : DV → DV → Option DV} {a b d : Expr} {fa fb fd : Ex} {pos : Pos} (o : ∀ W E X, Cok W F lw sc E X → ∃ r, OpR X (compareOp op) r ∧ Op2T W r f) (o' : ∀ W E X, Cok W F lw sc E X → ∃ r, OpR X (compareOp op') r ∧ Op2T W r f')
    (hm : lastMarks [op, op'] [b, d] = false) (ha : Snd F lw sc a fa) (hb : Snd F lw sc b fb) (hd : Snd F lw sc d fd) : SndT F lw sc (.Compare a [op, op'] [b, d] pos) (chnE f f' fa fb fd) := by
  intro W E X c
  obtain ⟨r, h1, h2⟩ := o W E X c
  obtain ⟨r', h1', h2'⟩ := o' W E X c
  exact pt_imp (pt_chain h1 h1' (ha W E X c) (hb W E X c) (hd W E X c) hm) fun _ _ _ q => ttv_of (fun _ _ _ z => tev_chn h2 h2' z) q

def plainT : Expr → Bool
  | .UnaryOp .Not _ _ => false
  | .BoolOp _ _ _ => false
  | .IfExp _ _ _ _ => false
  | .Compare _ _ _ _ => false
  | _ => true
theorem isTrue_plainT {e : Expr} (h : plainT e = true) {env : Env} (whole : Sem Value) : isTrue e env whole = (do let v ← whole; standAt e.pos; PySem.holding [v] (truthy v)) := by
  cases e <;> first
    | rfl
    | (cases h; done)
    | (rename_i op _ _; cases op <;> first | rfl | (cases h; done))
theorem sndT_val {e : Expr} {f : Ex} (h : Snd F lw sc e f) (hp : plainT e = true) : SndT F lw sc e f := fun W E X c => pt_plain (h W E X c) fun _ => isTrue_plainT hp _
def truF : DV → Option DV
  | .lst ds => some (.bl !ds.isEmpty)
  | .tup ds => some (.bl !ds.isEmpty)
  | .int i => some (.bl (i != 0))
  | .non => some (.bl false)
  | .bl b => some (.bl b)
  | .dct ks _ => some (.bl !ks.isEmpty)
  | .str x => if x.length ≤ sizeLine then some (.bl ((x.length : Int) != 0)) else none
  | _ => none
theorem rvs_empty {g : Gh} {H : Hp} {ds : List DV} {vs : List V} (r : RVs W g H ds vs) : (!vs.isEmpty) = !ds.isEmpty := by
  have := r.length
  cases ds <;> cases vs <;> simp_all
end
end Cv
end
section
set_option Elab.async false
set_option linter.all false
set_option maxRecDepth 100000
set_option maxHeartbeats 1000000
namespace Cv
open PySem PySem.Spec PyProof.Rows L2
section
variable {W : Wd} {g : Gh} {H : Hp} {v : V}
theorem cur_int {i : Int} : Cur W g H (.int i) v ↔ v = .int i := by simp [Cur, RVl, RV]
theorem cur_bl {b : Bool} : Cur W g H (.bl b) v ↔ v = .bl b := by simp [Cur, RVl, RV]
theorem cur_str {x : Str} : Cur W g H (.str x) v ↔ v = .str x := by simp [Cur, RVl, RV]
theorem cur_non : Cur W g H .non v ↔ v = .non := by simp [Cur, RVl, RV]
theorem cur_tup {ds : List DV} : Cur W g H (.tup ds) v ↔ ∃ a vs, v = .ref a ∧ TupA W g H a vs ∧ RVs W g H ds vs := by simp [Cur, RVl, RV]
theorem cur_lst {ds : List DV} : Cur W g H (.lst ds) v ↔ ∃ a vs, v = .ref a ∧ H a = some (.lst vs) ∧ RVs W g H ds vs := by simp [Cur]
theorem rv_int {i : Int} : RV W g H (.int i) v ↔ v = .int i := by simp [RV]
theorem rv_bl {b : Bool} : RV W g H (.bl b) v ↔ v = .bl b := by simp [RV]
theorem rv_str {x : Str} : RV W g H (.str x) v ↔ v = .str x := by simp [RV]
theorem rv_non : RV W g H .non v ↔ v = .non := by simp [RV]
theorem rv_new_lst {ds : List DV} {vs : List V} {p : Addr} (hp : H p = none) (sok : ∀ a, g.S a → H a ≠ none) (nm : ∀ a, a ∈ g.ml ++ g.mg → H a ≠ none) (r : RVs W g H ds vs) :
    RV W { g with S := fun a => g.S a ∨ a = p } (upd H p (.lst vs)) (.lst ds) (.ref p) := by
  simp only [RV]
  exact ⟨p, vs, rfl, ⟨.inr rfl, upd_same⟩, r.ext (grow_new hp nm) sok⟩
theorem rv_new_tup {ds : List DV} {vs : List V} {p : Addr} (hp : H p = none) (sok : ∀ a, g.S a → H a ≠ none) (nm : ∀ a, a ∈ g.ml ++ g.mg → H a ≠ none) (r : RVs W g H ds vs) :
    RV W { g with S := fun a => g.S a ∨ a = p } (upd H p (.tup vs)) (.tup ds) (.ref p) := by
  simp only [RV]
  exact ⟨p, vs, rfl, .inl ⟨.inr rfl, .inl upd_same⟩, r.ext (grow_new hp nm) sok⟩
theorem grow_at {p : Addr} {o : HO} (hp : H p = none) : Grow g H { g with S := fun a => g.S a ∨ a = p } (upd H p o) := .inr ⟨p, o, hp, rfl, rfl⟩
end

def addF : DV → DV → Option DV
  | .int i, .int j => some (.int (i + j))
  | .str x, .str y => if x.length + y.length ≤ sizeLine then some (.str (x ++ y)) else none
  | .lst a, .lst b => if a.length + b.length ≤ sizeLine then some (.lst (a ++ b)) else none
  | .tup a, .tup b => if a.length + b.length ≤ sizeLine then some (.tup (a ++ b)) else none
  | _, _ => none
def subF : DV → DV → Option DV
  | .int i, .int j => some (.int (i - j))
  | _, _ => none
def mulOk (i j : Int) : Prop := i.natAbs.log2 + j.natAbs.log2 < 100000000
instance (i j : Int) : Decidable (mulOk i j) := by unfold mulOk; infer_instance
def mulF : DV → DV → Option DV
  | .int i, .int j => if mulOk i j then some (.int (i * j)) else none
  | .lst a, .int k => if -(2 ^ 63) ≤ k ∧ k < 2 ^ 63 ∧ a.length * k.toNat ≤ sizeLine then some (.lst (List.replicate k.toNat a).flatten) else none
  | .tup a, .int k => if a ≠ [] ∧ 1 ≤ k ∧ k ≤ 1000 ∧ a.length ≤ 1000 then some (.tup (List.replicate k.toNat a).flatten) else none
  | .str x, .int k => if x.length ≤ 1000 ∧ 0 ≤ k ∧ k ≤ 10000 then some (.str (Txt.mul x k)) else none
  | _, _ => none
def divOk (j : Int) : Prop := j ≠ 0 ∧ j.natAbs.log2 < 9000
instance (j : Int) : Decidable (divOk j) := by unfold divOk; infer_instance
def fdvF : DV → DV → Option DV
  | .int i, .int j => if divOk j then some (.int (i.fdiv j)) else none
  | _, _ => none
def modF : DV → DV → Option DV
  | .int i, .int j => if j ≠ 0 then some (.int (i.fmod j)) else none
  | _, _ => none
def powF : DV → DV → Option DV
  | .int i, .int j => if 0 ≤ j ∧ j ≤ 1000000 ∧ i.natAbs < 2 ^ 64 then some (.int (i ^ j.toNat)) else none
  | _, _ => none

section
variable {W : Wd} {F : Cal} {lw : Lw} {sc : Sc} {E : WX} {X : Cx}
theorem add_ok (c : Cok W F lw sc E X) : ∃ r, OpR X (binaryOp .Add) r ∧ Op2T W r addF := by
  refine ⟨_, op_add.or (op_add_str.or (op_cat.or op_catA)), fun g H x y v u d sok nm cx cy hf Q k => ?_⟩
  rw [c.ka]
  cases x <;> cases y <;> simp only [addF] at hf <;> try (cases hf; done)
  · rename_i i j
    cases hf
    rw [cur_int] at cx cy
    exact .inl ⟨i, j, cx, cy, k g _ H (Grow.refl _ _) (rv_int.mpr rfl)⟩
  · rename_i i j
    split at hf
    · rename_i hz
      cases hf
      rw [cur_str] at cx cy
      exact .inr (.inl ⟨i, j, cx, cy, hz, k g _ H (Grow.refl _ _) (rv_str.mpr rfl)⟩)
    · cases hf
  · rename_i as bs
    split at hf
    · rename_i hz
      cases hf
      rw [cur_tup] at cx cy
      obtain ⟨a, xs, rfl, h1, r1⟩ := cx
      obtain ⟨b, ys, rfl, h2, r2⟩ := cy
      refine .inr (.inr (.inr ⟨a, b, xs, ys, rfl, rfl, h1.sq, h2.sq, by rw [r1.length, r2.length]; exact hz, fun e => ?_, fun e e' => ?_, fun e e' p hp => ?_⟩))
      · subst e
        have e : as = [] := List.length_eq_zero_iff.mp (by rw [← r1.length]; rfl)
        subst e
        exact k g _ H (Grow.refl _ _) (by simp only [RV, List.nil_append]; exact ⟨b, ys, rfl, h2, r2⟩)
      · subst e'
        have e : bs = [] := List.length_eq_zero_iff.mp (by rw [← r2.length]; rfl)
        subst e
        exact k g _ H (Grow.refl _ _) (by simp only [RV, List.append_nil]; exact ⟨a, xs, rfl, h1, r1⟩)
      · exact k _ _ _ (grow_at hp) (rv_new_tup hp sok nm (r1.append r2))
    · cases hf
  · rename_i as bs
    split at hf
    · rename_i hz
      cases hf
      rw [cur_lst] at cx cy
      obtain ⟨a, xs, rfl, h1, r1⟩ := cx
      obtain ⟨b, ys, rfl, h2, r2⟩ := cy
      refine .inr (.inr (.inl ⟨a, b, xs, ys, rfl, rfl, h1, h2, by rw [r1.length, r2.length]; exact hz, fun p hp => ?_⟩))
      exact k _ _ _ (grow_at hp) (rv_new_lst hp sok nm (r1.append r2))
    · cases hf
theorem int2_ok {op : Operator} {C : Int → Int → Prop} {h : Int → Int → Int} {f : DV → DV → Option DV} (ho : OpR X (binaryOp op) (rI C fun i j => .int (h i j)))
    (hf : ∀ x y d, f x y = some d → ∃ i j, x = .int i ∧ y = .int j ∧ C i j ∧ d = .int (h i j)) : ∃ r, OpR X (binaryOp op) r ∧ Op2T W r f := by
  refine ⟨_, ho, fun g H x y v u d sok nm cx cy e Q k => ?_⟩
  obtain ⟨i, j, rfl, rfl, hc, rfl⟩ := hf x y d e
  rw [cur_int] at cx cy
  exact ⟨i, j, cx, cy, hc, k g _ H (Grow.refl _ _) (rv_int.mpr rfl)⟩
theorem op_fdvL : OpR X (binaryOp .FloorDiv) (rI (fun _ j => divOk j) fun i j => .int (i.fdiv j)) := opI fun i j t u s Q E hc q => floordiv_int hc.1 q (.inl (PyProof.noPylong_of_log2 hc.2))
theorem sub_ok : ∃ r, OpR X (binaryOp .Sub) r ∧ Op2T W r subF := int2_ok (C := fun _ _ => True) (h := fun i j => i - j) (opI fun i j t u s Q E _ q => sub_int q) fun x y d e => by
  cases x <;> cases y <;> simp only [subF] at e <;> cases e
  exact ⟨_, _, rfl, rfl, trivial, rfl⟩
theorem fdv_ok : ∃ r, OpR X (binaryOp .FloorDiv) r ∧ Op2T W r fdvF := int2_ok op_fdvL fun x y d e => by
  cases x <;> cases y <;> simp only [fdvF] at e <;> try (cases e; done)
  split at e
  · cases e; exact ⟨_, _, rfl, rfl, by assumption, rfl⟩
  · cases e
theorem mod_ok : ∃ r, OpR X (binaryOp .Mod) r ∧ Op2T W r modF := int2_ok op_modN fun x y d e => by
  cases x <;> cases y <;> simp only [modF] at e <;> try (cases e; done)
  split at e
  · cases e; exact ⟨_, _, rfl, rfl, by assumption, rfl⟩
  · cases e
theorem pow_ok : ∃ r, OpR X (binaryOp .Pow) r ∧ Op2T W r powF := int2_ok op_pow fun x y d e => by
  cases x <;> cases y <;> simp only [powF] at e <;> try (cases e; done)
  split at e
  · cases e; exact ⟨_, _, rfl, rfl, by assumption, rfl⟩
  · cases e

theorem tup_once (l : Addr) (its : Array Value) (n : Nat) (dd : Option Addr) (sl : Array (Option Value)) (u : Tok) :
    Meets (Builtin.«tuple.__mul__» ⟨[.ref l, .int 1 u], []⟩) (fun _ R s => s.heap.get? l = some { cls := .type "tuple", dict := dd, data := .seq its n, slots := sl } ∧ R (.ok (.ret (Value.ref l))) s) :=
  .of_wp fun prog w A R s h => by
    obtain ⟨hp, g, d, tk, os⟩ := s
    obtain ⟨hl, h⟩ := h
    have f1 := AutoSeq1.idx_int
    wp_walk using wpAny_loadPart' hl
    repeat (first
      | (refine wpAny_ite_false (decide_eq_false (by decide)) ?_; wp_walk using wpAny_loadPart' hl)
      | (refine wpAny_ite_true (decide_eq_true (by simp)) ?_; wp_walk using wpAny_loadPart' hl))
    exact ⟨_, rfl, h⟩
def rTup1 (K : PySem.W.Frag) : R2 := fun x y H Q => ∃ l xs, x = .ref l ∧ y = .int 1 ∧ SqT K H l xs ∧ Q (.ref l) H
theorem op_tup1 : OpR X (binaryOp .Mult) (rTup1 X.K) := by
  intro pins s σ H x y v u Q I rx ry h
  obtain ⟨l, xs, rfl, rfl, hT, q⟩ := h
  cases rx
  obtain ⟨t, rfl⟩ := ry
  obtain ⟨its, r, ⟨⟨cls, dd, data, sl⟩, ho, hc, n, hd⟩, hs⟩ := I.tuple hT
  simp only at hc hd
  subst hc hd
  exact wpAny_binaryOp_repeat_ref (T := "tuple") (U := "int") (by decide) ⟨_, ho, rfl⟩ (fun s' => typeIs_int s' 1 t) noFill_tuple_mul F.fills_int_mul F.slot_int_rmul repeat_tuple F.slot_int_index.lookup
    (call_meets F.slot_int_rmul (typeIs_int s 1 t) F.entry_int_rmul (F.args_int_rmul_2 _ _) (int_rmul_tuple 1 t l its.toArray n dd sl)
      ⟨ho, rfl, ⟨_, ho, rfl⟩, call_meets F.slot_tuple_mul ⟨_, ho, rfl⟩ F.entry_tuple_mul (F.args_tuple_mul_2 _ _) (tup_once l its.toArray n dd sl t) ⟨ho, .ref l, H, I, rfl, q⟩⟩)
theorem mulOk_ok {i j : Int} (h : mulOk i j) : IntMulOk i j := by
  have b : ∀ x : Int, Builtin.Int.intBits x ≤ x.natAbs.log2 + 1 := fun x => by
    unfold Builtin.Int.intBits
    split <;> omega
  have b1 := b i
  have b2 := b j
  unfold mulOk at h
  unfold IntMulOk
  intro z
  have z3 := of_decide_eq_true (Bool.and_eq_true_iff.mp z).2
  rw [show bitsLine = 134217728 by decide] at z3
  omega
theorem op_mulL : OpR X (binaryOp .Mult) (rI mulOk fun i j => .int (i * j)) := opI fun _ _ _ _ _ _ _ hc q => mul_int q (mulOk_ok hc)
theorem mulOk_str {x : Str} {k : Int} (h1 : x.length ≤ 1000) (h2 : 0 ≤ k) (h3 : k ≤ 10000) : PySem.MulOk x k := by
  refine ⟨?_, fun h4 _ => ?_, fun _ _ => ?_⟩
  · rw [decide_eq_false (by omega), decide_eq_false (by omega)]; rfl
  · have h5 : (1000 : Int) ≤ (2 ^ 63 - 1) / k := by
      refine Int.le_ediv_of_mul_le (by omega) ?_
      omega
    omega
  · have h6 : x.length * k.toNat ≤ 1000 * 10000 := Nat.mul_le_mul h1 (by omega)
    unfold Builtin.Str.tooLong
    rw [decide_eq_false]
    have : sizeLine = 16777216 := by decide
    omega
theorem op_strmul : OpR X (binaryOp .Mult) (fun x y H Q => ∃ z k, x = .str z ∧ y = .int k ∧ PySem.MulOk z k ∧ Q (.str (Txt.mul z k)) H) := by
  intro pins s σ H x y v u Q I rx ry h
  obtain ⟨z, k, rfl, rfl, ok, q⟩ := h
  obtain ⟨t, rfl⟩ := rx
  obtain ⟨t2, rfl⟩ := ry
  exact PySem.SB.mul ok fun t' k' => ⟨.str (Txt.mul z k), H, I.tok _, ⟨t', rfl⟩, q⟩
theorem mul_ok (c : Cok W F lw sc E X) : ∃ r, OpR X (binaryOp .Mult) r ∧ Op2T W r mulF := by
  refine ⟨_, op_mulL.or (op_rep.or (op_repT.or (op_tup1.or op_strmul))), fun g H x y v u d sok nm cx cy hf Q k => ?_⟩
  rw [c.ka]
  cases x <;> cases y <;> simp only [mulF] at hf <;> try (cases hf; done)
  · rename_i i j
    split at hf
    · rename_i hz
      cases hf
      rw [cur_int] at cx cy
      exact .inl ⟨i, j, cx, cy, hz, k g _ H (Grow.refl _ _) (rv_int.mpr rfl)⟩
    · cases hf
  · rename_i z n
    split at hf
    · rename_i hz
      cases hf
      rw [cur_str] at cx
      rw [cur_int] at cy
      exact .inr (.inr (.inr (.inr ⟨z, n, cx, cy, mulOk_str hz.1 hz.2.1 hz.2.2, k g _ H (Grow.refl _ _) (rv_str.mpr rfl)⟩)))
    · cases hf
  · rename_i as n
    split at hf
    · rename_i hz
      cases hf
      rw [cur_tup] at cx
      rw [cur_int] at cy
      obtain ⟨a, xs, rfl, h1, r1⟩ := cx
      subst cy
      obtain ⟨hne, h2, h3, h4⟩ := hz
      by_cases e : n = 1
      · subst e
        refine .inr (.inr (.inr (.inl ⟨a, xs, rfl, rfl, h1.sq, k g _ H (Grow.refl _ _) ?_⟩)))
        have e : (List.replicate (1 : Int).toNat as).flatten = as := by simp
        rw [e]
        simp only [RV]
        exact ⟨a, xs, rfl, h1, r1⟩
      · refine .inr (.inr (.inl ⟨a, n, xs, rfl, rfl, h1.sq, fun z => hne (List.length_eq_zero_iff.mp (by rw [← r1.length, z]; rfl)), by omega, h3, by rw [r1.length]; exact h4, fun p hp => ?_⟩))
        exact k _ _ _ (grow_at hp) (rv_new_tup hp sok nm (r1.rep _))
    · cases hf
  · rename_i as n
    split at hf
    · rename_i hz
      cases hf
      rw [cur_lst] at cx
      rw [cur_int] at cy
      obtain ⟨a, xs, rfl, h1, r1⟩ := cx
      subst cy
      refine .inr (.inl ⟨a, n, xs, rfl, rfl, h1, hz.1, hz.2.1, by rw [r1.length]; exact hz.2.2, fun p hp => ?_⟩)
      exact k _ _ _ (grow_at hp) (rv_new_lst hp sok nm (r1.rep _))
    · cases hf

mutual
def toPy : DV → Option PyData
  | .non => some .none
  | .bl b => some (.bool b)
  | .int i => some (.int i)
  | .str x => some (.str x)
  | .tup ds => (toPys ds).map .tuple
  | .lst ds => (toPys ds).map .list
  | _ => none
def toPys : List DV → Option (List PyData)
  | [] => some []
  | d :: ds => match toPy d, toPys ds with
    | some p, some ps => some (p :: ps)
    | _, _ => none
end
mutual
theorem dp_of {W : Wd} {g : Gh} {H : Hp} : ∀ (d : DV) {v : V} {p : PyData}, RV W g H d v → toPy d = some p → Dp W.K H v p
  | .non, v, p, h, e => by
    simp only [toPy] at e; cases e
    rw [rv_non] at h; subst h; exact .non
  | .bl b, v, p, h, e => by
    simp only [toPy] at e; cases e
    rw [rv_bl] at h; subst h; exact .bl b
  | .int b, v, p, h, e => by
    simp only [toPy] at e; cases e
    rw [rv_int] at h; subst h; exact .int b
  | .str b, v, p, h, e => by
    simp only [toPy] at e; cases e
    rw [rv_str] at h; subst h; exact .str b
  | .tup ds, v, p, h, e => by
    simp only [toPy] at e
    cases hp : toPys ds with
    | none => rw [hp] at e; cases e
    | some ps =>
      rw [hp] at e; cases e
      simp only [RV] at h
      obtain ⟨a, vs, rfl, h1, h2⟩ := h
      exact .tup h1.sq (dps_of ds h2 hp)
  | .lst ds, v, p, h, e => by
    simp only [toPy] at e
    cases hp : toPys ds with
    | none => rw [hp] at e; cases e
    | some ps =>
      rw [hp] at e; cases e
      simp only [RV] at h
      obtain ⟨a, vs, rfl, h1, h2⟩ := h
      exact .lst (SqL.of h1.2) (dps_of ds h2 hp)
  | .dct _ _, _, _, _, e => by simp only [toPy] at e; cases e
  | .loc _, _, _, _, e => by simp only [toPy] at e; cases e
  | .glb _, _, _, _, e => by simp only [toPy] at e; cases e
  | .scr _, _, _, _, e => by simp only [toPy] at e; cases e
  | .xc _ _ _, _, _, _, e => by simp only [toPy] at e; cases e
theorem dps_of {W : Wd} {g : Gh} {H : Hp} : ∀ (ds : List DV) {vs : List V} {ps : List PyData}, RVs W g H ds vs → toPys ds = some ps → DpAll W.K H vs ps
  | [], vs, ps, h, e => by
    simp only [toPys] at e; cases e
    simp only [RVs] at h; subst h; exact .nil
  | d :: ds, vs, ps, h, e => by
    simp only [toPys] at e
    simp only [RVs] at h
    obtain ⟨v, r, rfl, h1, h2⟩ := h
    cases h3 : toPy d with
    | none => rw [h3] at e; cases e
    | some p =>
      cases h4 : toPys ds with
      | none => rw [h3, h4] at e; cases e
      | some qs =>
        rw [h3, h4] at e; cases e
        exact .cons (dp_of d h1 h3) (dps_of ds h2 h4)
end
theorem dp_cur {g : Gh} {H : Hp} {d : DV} {v : V} {p : PyData} (h : Cur W g H d v) (e : toPy d = some p) : Dp W.K H v p := by
  cases d with
  | lst ds =>
    obtain ⟨a, vs, rfl, h1, h2⟩ := h
    simp only [toPy] at e
    cases hp : toPys ds with
    | none => rw [hp] at e; cases e
    | some ps => rw [hp] at e; cases e; exact .lst (SqL.of h1) (dps_of ds h2 hp)
  | dct _ _ => simp only [toPy] at e; cases e
  | loc _ => simp only [toPy] at e; cases e
  | glb _ => simp only [toPy] at e; cases e
  | scr _ => simp only [toPy] at e; cases e
  | xc _ _ _ => simp only [toPy] at e; cases e
  | non => exact dp_of (g := g) .non h e
  | bl b => exact dp_of (g := g) (.bl b) h e
  | int b => exact dp_of (g := g) (.int b) h e
  | str b => exact dp_of (g := g) (.str b) h e
  | tup b => exact dp_of (g := g) (.tup b) h e
def eqS : DV → DV → Option Bool
  | .str a, .str b => some (decide (a = b))
  | _, _ => none
def eqP (x y : DV) : Option Bool := match toPy x, toPy y with
  | some p, some q => if SeqAt.shaped p = true ∧ SeqAt.shaped q = true then some (PyData.eqv p q) else none
  | _, _ => none
def eqB (x y : DV) : Option Bool := match eqS x y with
  | some b => some b
  | none => eqP x y
def eqF (x y : DV) : Option DV := (eqB x y).map .bl
def neF (x y : DV) : Option DV := (eqB x y).map fun b => .bl (!b)
theorem eqB_some {x y : DV} {b : Bool} (h : eqB x y = some b) : (∃ i j, x = .str i ∧ y = .str j ∧ b = decide (i = j)) ∨ ∃ p q, toPy x = some p ∧ toPy y = some q ∧ SeqAt.shaped p = true ∧ SeqAt.shaped q = true ∧ b = PyData.eqv p q := by
  unfold eqB at h
  cases hs : eqS x y with
  | some b' =>
    rw [hs] at h
    cases h
    unfold eqS at hs
    split at hs
    · cases hs; exact .inl ⟨_, _, rfl, rfl, rfl⟩
    · cases hs
  | none =>
    rw [hs] at h
    have h : eqP x y = some b := h
    refine .inr ?_
    unfold eqP at h
    cases h1 : toPy x with
    | none => rw [h1] at h; cases h
    | some p =>
      cases h2 : toPy y with
      | none => rw [h1, h2] at h; cases h
      | some q =>
        rw [h1, h2] at h
        simp only at h
        split at h
        · rename_i hz; cases h; exact ⟨p, q, rfl, rfl, hz.1, hz.2, rfl⟩
        · cases h
theorem dec_str {i j : Str} : decide (V.str i = V.str j) = decide (i = j) := by
  by_cases h : i = j
  · subst h; simp
  · simp [h]
theorem eq_ok (c : Cok W F lw sc E X) : ∃ r, OpR X (compareOp .Eq) r ∧ Op2T W r eqF := by
  refine ⟨_, (op_eqD c.units).or op_eq, fun g H x y v u d sok nm cx cy hf Q k => ?_⟩
  rw [c.ka]
  obtain ⟨b, hb, rfl⟩ := Option.map_eq_some_iff.mp hf
  have q := k g _ H (Grow.refl _ _) (rv_bl.mpr rfl)
  rcases eqB_some hb with ⟨i, j, rfl, rfl, rfl⟩ | ⟨p, q', h1, h2, h3, h4, rfl⟩
  · rw [cur_str] at cx cy
    subst cx cy
    exact .inr ⟨rfl, by rw [dec_str]; exact q⟩
  · exact .inl ⟨p, q', dp_cur cx h1, dp_cur cy h2, h3, h4, q⟩
theorem ne_ok (c : Cok W F lw sc E X) : ∃ r, OpR X (compareOp .NotEq) r ∧ Op2T W r neF := by
  refine ⟨_, (op_neD c.units).or op_ne, fun g H x y v u d sok nm cx cy hf Q k => ?_⟩
  rw [c.ka]
  obtain ⟨b, hb, rfl⟩ := Option.map_eq_some_iff.mp hf
  have q := k g _ H (Grow.refl _ _) (rv_bl.mpr rfl)
  rcases eqB_some hb with ⟨i, j, rfl, rfl, rfl⟩ | ⟨p, q', h1, h2, h3, h4, rfl⟩
  · rw [cur_str] at cx cy
    subst cx cy
    exact .inr ⟨rfl, by rw [dec_str]; exact q⟩
  · exact .inl ⟨p, q', dp_cur cx h1, dp_cur cy h2, h3, h4, q⟩
def icmp (p : Int → Int → Bool) : DV → DV → Option DV
  | .int i, .int j => some (.bl (p i j))
  | _, _ => none
theorem icmp_ok {op : CmpOp} {p : Int → Int → Bool} (ho : OpR X (compareOp op) (rI0 fun i j => .bl (p i j))) : ∃ r, OpR X (compareOp op) r ∧ Op2T W r (icmp p) := by
  refine ⟨_, ho, fun g H x y v u d sok nm cx cy hf Q k => ?_⟩
  cases x <;> cases y <;> simp only [icmp] at hf <;> cases hf
  rw [cur_int] at cx cy
  exact ⟨_, _, cx, cy, k g _ H (Grow.refl _ _) (rv_bl.mpr rfl)⟩
theorem lt_ok : ∃ r, OpR X (compareOp .Lt) r ∧ Op2T W r (icmp fun i j => decide (i < j)) := icmp_ok op_lt
theorem le_ok : ∃ r, OpR X (compareOp .LtE) r ∧ Op2T W r (icmp fun i j => decide (i ≤ j)) := icmp_ok op_le
theorem gt_ok : ∃ r, OpR X (compareOp .Gt) r ∧ Op2T W r (icmp fun i j => decide (j < i)) := icmp_ok op_gt
theorem ge_ok : ∃ r, OpR X (compareOp .GtE) r ∧ Op2T W r (icmp fun i j => decide (j ≤ i)) := icmp_ok op_ge
def isNone : DV → Bool
  | .non => true
  | _ => false
theorem cur_none {g : Gh} {H : Hp} {d : DV} {v : V} (h : Cur W g H d v) : decide (v = .non) = isNone d := by
  cases d with
  | non => rw [cur_non] at h; subst h; rfl
  | bl b => rw [cur_bl] at h; subst h; rfl
  | int b => rw [cur_int] at h; subst h; rfl
  | str b => rw [cur_str] at h; subst h; rfl
  | tup ds => rw [cur_tup] at h; obtain ⟨a, vs, rfl, _⟩ := h; rfl
  | lst ds => rw [cur_lst] at h; obtain ⟨a, vs, rfl, _⟩ := h; rfl
  | dct ks ds => obtain ⟨a, vs, rfl, _⟩ := h; rfl
  | loc n => obtain ⟨a, rfl, _⟩ := h; rfl
  | glb n =>
    have h' : RV W g H (.glb n) v := h
    simp only [RV] at h'; obtain ⟨a, rfl, _⟩ := h'; rfl
  | scr n =>
    have h' : RV W g H (.scr n) v := h
    simp only [RV] at h'; obtain ⟨a, rfl, _⟩ := h'; rfl
  | xc c fs ds =>
    have h' : RV W g H (.xc c fs ds) v := h
    simp only [RV] at h'
def isF : DV → DV → Option DV
  | x, .non => some (.bl (isNone x))
  | .bl a, .bl b => some (.bl (decide (a = b)))
  | _, _ => none
def nisF : DV → DV → Option DV
  | x, .non => some (.bl (!isNone x))
  | .bl a, .bl b => some (.bl (!decide (a = b)))
  | _, _ => none
theorem is_ok : ∃ r, OpR X (compareOp .Is) r ∧ Op2T W r isF := by
  refine ⟨_, op_isN.or op_isBl, fun g H x y v u d sok nm cx cy hf Q k => ?_⟩
  cases y <;> try (cases x <;> simp only [isF] at hf <;> cases hf; done)
  · rw [cur_non] at cy
    have e : isF x .non = some (.bl (isNone x)) := by cases x <;> rfl
    rw [e] at hf; cases hf
    refine .inl ⟨cy, ?_⟩
    rw [cur_none cx]
    exact k g _ H (Grow.refl _ _) (rv_bl.mpr rfl)
  · cases x <;> simp only [isF] at hf <;> cases hf
    rw [cur_bl] at cx cy
    exact .inr ⟨_, _, cx, cy, k g _ H (Grow.refl _ _) (rv_bl.mpr rfl)⟩
theorem nis_ok : ∃ r, OpR X (compareOp .IsNot) r ∧ Op2T W r nisF := by
  refine ⟨_, op_notN.or op_notBl, fun g H x y v u d sok nm cx cy hf Q k => ?_⟩
  cases y <;> try (cases x <;> simp only [nisF] at hf <;> cases hf; done)
  · rw [cur_non] at cy
    have e : nisF x .non = some (.bl (!isNone x)) := by cases x <;> rfl
    rw [e] at hf; cases hf
    refine .inl ⟨cy, ?_⟩
    rw [cur_none cx]
    exact k g _ H (Grow.refl _ _) (rv_bl.mpr rfl)
  · cases x <;> simp only [nisF] at hf <;> cases hf
    rw [cur_bl] at cx cy
    exact .inr ⟨_, _, cx, cy, k g _ H (Grow.refl _ _) (rv_bl.mpr rfl)⟩
def negF : DV → Option DV
  | .int i => some (.int (-i))
  | _ => none
theorem neg_ok : ∃ r, UnR X (unaryOp .USub) r ∧ Op1T W r negF := by
  refine ⟨_, un_neg, fun g H x v d sok nm cx hf Q k => ?_⟩
  cases x <;> simp only [negF] at hf <;> cases hf
  rw [cur_int] at cx
  exact ⟨_, cx, k g _ H (Grow.refl _ _) (rv_int.mpr rfl)⟩
end
end Cv
end
section
set_option Elab.async false
set_option linter.all false
set_option maxRecDepth 100000
set_option maxHeartbeats 1000000
namespace Cv
open PySem PySem.Spec PyProof.Rows L2
section
variable {W : Wd} {F : Cal} {lw : Lw} {sc : Sc} {E : WX} {X : Cx} {σ : L2.St} {H : Hp} {g : Gh} {st : Sta}

def SndB (F : Cal) (lw : Lw) (sc : Sc) (op : BoolOp) (es : List Expr) (f : Ex) : Prop := ∀ pos W E X, Cok W F lw sc E X → PE X (.BoolOp op es pos) (TEv W E f)
def SndBT (F : Cal) (lw : Lw) (sc : Sc) (op : BoolOp) (es : List Expr) (f : Ex) : Prop := ∀ pos W E X, Cok W F lw sc E X → PW X (.BoolOp op es pos) (TTv W E f)
theorem pw_imp {e : Expr} {t t' : TT} (h : PW X e t) (i : ∀ σ H Q, t' σ H Q → t σ H Q) : PW X e t' := ⟨fun wh p s σ H Q I q => h.run wh p s σ H Q I (i σ H Q q)⟩
theorem sndB_one {op : BoolOp} {a : Expr} {f : Ex} (h : Snd F lw sc a f) : SndB F lw sc op [a] f := fun pos W E X c => pe_one (h W E X c)
theorem sndBT_and1 {a : Expr} {f : Ex} (h : SndT F lw sc a f) : SndBT F lw sc .And [a] f := fun pos W E X c => pw_and1 (h W E X c)
theorem sndBT_or1 {a : Expr} {f : Ex} (h : SndT F lw sc a f) : SndBT F lw sc .Or [a] f := fun pos W E X c => pw_or1 (h W E X c)
theorem snd_boolop {op : BoolOp} {es : List Expr} {f : Ex} {pos : Pos} (h : SndB F lw sc op es f) : Snd F lw sc (.BoolOp op es pos) f := fun W E X c => h pos W E X c
theorem sndT_boolop {op : BoolOp} {es : List Expr} {f : Ex} {pos : Pos} (h : SndBT F lw sc op es f) : SndT F lw sc (.BoolOp op es pos) f := fun W E X c => (h pos W E X c).pt

theorem sndB_and {a b : Expr} {es : List Expr} {fa fb : Ex} (ha : Snd F lw sc a fa) (hb : SndB F lw sc .And (b :: es) fb) : SndB F lw sc .And (a :: b :: es) (andE fa fb) := fun pos W E X c =>
  pe_imp (pe_and (ha W E X c) (hb pos W E X c)) fun σ H Q ⟨g, st, I, q⟩ => ⟨g, st, I, Post.bind I.sok q fun g1 st1 d v H1 I1 e1 r1 q1 => by
    cases d with
    | bl b =>
      refine ⟨b, r1, ?_⟩
      cases b with
      | true => rw [if_pos rfl]; exact ⟨g1, st1, I1, q1⟩
      | false => rw [if_neg Bool.false_ne_true]; exact Post.ok q1 I1 (by simp [RVl, RV])
    | _ => exact q1.elim⟩
theorem sndB_or {a b : Expr} {es : List Expr} {fa fb : Ex} (ha : Snd F lw sc a fa) (hb : SndB F lw sc .Or (b :: es) fb) : SndB F lw sc .Or (a :: b :: es) (orE fa fb) := fun pos W E X c =>
  pe_imp (pe_or (ha W E X c) (hb pos W E X c)) fun σ H Q ⟨g, st, I, q⟩ => ⟨g, st, I, Post.bind I.sok q fun g1 st1 d v H1 I1 e1 r1 q1 => by
    cases d with
    | bl b =>
      refine ⟨b, r1, ?_⟩
      cases b with
      | false => rw [if_neg Bool.false_ne_true]; exact ⟨g1, st1, I1, q1⟩
      | true => rw [if_pos rfl]; exact Post.ok q1 I1 (by simp [RVl, RV])
    | _ => exact q1.elim⟩
theorem Post.test {f : Ex} {k : DV → Sta → Out Sta DV} {α β : Type} {rel : Gh → Hp → α → β → Prop} {K : DV → Sta → Out Sta α} {Q : β → Hp → Prop} {R : Bool → Hp → Prop} (sok : ∀ a, g.S a → H a ≠ none)
    (p : Post W E σ rel g H ((f st).bind K) Q) (hK : ∀ d s, (∀ b, d ≠ .bl b) → K d s = .bad)
    (h : ∀ g1 st1 b H1, SI W g1 st1 σ H1 → Ext g H g1 H1 → Post W E σ rel g1 H1 (K (.bl b) st1) Q → R b H1) : Post W E σ same g H (tru f st) R := by
  unfold tru
  cases hf : f st with
  | ok d st' =>
    rw [hf] at p
    simp only [Out.bind_ok] at p ⊢
    cases d with
    | bl b =>
      intro g1 b' H1 I1 e1 r1
      have r1 : b' = b := r1
      subst r1
      exact h g1 st' _ H1 I1 e1 (p.mono sok e1)
    | _ => rw [hK _ _ (by intro b z; cases z)] at p; exact p.elim
  | ex x st' => rw [hf] at p; simp only [Out.bind_ex] at p ⊢; exact p
  | bad => rw [hf] at p; exact p.elim
theorem tru_and {fa fb : Ex} : tru (andE fa fb) st = (fa st).bind fun x s => match x with
    | .bl true => tru fb s
    | .bl false => .ok false s
    | _ => .bad := by
  unfold tru andE
  cases fa st with
  | ok d s =>
    simp only [Out.bind_ok]
    cases d with
    | bl b => cases b <;> rfl
    | _ => rfl
  | ex x s => rfl
  | bad => rfl
theorem tru_or {fa fb : Ex} : tru (orE fa fb) st = (fa st).bind fun x s => match x with
    | .bl false => tru fb s
    | .bl true => .ok true s
    | _ => .bad := by
  unfold tru orE
  cases fa st with
  | ok d s =>
    simp only [Out.bind_ok]
    cases d with
    | bl b => cases b <;> rfl
    | _ => rfl
  | ex x s => rfl
  | bad => rfl
theorem sndBT_and {a b : Expr} {es : List Expr} {fa fb : Ex} (ha : SndT F lw sc a fa) (hb : SndBT F lw sc .And (b :: es) fb) : SndBT F lw sc .And (a :: b :: es) (andE fa fb) := fun pos W E X c =>
  pw_imp (pw_and (ha W E X c) (hb pos W E X c)) fun σ H Q ⟨g, st, I, q⟩ => by
    rw [tru_and] at q
    refine ⟨g, st, I, Post.test (k := fun _ s => .bad) I.sok q (fun d s hd => ?_) fun g1 st1 b H1 I1 e1 q1 => ?_⟩
    · cases d <;> first | rfl | exact absurd rfl (hd _)
    · cases b with
      | true => rw [if_pos rfl]; exact ⟨g1, st1, I1, q1⟩
      | false => rw [if_neg Bool.false_ne_true]; exact q1.ok I1 rfl
theorem sndBT_or {a b : Expr} {es : List Expr} {fa fb : Ex} (ha : SndT F lw sc a fa) (hb : SndBT F lw sc .Or (b :: es) fb) : SndBT F lw sc .Or (a :: b :: es) (orE fa fb) := fun pos W E X c =>
  pw_imp (pw_or (ha W E X c) (hb pos W E X c)) fun σ H Q ⟨g, st, I, q⟩ => by
    rw [tru_or] at q
    refine ⟨g, st, I, Post.test (k := fun _ s => .bad) I.sok q (fun d s hd => ?_) fun g1 st1 b H1 I1 e1 q1 => ?_⟩
    · cases d <;> first | rfl | exact absurd rfl (hd _)
    · cases b with
      | false => rw [if_neg Bool.false_ne_true]; exact ⟨g1, st1, I1, q1⟩
      | true => rw [if_pos rfl]; exact q1.ok I1 rfl
def notE (f : Ex) : Ex := fun st => (f st).bind fun x s => match x with
  | .bl b => .ok (.bl !b) s
  | _ => .bad
theorem snd_not {a : Expr} {f : Ex} {pos : Pos} (h : Snd F lw sc a f) : Snd F lw sc (.UnaryOp .Not a pos) (notE f) := fun W E X c =>
  pe_imp (pe_not (h W E X c)) fun σ H Q ⟨g, st, I, q⟩ => ⟨g, st, I, Post.bind I.sok q fun g1 st1 d v H1 I1 e1 r1 q1 => by
    cases d with
    | bl b => exact ⟨b, r1, Post.ok q1 I1 (by simp [RVl, RV])⟩
    | _ => exact q1.elim⟩
theorem tru_not {f : Ex} : tru (notE f) st = (f st).bind fun x s => match x with
    | .bl b => .ok (!b) s
    | _ => .bad := by
  unfold tru notE
  cases f st with
  | ok d s => cases d <;> rfl
  | ex x s => rfl
  | bad => rfl
theorem sndT_not {a : Expr} {f : Ex} {pos : Pos} (h : SndT F lw sc a f) : SndT F lw sc (.UnaryOp .Not a pos) (notE f) := fun W E X c =>
  pt_imp (pt_not (h W E X c)) fun σ H Q ⟨g, st, I, q⟩ => by
    rw [tru_not] at q
    refine ⟨g, st, I, Post.test (k := fun _ s => .bad) I.sok q (fun d s hd => ?_) fun g1 st1 b H1 I1 e1 q1 => ?_⟩
    · cases d <;> first | rfl | exact absurd rfl (hd _)
    · exact q1.ok I1 rfl
theorem snd_ite {d a b : Expr} {fd fa fb : Ex} {pos : Pos} (hd : SndT F lw sc d fd) (ha : Snd F lw sc a fa) (hb : Snd F lw sc b fb) : Snd F lw sc (.IfExp d a b pos) (ife fd fa fb) := fun W E X c =>
  pe_imp (pe_ifExp (hd W E X c) (ha W E X c) (hb W E X c)) fun σ H Q ⟨g, st, I, q⟩ =>
    ⟨g, st, I, Post.test (k := fun _ s => .bad) I.sok q (fun d s hd => by cases d <;> first | rfl | exact absurd rfl (hd _)) fun g1 st1 b H1 I1 e1 q1 => by
      cases b with
      | true => rw [if_pos rfl]; exact ⟨g1, st1, I1, q1⟩
      | false => rw [if_neg Bool.false_ne_true]; exact ⟨g1, st1, I1, q1⟩⟩

theorem nodup_get {l m : List Addr} (nd : (l ++ m).Nodup) {i j : Nat} {a : Addr} (hi : l[i]? = some a) (hj : l[j]? = some a) : i = j := by
  have nl : l.Nodup := (List.nodup_append.mp nd).1
  obtain ⟨h1, e1⟩ := List.getElem?_eq_some_iff.mp hi
  obtain ⟨h2, e2⟩ := List.getElem?_eq_some_iff.mp hj
  exact (List.getElem_inj nl).mp (e1.trans e2.symm)
theorem nodup_get2 {l m : List Addr} (nd : (l ++ m).Nodup) {i j : Nat} {a : Addr} (hi : m[i]? = some a) (hj : m[j]? = some a) : i = j := by
  have nl : m.Nodup := (List.nodup_append.mp nd).2.1
  obtain ⟨h1, e1⟩ := List.getElem?_eq_some_iff.mp hi
  obtain ⟨h2, e2⟩ := List.getElem?_eq_some_iff.mp hj
  exact (List.getElem_inj nl).mp (e1.trans e2.symm)
theorem nodup_lm {l m : List Addr} (nd : (l ++ m).Nodup) {i j : Nat} {a : Addr} (hi : l[i]? = some a) (hj : m[j]? = some a) : False :=
  (List.nodup_append.mp nd).2.2 _ (List.mem_of_getElem? hi) _ (List.mem_of_getElem? hj) rfl
theorem SI.frz (I : SI W g st σ H) {d d' : DV} {v : V} {st' : Sta} (r : RVl W g H d v) (h : Cv.frz d st = .ok d' st') : ∃ g', SI W g' st' σ H ∧ Ext g H g' H ∧ RV W g' H d' v := by
  cases d with
  | loc n =>
    obtain ⟨a, rfl, ha⟩ := r
    unfold Cv.frz at h
    simp only at h
    cases hn : st.lh[n]? with
    | none => rw [hn] at h; cases h
    | some p =>
      obtain ⟨b, o⟩ := p
      rw [hn] at h
      simp only at h
      injection h with h1 h2
      subst h1 h2
      obtain ⟨a', e', ro, hb, pl⟩ := I.lo n b o hn
      rw [ha] at e'; cases e'
      have hH : H a ≠ none := I.there a (List.mem_append_left _ (List.mem_of_getElem? ha))
      have e : Ext g H { g with S := fun x => g.S x ∨ x = a } H := ⟨fun x h => .inl h, ⟨[], by simp⟩, ⟨[], by simp⟩, fun _ _ _ => rfl, fun x h => by
        rcases h with h | h
        · exact .inl h
        · subst h; exact .inr (.inl (List.mem_of_getElem? ha)), fun x h => .inl h, fun x h => .inl h, fun x h => h⟩
      refine ⟨{ g with S := fun x => g.S x ∨ x = a }, ⟨I.len, fun i d hi => ?_, by rw [List.length_set]; exact I.ll, fun k b' o' hk => ?_, I.gl, fun k o' hk => ?_, I.nd, fun x hx => ?_⟩, e, ?_⟩
      · obtain ⟨v, h1, h2⟩ := I.env i d hi
        exact ⟨v, h1, h2.ext e I.sok⟩
      · by_cases hkn : k = n
        · subst hkn
          rw [List.getElem?_set_self (List.getElem?_eq_some_iff.mp hn).1] at hk
          cases hk
          exact ⟨a, ha, ro.ext e I.sok rfl, ⟨fun _ => .inr rfl, fun _ => rfl⟩, pl⟩
        · rw [List.getElem?_set_ne (Ne.symm hkn)] at hk
          obtain ⟨x, h1, h2, h3, h4⟩ := I.lo k b' o' hk
          refine ⟨x, h1, h2.ext e I.sok rfl, h3.trans ⟨fun z => .inl z, fun z => z.elim id fun z => ?_⟩, h4⟩
          subst z
          exact absurd (nodup_get I.nd h1 ha) hkn
      · obtain ⟨x, h1, h2, h3⟩ := I.go k o' hk
        refine ⟨x, h1, h2.ext e I.sok rfl, fun z => z.elim h3 fun z => ?_⟩
        subst z
        exact nodup_lm I.nd ha h1
      · rcases hx with hx | hx
        · exact I.sok x hx
        · subst hx; exact hH
      · cases o with
        | lst ds =>
          obtain ⟨vs, h1, h2⟩ := ro
          simp only [Ob.val, RV]
          exact ⟨a, vs, rfl, ⟨.inr rfl, h1⟩, h2.ext e I.sok⟩
        | dct ks ds =>
          obtain ⟨kvs, h1, h2, h3⟩ := ro
          simp only [Ob.val, RV]
          exact ⟨a, kvs, rfl, ⟨.inr rfl, h1⟩, h2, h3.ext e I.sok⟩
        | ins c fs ds => exact pl.elim
  | _ =>
    unfold Cv.frz at h
    injection h with h1 h2
    subst h1 h2
    exact ⟨g, I, Ext.refl _ _, r⟩
theorem frz_env {d d' : DV} {st st' : Sta} (h : Cv.frz d st = .ok d' st') : st'.env = st.env ∧ st'.gh = st.gh := by
  cases d with
  | loc n =>
    unfold Cv.frz at h
    simp only at h
    cases hn : st.lh[n]? with
    | none => rw [hn] at h; cases h
    | some p => rw [hn] at h; injection h with h1 h2; subst h2; exact ⟨rfl, rfl⟩
  | _ => unfold Cv.frz at h; injection h with h1 h2; subst h2; exact ⟨rfl, rfl⟩
theorem frz_ok_or {d : DV} {st : Sta} : (∃ d' st', Cv.frz d st = .ok d' st') ∨ Cv.frz d st = .bad := by
  cases d with
  | loc n =>
    unfold Cv.frz
    simp only
    cases st.lh[n]? with
    | none => exact .inr rfl
    | some p => exact .inl ⟨_, _, rfl⟩
  | _ => exact .inl ⟨_, _, rfl⟩
theorem Post.out {α β : Type} {rel : Gh → Hp → α → β → Prop} {f : Ex} {k : DV → Sta → Out Sta α} {Q : β → Hp → Prop} {R : V → Hp → Prop} (sok : ∀ a, g.S a → H a ≠ none) (p : Post W E σ rel g H ((Cv.out f st).bind k) Q)
    (h : ∀ g1 st1 a v H1, SI W g1 st1 σ H1 → Ext g H g1 H1 → RV W g1 H1 a v → Post W E σ rel g1 H1 (k a st1) Q → R v H1) : Post W E σ (RVl W) g H (f st) R := by
  have e : (Cv.out f st).bind k = (f st).bind fun d s => (Cv.frz d s).bind k := by
    unfold Cv.out
    cases f st <;> rfl
  rw [e] at p
  refine Post.bind sok p fun g1 st1 d v H1 I1 e1 r1 q1 => ?_
  rcases frz_ok_or (d := d) (st := st1) with ⟨d', st', hf⟩ | hf
  · rw [hf] at q1
    obtain ⟨g2, I2, e2, r2⟩ := I1.frz r1 hf
    exact h g2 st' d' v H1 I2 (e1.trans sok e2) r2 (q1.mono I1.sok e2)
  · rw [hf] at q1; exact q1.elim

def noStar : Expr → Bool
  | .Starred _ _ => false
  | _ => true
theorem starEach_cons {e : Expr} {es : List Expr} {env : Env} (h : noStar e = true) : starEach (e :: es) env = (false, eval e env) :: starEach es env := by
  cases e <;> first | rfl | cases h
theorem sndA_nil : SndA F lw sc [] nilE := fun W E X c => pa_imp pa_nil fun σ H Q ⟨g, st, I, q⟩ => Post.ok q I (by simp [RVs])
theorem sndA_cons {e : Expr} {es : List Expr} {f : Ex} {fs : Exs} (hs : noStar e = true) (he : Snd F lw sc e f) (hr : SndA F lw sc es fs) : SndA F lw sc (e :: es) (consE f fs) := fun W E X c =>
  pa_imp (pa_cons (he W E X c) (hr W E X c) (starEach_cons hs)) fun σ H Q ⟨g, st, I, q⟩ => ⟨g, st, I, Post.out I.sok q fun g1 st1 d v H1 I1 e1 r1 q1 =>
    ⟨g1, st1, I1, Post.bind I1.sok q1 fun g2 st2 ds vs H2 I2 e2 r2 q2 => Post.ok q2 I2 (by simp only [RVs]; exact ⟨v, vs, rfl, r1.ext e2 I1.sok, r2⟩)⟩⟩

theorem ext_new {p : Addr} {u : HO} (I : SI W g st σ H) (hp : H p = none) (g' : Gh) (hS : ∀ a, g.S a → g'.S a) (hS' : ∀ a, g'.S a → g.S a ∨ a = p) (hl : g'.ml = g.ml ∨ g'.ml = g.ml ++ [p]) (hm : g'.mg = g.mg ∨ g'.mg = g.mg ++ [p]) : Ext g H g' (upd H p u) where
  s := hS
  l := hl.elim (fun e => ⟨[], by rw [e, List.append_nil]⟩) fun e => ⟨[p], e⟩
  m := hm.elim (fun e => ⟨[], by rw [e, List.append_nil]⟩) fun e => ⟨[p], e⟩
  kp := fun a h _ => upd_ne fun e => h (by rw [e]; exact hp)
  ns := fun a h => by
    rcases hS' a h with h | h
    · exact .inl h
    · subst h; exact .inr (.inr hp)
  nl := fun a h => by
    rcases hl with e | e
    · rw [e] at h; exact .inl h
    · rw [e] at h
      rcases List.mem_append.mp h with h | h
      · exact .inl h
      · rw [List.mem_singleton.mp h]; exact .inr hp
  nm := fun a h => by
    rcases hm with e | e
    · rw [e] at h; exact .inl h
    · rw [e] at h
      rcases List.mem_append.mp h with h | h
      · exact .inl h
      · rw [List.mem_singleton.mp h]; exact .inr hp
  al := fun a h => by
    by_cases e : a = p
    · subst e; rw [upd_same]; simp
    · rw [upd_ne e]; exact h
theorem SI.newLoc {p : Addr} {u : HO} {o : Ob} (I : SI W g st σ H) (hp : H p = none) (pl : o.plain) (hr : ∀ g' H', Ext g H g' H' → H' p = some u → RO W g' H' p o) :
    SI W { g with ml := g.ml ++ [p] } { st with lh := st.lh ++ [(false, o)] } σ (upd H p u) ∧ Ext g H { g with ml := g.ml ++ [p] } (upd H p u) := by
  have e : Ext g H { g with ml := g.ml ++ [p] } (upd H p u) := ext_new I hp _ (fun a h => h) (fun a h => .inl h) (.inr rfl) (.inl rfl)
  have ne : ∀ a, a ∈ g.ml ++ g.mg → a ≠ p := fun a ha z => I.apart hp (z ▸ ha)
  refine ⟨⟨I.len, fun i d hi => ?_, ?_, fun n b o' hn => ?_, I.gl, fun n o' hn => ?_, ?_, fun a ha => ?_⟩, e⟩
  · obtain ⟨v, h1, h2⟩ := I.env i d hi
    exact ⟨v, h1, h2.ext e I.sok⟩
  · simp only [List.length_append, I.ll, List.length_singleton]
  · have hn : (st.lh ++ [(false, o)])[n]? = some (b, o') := hn
    by_cases hl : n < st.lh.length
    · rw [List.getElem?_append_left hl] at hn
      obtain ⟨a, h1, h2, h3, h4⟩ := I.lo n b o' hn
      have hm : a ∈ g.ml ++ g.mg := List.mem_append_left _ (List.mem_of_getElem? h1)
      exact ⟨a, get_pre h1, h2.ext e I.sok (upd_ne (ne a hm)), h3, h4⟩
    · have e0 : n = st.lh.length := by
        have := (List.getElem?_eq_some_iff.mp hn).1
        simp only [List.length_append, List.length_singleton] at this
        omega
      subst e0
      rw [List.getElem?_append_right (Nat.le_refl _), Nat.sub_self] at hn
      cases hn
      refine ⟨p, ?_, hr _ _ e upd_same, ⟨fun z => Bool.noConfusion z, fun z => absurd hp (I.sok p z)⟩, pl⟩
      show (g.ml ++ [p])[st.lh.length]? = some p
      rw [← I.ll, List.getElem?_append_right (Nat.le_refl _), Nat.sub_self]; rfl
  · obtain ⟨a, h1, h2, h3⟩ := I.go n o' hn
    have hm : a ∈ g.ml ++ g.mg := List.mem_append_right _ (List.mem_of_getElem? h1)
    exact ⟨a, h1, h2.ext e I.sok (upd_ne (ne a hm)), h3⟩
  · show ((g.ml ++ [p]) ++ g.mg).Nodup
    have hx : p ∉ g.ml ++ g.mg := I.apart hp
    have nd := I.nd
    rw [List.append_assoc, List.nodup_append] at *
    obtain ⟨n1, n2, n3⟩ := nd
    refine ⟨n1, List.nodup_cons.mpr ⟨fun z => hx (List.mem_append_right _ z), n2⟩, fun a ha b hb => ?_⟩
    rcases List.mem_cons.mp hb with z | z
    · subst z; exact fun z => hx (List.mem_append_left _ (z ▸ ha))
    · exact n3 a ha b z
  · by_cases z : a = p
    · subst z; rw [upd_same]; simp
    · rw [upd_ne z]; exact I.sok a ha
theorem SI.newGlb {p : Addr} {u : HO} {o : Ob} (I : SI W g st σ H) (hp : H p = none) (hr : ∀ g' H', Ext g H g' H' → H' p = some u → RO W g' H' p o) :
    SI W { g with mg := g.mg ++ [p] } { st with gh := st.gh ++ [o] } σ (upd H p u) ∧ Ext g H { g with mg := g.mg ++ [p] } (upd H p u) := by
  have e : Ext g H { g with mg := g.mg ++ [p] } (upd H p u) := ext_new I hp _ (fun a h => h) (fun a h => .inl h) (.inl rfl) (.inr rfl)
  have ne : ∀ a, a ∈ g.ml ++ g.mg → a ≠ p := fun a ha z => I.apart hp (z ▸ ha)
  refine ⟨⟨I.len, fun i d hi => ?_, I.ll, fun n b o' hn => ?_, ?_, fun n o' hn => ?_, ?_, fun a ha => ?_⟩, e⟩
  · obtain ⟨v, h1, h2⟩ := I.env i d hi
    exact ⟨v, h1, h2.ext e I.sok⟩
  · obtain ⟨a, h1, h2, h3, h4⟩ := I.lo n b o' hn
    have hm : a ∈ g.ml ++ g.mg := List.mem_append_left _ (List.mem_of_getElem? h1)
    exact ⟨a, h1, h2.ext e I.sok (upd_ne (ne a hm)), h3, h4⟩
  · simp only [List.length_append, I.gl, List.length_singleton]
  · have hn : (st.gh ++ [o])[n]? = some o' := hn
    by_cases hl : n < st.gh.length
    · rw [List.getElem?_append_left hl] at hn
      obtain ⟨a, h1, h2, h3⟩ := I.go n o' hn
      have hm : a ∈ g.ml ++ g.mg := List.mem_append_right _ (List.mem_of_getElem? h1)
      exact ⟨a, get_pre h1, h2.ext e I.sok (upd_ne (ne a hm)), h3⟩
    · have e0 : n = st.gh.length := by
        have := (List.getElem?_eq_some_iff.mp hn).1
        simp only [List.length_append, List.length_singleton] at this
        omega
      subst e0
      rw [List.getElem?_append_right (Nat.le_refl _), Nat.sub_self] at hn
      cases hn
      refine ⟨p, ?_, hr _ _ e upd_same, fun z => I.sok p z hp⟩
      show (g.mg ++ [p])[st.gh.length]? = some p
      rw [← I.gl, List.getElem?_append_right (Nat.le_refl _), Nat.sub_self]; rfl
  · show (g.ml ++ (g.mg ++ [p])).Nodup
    have hx : p ∉ g.ml ++ g.mg := I.apart hp
    rw [← List.append_assoc, List.nodup_append]
    exact ⟨I.nd, by simp, fun a ha b hb => by rw [List.mem_singleton.mp hb]; exact fun z => hx (z ▸ ha)⟩
  · by_cases z : a = p
    · subst z; rw [upd_same]; simp
    · rw [upd_ne z]; exact I.sok a ha
theorem SI.newVal {p : Addr} {u : HO} (I : SI W g st σ H) (hp : H p = none) : SI W { g with S := fun a => g.S a ∨ a = p } st σ (upd H p u) ∧ Ext g H { g with S := fun a => g.S a ∨ a = p } (upd H p u) := I.grow (grow_at hp)

theorem snd_tup {es : List Expr} {fs : Exs} {k : Nat} {pos : Pos} (h : SndA F lw sc es fs) : Snd F lw sc (.Tuple es k pos) (tupE fs) := fun W E X c =>
  pe_imp (pe_tup (h W E X c)) fun σ H Q ⟨g, st, I, q⟩ => ⟨g, st, I, Post.bind I.sok q fun g1 st1 ds vs H1 I1 e1 r1 q1 => by
    split at q1
    · rename_i hz
      refine ⟨by rw [r1.length]; exact hz, fun p hp => ?_⟩
      obtain ⟨I2, e2⟩ := I1.newVal (u := .tup vs) hp
      exact q1 _ _ _ I2 e2 (rv_new_tup hp I1.sok I1.there r1)
    · exact q1.elim⟩
theorem ro_val {p : Addr} {o : Ob} (r : RO W g H p o) (pl : o.plain) (h : g.S p) : RV W g H o.val (.ref p) := by
  cases o with
  | lst ds =>
    obtain ⟨vs, h1, h2⟩ := r
    simp only [Ob.val, RV]
    exact ⟨p, vs, rfl, ⟨h, h1⟩, h2⟩
  | dct ks ds =>
    obtain ⟨kvs, h1, h2, h3⟩ := r
    simp only [Ob.val, RV]
    exact ⟨p, kvs, rfl, ⟨h, h1⟩, h2, h3⟩
  | ins c fs ds => exact pl.elim
theorem post_keepO {m : Md} {o : Ob} {u : HO} {Q : VK} (I : SI W g st σ H) (pl : o.plain) {p : Addr} (hp : H p = none) (hr : ∀ g' H', Ext g H g' H' → H' p = some u → RO W g' H' p o) (q : Post W E σ (RVl W) g H (keepO m o st) Q) : Q (.ref p) (upd H p u) := by
  cases m with
  | val =>
    obtain ⟨I2, e2⟩ := I.newVal (u := u) hp
    exact q _ _ _ I2 e2 (RVl.of (ro_val (hr _ _ e2 upd_same) pl (.inr rfl)))
  | loc =>
    obtain ⟨I2, e2⟩ := I.newLoc (u := u) (o := o) hp pl hr
    refine q _ _ _ I2 e2 ⟨p, rfl, ?_⟩
    show (g.ml ++ [p])[st.lh.length]? = some p
    rw [← I.ll, List.getElem?_append_right (Nat.le_refl _), Nat.sub_self]; rfl
  | glb =>
    obtain ⟨I2, e2⟩ := I.newGlb (u := u) (o := o) hp hr
    refine q _ _ _ I2 e2 ?_
    show RV W { g with mg := g.mg ++ [p] } (upd H p u) (.glb st.gh.length) (.ref p)
    simp only [RV]
    refine ⟨p, rfl, ?_⟩
    show (g.mg ++ [p])[st.gh.length]? = some p
    rw [← I.gl, List.getElem?_append_right (Nat.le_refl _), Nat.sub_self]; rfl
theorem post_keep {m : Md} {ds : List DV} {vs : List V} {Q : VK} (I : SI W g st σ H) (r : RVs W g H ds vs) (q : Post W E σ (RVl W) g H (keep m ds st) Q) : ∀ p, H p = none → Q (.ref p) (upd H p (.lst vs)) := fun p hp =>
  post_keepO (o := .lst ds) (u := .lst vs) I trivial hp (fun g' H' e h => ⟨vs, h, r.ext e I.sok⟩) q
theorem snd_lst {es : List Expr} {fs : Exs} {pos : Pos} (m : Md) (h : SndA F lw sc es fs) : Snd F lw sc (.List es pos) (lstE m fs) := fun W E X c =>
  pe_imp (pe_lst (h W E X c)) fun σ H Q ⟨g, st, I, q⟩ => ⟨g, st, I, Post.bind I.sok q fun g1 st1 ds vs H1 I1 e1 r1 q1 => by
    split at q1
    · rename_i hz
      exact ⟨by rw [r1.length]; exact hz, post_keep I1 r1 q1⟩
    · exact q1.elim⟩

theorem Ext.callee {g' : Gh} {H' : Hp} (I : SI W g st σ H) (e : Ext { g with ml := [] } H g' H') : Ext g H { g' with ml := g.ml } H' where
  s := e.s
  l := ⟨[], by simp⟩
  m := e.m
  kp := fun a h hx => e.kp a h (hx.elim .inl fun z => .inr ⟨List.not_mem_nil, z.2⟩)
  ns := fun a h => by
    rcases e.ns a h with z | z | z
    · exact .inl z
    · exact absurd z List.not_mem_nil
    · exact .inr (.inr z)
  nl := fun a h => .inl h
  nm := e.nm
  al := e.al
theorem SI.toCallee (I : SI W g st σ H) : SI W { g with ml := [] } ⟨[], [], st.gh⟩ [] H where
  len := rfl
  env := fun i d h => by simp at h
  ll := rfl
  lo := fun n b o h => by simp at h
  gl := I.gl
  go := fun n o h => by
    obtain ⟨a, h1, h2, h3⟩ := I.go n o h
    exact ⟨a, h1, h2.ml, h3⟩
  nd := by
    have := (List.nodup_append.mp I.nd).2.1
    simpa using this
  sok := I.sok
theorem SI.ofCallee (I : SI W g st σ H) {g' : Gh} {H' : Hp} {gh' : List Ob} (J : SI W g' ⟨[], [], gh'⟩ [] H') (e : Ext { g with ml := [] } H g' H') : SI W { g' with ml := g.ml } { st with gh := gh' } σ H' := by
  have e' := e.callee I
  refine ⟨I.len, fun i d hi => ?_, I.ll, fun n b o hn => ?_, J.gl, fun n o hn => ?_, ?_, J.sok⟩
  · obtain ⟨v, h1, h2⟩ := I.env i d hi
    exact ⟨v, h1, h2.ext e' I.sok⟩
  · obtain ⟨a, h1, h2, h3, h4⟩ := I.lo n b o hn
    have hH : H a ≠ none := I.there a (List.mem_append_left _ (List.mem_of_getElem? h1))
    have ek : H' a = H a := e.kp a hH (.inr ⟨List.not_mem_nil, fun z => by
      obtain ⟨j, hj⟩ := List.mem_iff_getElem?.mp z
      exact nodup_lm I.nd h1 hj⟩)
    refine ⟨a, h1, h2.ext e' I.sok ek, h3.trans ⟨fun z => e.s a z, fun z => ?_⟩, h4⟩
    rcases e.ns a z with q | q | q
    · exact q
    · exact absurd q List.not_mem_nil
    · exact absurd q hH
  · obtain ⟨a, h1, h2, h3⟩ := J.go n o hn
    exact ⟨a, h1, h2.ml, h3⟩
  · rw [List.nodup_append]
    refine ⟨(List.nodup_append.mp I.nd).1, ?_, fun a ha b hb z => ?_⟩
    · have := (List.nodup_append.mp J.nd).2.1
      exact this
    · subst z
      have hH : H a ≠ none := I.there a (List.mem_append_left _ ha)
      rcases e.nm a hb with q | q
      · exact (List.nodup_append.mp I.nd).2.2 a ha a q rfl
      · exact hH q
theorem run_fg {k : Nat} {a : Addr} {fd : FuncData} {ps : List Str} {sp : Sp} {pins : List (Addr × Obj)} {s : Shared} {Q : VK} {us : List Value} {vs : List V} (c : Cok W F lw sc E X) (G : FnG W k a fd ps sp) (hr : Room k X.A) (hb : Binds W.K fd ps [])
    (I : Inv X pins σ H s) (r : Vals vs us) (hl : vs.length = ps.length) (h : sp vs H Q (fun c d H' => E c d σ H')) : wpAny (model X.prog X.w) X.A (call (.ref a) us) (EP X pins σ Q) X.xe s := by
  have hl2 : (us ++ []).length = ps.length := by rw [List.append_nil, ← r.length]; exact hl
  have hk : W.K.In s.heap := by rw [← c.ka]; exact I.kIn
  have e0 : Env0 W.P W.w W.K W.mg W.base X.A X.stack s H := by
    have := I.env0
    rw [c.pr, c.wo, c.ka, c.gm, c.ba] at this
    exact this
  have q := G.run X.A X.stack s H ⟨us, []⟩ us vs Q (fun c d H' => E c d σ H') hr c.gu e0 (by have := hb s us hk hl2; rwa [List.append_nil] at this) r hl h
  rw [← c.pr, ← c.wo] at q
  refine wpAny_call (codeAny_mono q fun r s' hq => ?_)
  cases r with
  | error e => exact c.tk e s' (XE.of_call I (fun _ _ _ z => z) hq)
  | ok fl =>
    cases fl with
    | ret u => exact I.after hq
    | next => exact False.elim hq
    | brk => exact False.elim hq
    | cont => exact False.elim hq
theorem star_any {es : List Expr} {env : Env} {pos : Pos} (h : es.all noStar = true) : (backTo pos (starEach es env)).any (·.1) = false := by
  induction es with
  | nil => rfl
  | cons e es ih =>
    rw [List.all_cons, Bool.and_eq_true] at h
    rw [starEach_cons h.1]
    show ((false, _) :: backTo pos (starEach es env)).any _ = false
    rw [List.any_cons, ih h.2]
    rfl
def calO (F : Cal) (f : Nat) (ds : List DV) (st : Sta) : Out Sta DV := match F f ds st.gh with
  | .ok d gh => .ok d { st with gh := gh }
  | .ex x gh => .ex x { st with gh := gh }
  | .bad => .bad
theorem go_call {x : Str} {f : Nat} (c : Cok W F lw sc E X) {a : Addr} {fd : FuncData} {ps : List Str} {k : Nat} (G : FnG W k a fd ps (spOf W F f)) (hb : Binds W.K fd ps []) (hr : Room k X.A) (hbad : ∀ ds gh, ds.length ≠ ps.length → F f ds gh = .bad)
    {pins : List (Addr × Obj)} {us : List Value} {vs : List V} {s1 : Shared} {H1 : Hp} {Q : VK} (I1 : Inv X pins σ H1 s1) (rv : Vals vs us) {g1 : Gh} {st1 : Sta} {ds : List DV} (J1 : SI W g1 st1 σ H1) (r1 : RVs W g1 H1 ds vs)
    (q1 : Post W E σ (RVl W) g1 H1 (calO F f ds st1) Q) : wpAny (model X.prog X.w) X.A (call (.ref a) us) (EP X pins σ Q) X.xe s1 := by
  have hlen : ds.length = ps.length := Classical.byContradiction fun z => by
    unfold calO at q1
    rw [hbad ds st1.gh z] at q1; exact q1
  refine run_fg c G hr hb I1 rv (by rw [r1.length]; exact hlen) ⟨{ g1 with ml := [] }, ds, st1.gh, J1.toCallee, r1.ml, ?_⟩
  unfold calO at q1
  cases hF : F f ds st1.gh with
  | ok d gh' =>
    rw [hF] at q1
    intro g' v H' J' e' r'
    exact q1 _ _ _ (J1.ofCallee J' e') (e'.callee J1) (RVl.of (RV.ml (l := g1.ml) _ r'))
  | ex x gh' =>
    rw [hF] at q1
    intro g' cc dd H' J' e' r'
    refine q1 _ _ _ _ (J1.ofCallee J' e') (e'.callee J1) ?_
    cases x with
    | xc n fs' ds' =>
      obtain ⟨h1, h2⟩ := r'
      exact ⟨h1, h2.imp id fun ⟨a', fvs, z1, z2, z3, z4⟩ => ⟨a', fvs, z1, z2, z3, RVs.ml (l := g1.ml) _ z4⟩⟩
    | _ => exact r'
  | bad => rw [hF] at q1; exact q1
theorem snd_call {e : Expr} {es : List Expr} {fs : Exs} {x : Str} {f : Nat} {p pos : Pos} (hg : glbB sc x = true) (hf : (x, f) ∈ lw.fns) (hs : (e :: es).all noStar = true) (hdb : (x == ("__debug__" : Str)) = false) (ha : SndA F lw sc (e :: es) fs) :
    Snd F lw sc (.Call (.Name x p) (e :: es) [] pos) (calD (F f) fs) := by
  intro W E X c
  obtain ⟨a, fd, ps, k, hm, hk, G, hb, hr, hbad⟩ := c.gb.fn _ hf
  refine ⟨fun pins s σ H Q I h => ?_⟩
  obtain ⟨g, st, J, q⟩ := h
  rw [List.all_cons, Bool.and_eq_true] at hs
  refine wpAny_Call_Name_kw (ld_glob I (gl_of c hg) (by rw [c.gm]; exact hm) ?_ hdb)
  refine PySem.W.callWith_K (h₀ := X.base) I.ok.mod.kin (by rw [c.ka]; exact hk) (thn ((ha W E X c).run pos pins s σ H (fun vs H1 => ∃ g1 st1 ds, SI W g1 st1 σ H1 ∧ RVs W g1 H1 ds vs ∧ Post W E σ (RVl W) g1 H1 (calO F f ds st1) Q)
    I ⟨g, st, J, Post.bind J.sok q fun g1 st1 ds vs H1 J1 e1 r1 q1 => ⟨g1, st1, ds, J1, r1, q1⟩⟩) fun us s1 ⟨vs, H1, I1, rv, g1, st1, ds, J1, r1, q1⟩ => ⟨I1.kIn, go_call (x := x) c G hb hr hbad I1 rv J1 r1 q1⟩) (starEach_cons hs.1) (star_any hs.2)
theorem snd_call0 {x : Str} {f : Nat} {p pos : Pos} (hg : glbB sc x = true) (hf : (x, f) ∈ lw.fns) (hdb : (x == ("__debug__" : Str)) = false) : Snd F lw sc (.Call (.Name x p) [] [] pos) (calD (F f) nilE) := by
  intro W E X c
  obtain ⟨a, fd, ps, k, hm, hk, G, hb, hr, hbad⟩ := c.gb.fn _ hf
  refine ⟨fun pins s σ H Q I h => ?_⟩
  obtain ⟨g, st, J, q⟩ := h
  refine wpAny_Call_Name_kw (ld_glob I (gl_of c hg) (by rw [c.gm]; exact hm) ?_ hdb)
  exact PySem.W.callWith_K0 I.kIn (by rw [c.ka]; exact hk) (go_call (x := x) c G hb hr hbad I .nil J (by simp [RVs]) q)
end
end Cv
end
section
set_option Elab.async false
set_option linter.all false
set_option maxRecDepth 100000
set_option maxHeartbeats 1000000
namespace Cv
open PySem PySem.Spec PyProof.Rows L2
def keyOf : DV → Option Key
  | .int i => some (.inl i)
  | .str x => some (.inr x)
  | _ => none
def dGet : List Key → List DV → Key → Option DV
  | k :: ks, d :: ds, q => if k = q then some d else dGet ks ds q
  | _, _, _ => none
def dSet : List Key → List DV → Key → DV → List DV
  | k :: ks, d :: ds, q, y => if k = q then y :: dSet ks ds q y else d :: dSet ks ds q y
  | _, ds, _, _ => ds
def dPut (ks : List Key) (ds : List DV) (q : Key) (y : DV) : List Key × List DV := if (ks.any fun k => decide (k = q)) = true then (ks, dSet ks ds q y) else (ks ++ [q], ds ++ [y])
section
variable {W : Wd} {g : Gh} {H : Hp}
theorem key_cur {d : DV} {v : V} {k : Key} (h : Cur W g H d v) (e : keyOf d = some k) : v = kV k := by
  cases d <;> simp only [keyOf] at e <;> cases e
  · rw [cur_int] at h; exact h
  · rw [cur_str] at h; exact h
theorem dGet_val : ∀ {ks : List Key} {ds : List DV} {kvs : List (Key × V)} {q : Key}, kvs.map (·.1) = ks → RVs W g H ds (kvs.map (·.2)) → (∀ d, dGet ks ds q = some d → ∃ v, valV kvs q = some v ∧ RV W g H d v) ∧ (dGet ks ds q = none → valV kvs q = none)
  | [], ds, kvs, q, e, r => by
    have : kvs = [] := List.map_eq_nil_iff.mp e
    subst this
    exact ⟨fun d h => by simp [dGet] at h, fun _ => rfl⟩
  | k :: ks, [], kvs, q, e, r => by
    simp only [RVs] at r
    have := List.map_eq_nil_iff.mp r
    subst this
    cases e
  | k :: ks, d :: ds, [], q, e, r => by cases e
  | k :: ks, d :: ds, p :: kvs, q, e, r => by
    rw [List.map_cons] at e r
    injection e with e1 e2
    simp only [RVs] at r
    obtain ⟨v, r', e3, h1, h2⟩ := r
    injection e3 with e3 e4
    subst e3 e4
    have ih := dGet_val (q := q) e2 h2
    by_cases hq : k = q
    · simp only [dGet, if_pos hq]
      rw [valV_pos (e1.trans hq)]
      exact ⟨fun d' h => ⟨_, rfl, by cases h; exact h1⟩, fun h => by cases h⟩
    · simp only [dGet, if_neg hq]
      rw [valV_neg (fun z => hq (e1.symm.trans z))]
      exact ih
theorem dPut_val {ks : List Key} {ds : List DV} {kvs : List (Key × V)} {q : Key} {y : DV} {v : V} (e : kvs.map (·.1) = ks) (r : RVs W g H ds (kvs.map (·.2))) (ry : RV W g H y v) :
    (putK kvs q v).map (·.1) = (dPut ks ds q y).1 ∧ RVs W g H (dPut ks ds q y).2 ((putK kvs q v).map (·.2)) := by
  have hany : (kvs.any fun kv => decide (kv.1 = q)) = (ks.any fun k => decide (k = q)) := by
    rw [← e, List.any_map]
    rfl
  unfold putK dPut
  by_cases hq : (ks.any fun k => decide (k = q)) = true
  · rw [if_pos (hany.trans hq), if_pos hq]
    refine ⟨?_, ?_⟩
    · rw [← e, List.map_map]
      refine List.map_congr_left fun kv _ => ?_
      show (if kv.1 = q then (kv.1, v) else kv).1 = kv.1
      split <;> rfl
    · clear hq hany
      induction ks generalizing ds kvs with
      | nil =>
        have : kvs = [] := List.map_eq_nil_iff.mp e
        subst this
        simpa [dSet] using r
      | cons k ks ih =>
        cases kvs with
        | nil => cases e
        | cons p kvs =>
          rw [List.map_cons] at e r
          injection e with e1 e2
          cases ds with
          | nil => simp [RVs] at r
          | cons d ds =>
            simp only [RVs] at r
            obtain ⟨v', r', e3, h1, h2⟩ := r
            injection e3 with e3 e4
            subst e3 e4
            have ih' := ih e2 h2
            rw [List.map_cons, List.map_cons]
            by_cases hk : k = q
            · simp only [dSet, if_pos hk, if_pos (e1.trans hk), RVs]
              exact ⟨_, _, rfl, ry, ih'⟩
            · simp only [dSet, if_neg hk, if_neg (fun z => hk (e1.symm.trans z)), RVs]
              exact ⟨_, _, rfl, h1, ih'⟩
  · rw [if_neg (fun z => hq (hany.symm.trans z)), if_neg hq]
    refine ⟨by rw [List.map_append, e]; rfl, ?_⟩
    rw [List.map_append]
    exact r.append (RVs.one ry)
end

section
variable {W : Wd} {F : Cal} {lw : Lw} {sc : Sc} {E : WX} {X : Cx} {σ : L2.St} {H : Hp} {g : Gh} {st : Sta}
def rIxD : R2 := fun x y H Q => ∃ a k kvs v, x = .ref a ∧ y = kV k ∧ H a = some (.dK kvs) ∧ valV kvs k = some v ∧ Q v H
theorem ix_dict (hu : X.A.units + 1 < cLine) : IxR X rIxD := by
  intro value slice pins s σ H x y v u Q I rx ry h hs
  obtain ⟨a, k, kvs, z, rfl, rfl, hH, hv, q⟩ := h
  cases rx
  have gg : DGet H a (kV k) (some z) := by rw [← hv]; exact DGet.k hH
  exact tail_any (dict_typeIs I gg) PySem.F.slot_dict_getitem.lookup (d_getItem hu I gg ry fun w' s' I' rw' => ⟨z, H, I', rw', q⟩) hs
def ixF : DV → DV → Option DV
  | .lst ds, .int i => atI ds i
  | .tup ds, .int i => atI ds i
  | .str x, .int i => if x.length ≤ sizeLine then (atI x.cps.toList i).map fun c => .str ⟨#[c]⟩ else none
  | .dct ks ds, k => (keyOf k).bind fun q => dGet ks ds q
  | _, _ => none
theorem RVs.at {ds : List DV} {vs : List V} {i : Int} {d : DV} (r : RVs W g H ds vs) (h : atI ds i = some d) : ∃ v, atI vs i = some v ∧ RV W g H d v := by
  unfold atI at *
  rw [r.length]
  cases e : ixN ds.length i with
  | none => rw [e] at h; cases h
  | some j => rw [e] at h; exact r.get h
theorem ix_ok (c : Cok W F lw sc E X) : ∃ r, IxR X r ∧ Op2T W r ixF := by
  have hu : X.A.units + 1 < cLine := by have := c.units; omega
  refine ⟨_, (ix_dict hu).or ix_seq, fun g H x y v u d sok nm cx cy hf Q k => ?_⟩
  rw [c.ka]
  cases x <;> simp only [ixF] at hf <;> try (cases hf; done)
  · rename_i x
    cases y <;> simp only [ixF] at hf <;> try (cases hf; done)
    split at hf
    · rename_i hz
      obtain ⟨ch, h1, h2⟩ := Option.map_eq_some_iff.mp hf
      subst h2
      rw [cur_str] at cx
      rw [cur_int] at cy
      exact .inr (.inr (.inr ⟨_, _, ch, cx, cy, hz, h1, k g _ H (Grow.refl _ _) (rv_str.mpr rfl)⟩))
    · cases hf
  · cases y <;> simp only [ixF] at hf <;> try (cases hf; done)
    rw [cur_tup] at cx
    rw [cur_int] at cy
    obtain ⟨a, vs, rfl, h1, r1⟩ := cx
    obtain ⟨w, hw, rw'⟩ := r1.at hf
    exact .inr (.inr (.inl ⟨a, vs, _, w, rfl, cy, h1.sq, hw, k g _ H (Grow.refl _ _) rw'⟩))
  · cases y <;> simp only [ixF] at hf <;> try (cases hf; done)
    rw [cur_lst] at cx
    rw [cur_int] at cy
    obtain ⟨a, vs, rfl, h1, r1⟩ := cx
    obtain ⟨w, hw, rw'⟩ := r1.at hf
    exact .inr (.inl ⟨a, vs, _, w, rfl, cy, SqL.of h1, hw, k g _ H (Grow.refl _ _) rw'⟩)
  · rename_i ks ds
    obtain ⟨q, hq, hd⟩ := Option.bind_eq_some_iff.mp hf
    obtain ⟨a, kvs, rfl, h1, h2, h3⟩ := cx
    obtain ⟨w, hw, rw'⟩ := (dGet_val (q := q) h2 h3).1 d hd
    exact .inl ⟨a, q, kvs, w, rfl, key_cur cy hq, h1, hw, k g _ H (Grow.refl _ _) rw'⟩
theorem snd_ix {a b : Expr} {fa fb : Ex} {pos : Pos} (hs : PlainIx b) (ha : Snd F lw sc a fa) (hb : Snd F lw sc b fb) : Snd F lw sc (.Subscript a b pos) (vw2 ixF fa fb) := fun W E X c => by
  obtain ⟨r, h1, h2⟩ := ix_ok c
  exact pe_imp (pe_ix h1 (ha W E X c) (hb W E X c) hs) fun _ _ _ q => tev_vw2 h2 q

def cutD (ds : List DV) (lo hi : Option Int) : List DV := (ds.drop (HT.sIx ds.length 0 lo)).take (HT.sIx ds.length ds.length hi - HT.sIx ds.length 0 lo)
theorem RVs.cut {ds : List DV} {vs : List V} {lo hi : Option Int} (r : RVs W g H ds vs) : RVs W g H (cutD ds lo hi) (cutV vs lo hi) := by
  unfold cutD cutV
  rw [r.length]
  exact (r.drop _).take _
def slF (lo hi : Option Int) : DV → Option DV
  | .lst ds => some (.lst (cutD ds lo hi))
  | .tup ds => some (.tup (cutD ds lo hi))
  | _ => none
def partE : Option Ex → Sta → Out Sta (Option Int)
  | none, st => .ok none st
  | some f, st => (f st).bind fun d s => match d with
    | .int i => .ok (some i) s
    | _ => .bad
def slE (f : Ex) (lo hi : Option Ex) : Ex := fun st => (f st).bind fun d s => (partE lo s).bind fun l s => (partE hi s).bind fun h s => optO (slF l h (look s d)) s
def sameO : Gh → Hp → Option Int → Option Int → Prop := fun _ _ a b => b = a
def SndO (F : Cal) (lw : Lw) (sc : Sc) (e : Option Expr) (o : Option Ex) : Prop := ∀ W E X, Cok W F lw sc E X → PO X e (fun σ H Q => ∃ g st, SI W g st σ H ∧ Post W E σ sameO g H (partE o st) Q)
theorem po_imp {e : Option Expr} {t t' : TO} (h : PO X e t) (i : ∀ σ H Q, t' σ H Q → t σ H Q) : PO X e t' := ⟨fun p s σ H Q I q => h.run p s σ H Q I (i σ H Q q)⟩
theorem sndO_none : SndO F lw sc none none := fun W E X c => po_imp po_none fun σ H Q ⟨g, st, I, q⟩ => Post.ok q I rfl
theorem sndO_some {e : Expr} {f : Ex} (h : Snd F lw sc e f) : SndO F lw sc (some e) (some f) := fun W E X c => po_imp (po_some (h W E X c)) fun σ H Q ⟨g, st, I, q⟩ => ⟨g, st, I, Post.bind I.sok q fun g1 st1 d v H1 I1 e1 r1 q1 => by
  cases d with
  | int i => exact ⟨i, by simpa [RVl, RV] using r1, Post.ok q1 I1 rfl⟩
  | _ => exact q1.elim⟩
theorem snd_sl {a : Expr} {fa : Ex} {lo hi : Option Expr} {fl fh : Option Ex} {p2 pos : Pos} (ha : Snd F lw sc a fa) (hl : SndO F lw sc lo fl) (hh : SndO F lw sc hi fh) : Snd F lw sc (.Subscript a (.Slice lo hi none p2) pos) (slE fa fl fh) := fun W E X c => by
  refine pe_imp (pe_slice (sl_list.or sl_tupA) (ha W E X c) (hl W E X c) (hh W E X c)) fun σ H Q ⟨g, st, I, q⟩ => ?_
  refine ⟨g, st, I, Post.bind I.sok q fun g1 st1 d v H1 I1 e1 r1 q1 => ⟨g1, st1, I1, Post.bind I1.sok q1 fun g2 st2 l l' H2 I2 e2 r2 q2 => ⟨g2, st2, I2, Post.bind I2.sok q2 fun g3 st3 h h' H3 I3 e3 r3 q3 => ?_⟩⟩⟩
  have r2 : l' = l := r2
  have r3 : h' = h := r3
  subst r2 r3
  obtain ⟨d', hd, q3⟩ := optO_post q3
  have cu := I3.look (r1.ext (e2.trans I1.sok e3) I1.sok)
  rw [c.ka]
  cases hx : look st3 d <;> rw [hx] at hd cu <;> simp only [slF] at hd <;> try (cases hd; done)
  · rename_i ds
    cases hd
    rw [cur_tup] at cu
    obtain ⟨a, vs, rfl, h1, r⟩ := cu
    refine .inr ⟨a, vs, rfl, h1.sq, fun hw => ?_, fun _ p hp => ?_⟩
    · refine q3.grow I3 g3 _ H3 (Grow.refl _ _) ?_
      have e : cutD ds l' h' = ds := by
        unfold cutD
        rw [← r.length, hw.1, hw.2]
        simp [r.length]
      rw [e]
      simp only [RV]
      exact ⟨a, vs, rfl, h1, r⟩
    · exact q3.grow I3 _ _ _ (grow_at hp) (rv_new_tup hp I3.sok I3.there r.cut)
  · rename_i ds
    cases hd
    rw [cur_lst] at cu
    obtain ⟨a, vs, rfl, h1, r⟩ := cu
    exact .inl ⟨a, vs, rfl, SqL.of h1, fun p hp => q3.grow I3 _ _ _ (grow_at hp) (rv_new_lst hp I3.sok I3.there r.cut)⟩
def revF : DV → Option DV
  | .lst ds => some (.lst ds.reverse)
  | _ => none
theorem snd_rev {a : Expr} {fa : Ex} {k : Nat} {p1 p2 p3 pos : Pos} (ha : Snd F lw sc a fa) : Snd F lw sc (.Subscript a (.Slice none none (some (.UnaryOp .USub (.Constant (.int 1) k p1) p2)) p3) pos) (vw1 revF fa) := fun W E X c => by
  refine pe_imp (pe_revL (ha W E X c)) fun σ H Q q => ?_
  refine tev_vw1 (r := fun x H1 Q => ∃ a xs, x = .ref a ∧ SqL X.K H1 a xs ∧ ∀ p, H1 p = none → Q (.ref p) (upd H1 p (.lst xs.reverse))) (fun g H x v d sok nm cx hf Q k => ?_) q
  cases x <;> simp only [revF] at hf <;> cases hf
  rw [cur_lst] at cx
  obtain ⟨a, vs, rfl, h1, r⟩ := cx
  exact ⟨a, vs, rfl, SqL.of h1, fun p hp => k _ _ _ (grow_at hp) (rv_new_lst hp sok nm r.reverse)⟩

def RLs (W : Wd) (g : Gh) (H : Hp) : List DV → List V → Prop
  | [], vs => vs = []
  | d :: ds, vs => ∃ v r, vs = v :: r ∧ RVl W g H d v ∧ RLs W g H ds r
def CurS (W : Wd) (g : Gh) (H : Hp) : List DV → List V → Prop
  | [], vs => vs = []
  | d :: ds, vs => ∃ v r, vs = v :: r ∧ Cur W g H d v ∧ CurS W g H ds r
theorem RLs.ext {g' : Gh} {H' : Hp} (e : Ext g H g' H') (sok : ∀ a, g.S a → H a ≠ none) : ∀ {ds : List DV} {vs : List V}, RLs W g H ds vs → RLs W g' H' ds vs
  | [], _, h => h
  | d :: ds, vs, h => by
    obtain ⟨v, r, e1, h1, h2⟩ := h
    exact ⟨v, r, e1, h1.ext e sok, RLs.ext e sok h2⟩
theorem RLs.look (I : SI W g st σ H) : ∀ {ds : List DV} {vs : List V}, RLs W g H ds vs → CurS W g H (ds.map (Cv.look st)) vs
  | [], _, h => h
  | d :: ds, vs, h => by
    obtain ⟨v, r, e1, h1, h2⟩ := h
    exact ⟨v, r, e1, I.look h1, RLs.look I h2⟩
def TLv (W : Wd) (E : WX) (f : Exs) : TA := fun σ H Q => ∃ g st, SI W g st σ H ∧ Post W E σ (RLs W) g H (f st) Q
def SndL (F : Cal) (lw : Lw) (sc : Sc) (es : List Expr) (f : Exs) : Prop := ∀ W E X, Cok W F lw sc E X → PA X es (TLv W E f)
theorem sndL_nil : SndL F lw sc [] (evs []) := fun W E X c => pa_imp pa_nil fun σ H Q ⟨g, st, I, q⟩ => Post.ok q I rfl
theorem sndL_cons {e : Expr} {es : List Expr} {f : Ex} {fs : List Ex} (hs : noStar e = true) (he : Snd F lw sc e f) (hr : SndL F lw sc es (evs fs)) : SndL F lw sc (e :: es) (evs (f :: fs)) := fun W E X c =>
  pa_imp (pa_cons (he W E X c) (hr W E X c) (starEach_cons hs)) fun σ H Q ⟨g, st, I, q⟩ => ⟨g, st, I, Post.bind I.sok q fun g1 st1 d v H1 I1 e1 r1 q1 =>
    ⟨g1, st1, I1, Post.bind I1.sok q1 fun g2 st2 ds vs H2 I2 e2 r2 q2 => Post.ok q2 I2 ⟨v, vs, rfl, r1.ext e2 I1.sok, r2⟩⟩⟩
def bltE (r : List DV → Option DV) (fs : List Ex) : Ex := fun st => (evs fs st).bind fun ds s => optO (r (ds.map (look s))) s
def CalT (W : Wd) (r : List V → Hp → VK → Prop) (f : List DV → Option DV) : Prop := ∀ g H ds vs d, (∀ a, g.S a → H a ≠ none) → (∀ a, a ∈ g.ml ++ g.mg → H a ≠ none) → CurS W g H ds vs → f ds = some d →
  ∀ Q : VK, (∀ g' w H', Grow g H g' H' → RV W g' H' d w → Q w H') → r vs H Q
theorem tev_blt {r : List V → Hp → VK → Prop} {f : List DV → Option DV} {fs : List Ex} (hs : CalT W r f) {Q : VK} (q : TEv W E (bltE f fs) σ H Q) : tCB r (TLv W E (evs fs)) σ H Q := by
  obtain ⟨g, st, I, q⟩ := q
  refine ⟨g, st, I, Post.bind I.sok q fun g1 st1 ds vs H1 I1 e1 r1 q1 => ?_⟩
  obtain ⟨d, hd, q2⟩ := optO_post q1
  exact hs g1 H1 _ _ d I1.sok I1.there (RLs.look I1 r1) hd Q (q2.grow I1)
theorem snd_bltn {e : Expr} {es : List Expr} {fs : List Ex} {x : Str} {id : String} {f : List DV → Option DV} {p pos : Pos} (o : ∀ W E X, Cok W F lw sc E X → ∃ r, CallR X (.builtin id) r ∧ CalT W r f) (hg : glbB sc x = true) (hb : x ∈ lw.blts)
    (hv : bootBuiltins x = some (.builtin id)) (hn : x ≠ "__name__") (hdb : (x == ("__debug__" : Str)) = false) (hs : (e :: es).all noStar = true) (ha : SndL F lw sc (e :: es) (evs fs)) : Snd F lw sc (.Call (.Name x p) (e :: es) [] pos) (bltE f fs) := fun W E X c => by
  obtain ⟨r, h1, h2⟩ := o W E X c
  rw [List.all_cons, Bool.and_eq_true] at hs
  exact pe_imp (pe_callB h1 (gl_of c hg) (by rw [c.gm]; exact c.gb.bl x hb) hv (ha W E X c) hn hdb (starEach_cons hs.1) (star_any hs.2)) fun _ _ _ q => tev_blt h2 q
theorem snd_typ {e : Expr} {es : List Expr} {fs : List Ex} {x : Str} {id : String} {f : List DV → Option DV} {p pos : Pos} (o : ∀ W E X, Cok W F lw sc E X → ∃ r, CallR X (.type id) r ∧ CalT W r f) (hg : glbB sc x = true) (hb : x ∈ lw.blts)
    (hv : bootBuiltins x = some (.type id)) (hn : x ≠ "__name__") (hdb : (x == ("__debug__" : Str)) = false) (hs : (e :: es).all noStar = true) (ha : SndL F lw sc (e :: es) (evs fs)) : Snd F lw sc (.Call (.Name x p) (e :: es) [] pos) (bltE f fs) := fun W E X c => by
  obtain ⟨r, h1, h2⟩ := o W E X c
  rw [List.all_cons, Bool.and_eq_true] at hs
  exact pe_imp (pe_callTy h1 (gl_of c hg) (by rw [c.gm]; exact c.gb.bl x hb) hv (ha W E X c) hn hdb (starEach_cons hs.1) (star_any hs.2)) fun _ _ _ q => tev_blt h2 q
theorem snd_bfn {e : Expr} {es : List Expr} {fs : List Ex} {x : Str} {id : String} {f : List DV → Option DV} {p pos : Pos} (o : ∀ W E X, Cok W F lw sc E X → ∃ r, CallR X (.builtin id) r ∧ CalT W r f) (hg : glbB sc x = true) (hb : (x, id) ∈ lw.bfs)
    (hdb : (x == ("__debug__" : Str)) = false) (hs : (e :: es).all noStar = true) (ha : SndL F lw sc (e :: es) (evs fs)) : Snd F lw sc (.Call (.Name x p) (e :: es) [] pos) (bltE f fs) := fun W E X c => by
  obtain ⟨r, h1, h2⟩ := o W E X c
  rw [List.all_cons, Bool.and_eq_true] at hs
  exact pe_imp (pe_callBfun h1 (gl_of c hg) (by rw [c.gm]; exact c.gb.bf _ hb) (ha W E X c) hdb (starEach_cons hs.1) (star_any hs.2)) fun _ _ _ q => tev_blt h2 q
theorem cur1 {vs : List V} {d : DV} (h : CurS W g H [d] vs) : ∃ v, vs = [v] ∧ Cur W g H d v := by
  obtain ⟨v, r, e, h1, h2⟩ := h
  have h2 : r = [] := h2
  subst h2
  exact ⟨v, e, h1⟩
theorem cur2 {vs : List V} {d e : DV} (h : CurS W g H [d, e] vs) : ∃ v u, vs = [v, u] ∧ Cur W g H d v ∧ Cur W g H e u := by
  obtain ⟨v, r, e', h1, u, r2, e2, h3, h4⟩ := h
  have h4 : r2 = [] := h4
  subst h4 e2
  exact ⟨v, u, e', h1, h3⟩

def absF : List DV → Option DV
  | [.int i] => some (.int (if i < 0 then -i else i))
  | _ => none
theorem abs_ok : ∃ r, CallR X (.builtin "abs") r ∧ CalT W r absF := ⟨_, call_abs, fun g H ds vs d sok nm cx hf Q k => by
  unfold absF at hf
  split at hf
  · cases hf
    obtain ⟨v, rfl, h⟩ := cur1 cx
    rw [cur_int] at h; subst h
    exact ⟨_, rfl, k g _ H (Grow.refl _ _) (rv_int.mpr rfl)⟩
  · cases hf⟩
def maxF : List DV → Option DV
  | [.int i, .int j] => some (.int (if j > i then j else i))
  | _ => none
theorem max_ok (c : Cok W F lw sc E X) : ∃ r, CallR X (.builtin "max") r ∧ CalT W r maxF := ⟨_, call_max2 c.calm, fun g H ds vs d sok nm cx hf Q k => by
  unfold maxF at hf
  split at hf
  · cases hf
    obtain ⟨v, u, rfl, h, h'⟩ := cur2 cx
    rw [cur_int] at h h'; subst h h'
    exact ⟨_, _, rfl, k g _ H (Grow.refl _ _) (rv_int.mpr rfl)⟩
  · cases hf⟩
def minF : List DV → Option DV
  | [.int i, .int j] => some (.int (if j < i then j else i))
  | _ => none
theorem min_ok (c : Cok W F lw sc E X) : ∃ r, CallR X (.builtin "min") r ∧ CalT W r minF := ⟨_, call_min2 c.calm, fun g H ds vs d sok nm cx hf Q k => by
  unfold minF at hf
  split at hf
  · cases hf
    obtain ⟨v, u, rfl, h, h'⟩ := cur2 cx
    rw [cur_int] at h h'; subst h h'
    exact ⟨_, _, rfl, k g _ H (Grow.refl _ _) (rv_int.mpr rfl)⟩
  · cases hf⟩
def intF : List DV → Option DV
  | [.int i] => some (.int i)
  | [.bl b] => some (.int (if b then 1 else 0))
  | [.str x] => if x.length ≤ 640 then (PySem.intText? x).map .int else none
  | _ => none
theorem int_ok : ∃ r, CallR X (.type "int") r ∧ CalT W r intF := ⟨_, CallR.or call_int1 call_int_str, fun g H ds vs d sok nm cx hf Q k => by
  unfold intF at hf
  split at hf
  · cases hf
    obtain ⟨v, rfl, h⟩ := cur1 cx
    rw [cur_int] at h; subst h
    exact .inl (.inl ⟨_, rfl, k g _ H (Grow.refl _ _) (rv_int.mpr rfl)⟩)
  · cases hf
    obtain ⟨v, rfl, h⟩ := cur1 cx
    rw [cur_bl] at h; subst h
    exact .inl (.inr ⟨_, rfl, k g _ H (Grow.refl _ _) (rv_int.mpr rfl)⟩)
  · split at hf
    · rename_i hz
      obtain ⟨n, hn, rfl⟩ := Option.map_eq_some_iff.mp hf
      obtain ⟨v, rfl, h⟩ := cur1 cx
      rw [cur_str] at h; subst h
      exact .inr ⟨_, n, rfl, hn, hz, k g _ H (Grow.refl _ _) (rv_int.mpr rfl)⟩
    · cases hf
  · cases hf⟩
def lenF : List DV → Option DV
  | [.lst ds] => some (.int ds.length)
  | [.tup ds] => some (.int ds.length)
  | [.str x] => if x.length ≤ sizeLine then some (.int x.length) else none
  | _ => none
theorem len_ok (c : Cok W F lw sc E X) : ∃ r, CallR X (.builtin "len") r ∧ CalT W r lenF := ⟨_, CallR.or call_len_seq call_len_str, fun g H ds vs d sok nm cx hf Q k => by
  rw [c.ka]
  unfold lenF at hf
  split at hf
  · cases hf
    obtain ⟨v, rfl, h⟩ := cur1 cx
    rw [cur_lst] at h; obtain ⟨a, us, rfl, h1, r⟩ := h
    refine .inl ⟨a, us, rfl, .inl (SqL.of h1), ?_⟩
    rw [r.length]
    exact k g _ H (Grow.refl _ _) (rv_int.mpr rfl)
  · cases hf
    obtain ⟨v, rfl, h⟩ := cur1 cx
    rw [cur_tup] at h; obtain ⟨a, us, rfl, h1, r⟩ := h
    refine .inl ⟨a, us, rfl, .inr h1.sq, ?_⟩
    rw [r.length]
    exact k g _ H (Grow.refl _ _) (rv_int.mpr rfl)
  · split at hf
    · rename_i hz
      cases hf
      obtain ⟨v, rfl, h⟩ := cur1 cx
      rw [cur_str] at h; subst h
      exact .inr ⟨_, rfl, hz, k g _ H (Grow.refl _ _) (rv_int.mpr rfl)⟩
    · cases hf
  · cases hf⟩
def tupF : List DV → Option DV
  | [.lst ds] => some (.tup ds)
  | [.tup ds] => some (.tup ds)
  | _ => none
theorem tup_ok (c : Cok W F lw sc E X) : ∃ r, CallR X (.type "tuple") r ∧ CalT W r tupF := ⟨_, call_tuple_of, fun g H ds vs d sok nm cx hf Q k => by
  rw [c.ka]
  unfold tupF at hf
  split at hf
  · cases hf
    obtain ⟨v, rfl, h⟩ := cur1 cx
    rw [cur_lst] at h; obtain ⟨a, us, rfl, h1, r⟩ := h
    exact ⟨a, us, rfl, .inl ⟨SqL.of h1, fun p hp => k _ _ _ (grow_at hp) (rv_new_tup hp sok nm r)⟩⟩
  · cases hf
    obtain ⟨v, rfl, h⟩ := cur1 cx
    rw [cur_tup] at h; obtain ⟨a, us, rfl, h1, r⟩ := h
    exact ⟨a, us, rfl, .inr ⟨h1.sq, k g _ H (Grow.refl _ _) (by simp only [RV]; exact ⟨a, us, rfl, h1, r⟩)⟩⟩
  · cases hf⟩
def lstF : List DV → Option DV
  | [.lst ds] => some (.lst ds)
  | [.tup ds] => some (.lst ds)
  | _ => none
theorem lst_ok (c : Cok W F lw sc E X) : ∃ r, CallR X (.type "list") r ∧ CalT W r lstF := ⟨_, call_list_of, fun g H ds vs d sok nm cx hf Q k => by
  rw [c.ka]
  unfold lstF at hf
  split at hf
  · cases hf
    obtain ⟨v, rfl, h⟩ := cur1 cx
    rw [cur_lst] at h; obtain ⟨a, us, rfl, h1, r⟩ := h
    exact ⟨a, us, rfl, .inl (SqL.of h1), fun p hp => k _ _ _ (grow_at hp) (rv_new_lst hp sok nm r)⟩
  · cases hf
    obtain ⟨v, rfl, h⟩ := cur1 cx
    rw [cur_tup] at h; obtain ⟨a, us, rfl, h1, r⟩ := h
    exact ⟨a, us, rfl, .inr h1.sq, fun p hp => k _ _ _ (grow_at hp) (rv_new_lst hp sok nm r)⟩
  · cases hf⟩
def intsOf : List DV → Option (List Int)
  | [] => some []
  | .int i :: ds => (intsOf ds).map (i :: ·)
  | _ => none
theorem intsOf_map : ∀ {ds : List DV} {is : List Int}, intsOf ds = some is → ds = is.map .int
  | [], is, h => by cases h; rfl
  | d :: ds, is, h => by
    cases d <;> simp only [intsOf] at h <;> try (cases h; done)
    obtain ⟨js, h1, rfl⟩ := Option.map_eq_some_iff.mp h
    rw [intsOf_map h1]; rfl
@[simp] theorem intsOf_ints : ∀ is : List Int, intsOf (is.map .int) = some is
  | [] => rfl
  | i :: is => by simp [intsOf, intsOf_ints is]
def sumF : List DV → Option DV
  | [.lst ds] => (intsOf ds).map fun is => .int is.sum
  | _ => none
theorem sum_ok (c : Cok W F lw sc E X) : ∃ r, CallR X (.builtin "sum") r ∧ CalT W r sumF := ⟨_, cr_sum c.calm, fun g H ds vs d sok nm cx hf Q k => by
  rw [c.ka]
  unfold sumF at hf
  split at hf
  · obtain ⟨is, h1, rfl⟩ := Option.map_eq_some_iff.mp hf
    obtain ⟨v, rfl, h⟩ := cur1 cx
    rw [intsOf_map h1, cur_lst] at h; obtain ⟨a, us, rfl, h2, r⟩ := h
    have e := r.ints; subst e
    exact ⟨a, is, rfl, SqL.of h2, k g _ H (Grow.refl _ _) (rv_int.mpr rfl)⟩
  · cases hf⟩
theorem truth_ints {prog : Program} {w : World} {A : Around} {is : List Int} {its : List Value} (r : Vals (is.map V.int) its) : TruthOf prog w A (fun i v => its.toArray[i]? = some v) (fun i => (is.map fun i => i != 0).getD i false) := fun i v s Q E hv hq => by
  have hv' : its[i]? = some v := by simpa using hv
  have hi : i < is.length := by
    have := r.length
    rw [List.length_map] at this
    rw [this]
    exact (List.getElem?_eq_some_iff.mp hv').1
  obtain ⟨u, hu, ru⟩ := r.get (i := i) (x := .int is[i]) (by simp [hi])
  rw [hv'] at hu; cases hu
  obtain ⟨t, rfl⟩ := ru
  have hg : (is.map fun i => i != 0).getD i false = (is[i] != 0) := by simp [List.getD, hi]
  have hq' : Q ((is.map fun i => i != 0).getD i false) s := hq
  rw [hg] at hq'
  exact truthy_int hq'
def rAnyI (K : PySem.W.Frag) : List V → Hp → VK → Prop := fun vs H Q => ∃ (a : Addr) (is : List Int), vs = [V.ref a] ∧ SqL K H a (is.map V.int) ∧ Q (.bl (is.any fun i => i != 0)) H
theorem cr_anyI (hc : X.calm = true) : CallR X (.builtin "any") (rAnyI X.K) := by
  intro pins s σ H vs us Q I r h
  obtain ⟨a, bs, rfl, hs, q⟩ := h
  obtain ⟨its, rv, hl, _⟩ := I.list hs
  rw [Vals.ref1 r]
  refine call_any_walk (iter_any hl.isList fun s₂ e2 stt hne => ?_)
  subst e2
  refine ⟨_, _, _, _, _, _, _, rfl, Walks.list (A := X.A.in1) (I.ok.hd hc) _ a hne its.toArray, stt, truth_ints rv, fun h' tk hk => ?_⟩
  refine ⟨.bl _, H, I.kept fun b o eo => hk b o (fun hmem => ?_) (Heap.get?_push_of_some _ eo), ?_, q⟩
  · rcases List.mem_cons.mp hmem with e1 | hmem
    · exact absurd (e1 ▸ Heap.lt_size eo) (Nat.lt_irrefl _)
    · cases hmem
  · show Value.bool _ = Value.bool _
    have hl2 : its.toArray.size = (bs.map fun i => i != 0).length := by rw [List.size_toArray, ← rv.length, List.length_map, List.length_map]
    rw [hl2, L2.any_range, List.any_map]
    rfl
def blsOf : List DV → Option (List Bool)
  | [] => some []
  | .bl i :: ds => (blsOf ds).map (i :: ·)
  | _ => none
theorem blsOf_map : ∀ {ds : List DV} {is : List Bool}, blsOf ds = some is → ds = is.map .bl
  | [], is, h => by cases h; rfl
  | d :: ds, is, h => by
    cases d <;> simp only [blsOf] at h <;> try (cases h; done)
    obtain ⟨js, h1, rfl⟩ := Option.map_eq_some_iff.mp h
    rw [blsOf_map h1]; rfl
@[simp] theorem blsOf_bls : ∀ is : List Bool, blsOf (is.map .bl) = some is
  | [] => rfl
  | i :: is => by simp [blsOf, blsOf_bls is]
theorem RVs.bls : ∀ {is : List Bool} {vs : List V}, RVs W g H (is.map .bl) vs → vs = is.map V.bl
  | [], vs, h => by simpa [RVs] using h
  | i :: is, vs, h => by
    simp only [List.map_cons, RVs] at h
    obtain ⟨v, r, e, h1, h2⟩ := h
    simp only [RV] at h1
    subst e h1
    rw [RVs.bls h2, List.map_cons]
def anyF : List DV → Option DV
  | [.lst ds] => match intsOf ds with
    | some is => some (.bl (is.any fun i => i != 0))
    | none => (blsOf ds).map fun bs => .bl (bs.any id)
  | _ => none
def allF : List DV → Option DV
  | [.lst ds] => (blsOf ds).map fun bs => .bl (bs.all id)
  | _ => none
theorem any_ok (c : Cok W F lw sc E X) : ∃ r, CallR X (.builtin "any") r ∧ CalT W r anyF := ⟨_, CallR.or (cr_anyI c.calm) (cr_any c.calm), fun g H ds vs d sok nm cx hf Q k => by
  rw [c.ka]
  unfold anyF at hf
  split at hf
  · rename_i es
    obtain ⟨v, rfl, h⟩ := cur1 cx
    cases h1 : intsOf es with
    | some is =>
      rw [h1] at hf; cases hf
      rw [intsOf_map h1, cur_lst] at h; obtain ⟨a, us, rfl, h2, r⟩ := h
      have e := r.ints; subst e
      exact .inl ⟨a, is, rfl, SqL.of h2, k g _ H (Grow.refl _ _) (rv_bl.mpr rfl)⟩
    | none =>
      rw [h1] at hf
      obtain ⟨bs, h3, rfl⟩ := Option.map_eq_some_iff.mp hf
      rw [blsOf_map h3, cur_lst] at h; obtain ⟨a, us, rfl, h2, r⟩ := h
      have e := r.bls; subst e
      exact .inr ⟨a, bs, rfl, SqL.of h2, k g _ H (Grow.refl _ _) (rv_bl.mpr rfl)⟩
  · cases hf⟩
theorem all_ok (c : Cok W F lw sc E X) : ∃ r, CallR X (.builtin "all") r ∧ CalT W r allF := ⟨_, cr_all c.calm, fun g H ds vs d sok nm cx hf Q k => by
  rw [c.ka]
  unfold allF at hf
  split at hf
  · rename_i es
    obtain ⟨v, rfl, h⟩ := cur1 cx
    obtain ⟨bs, h3, rfl⟩ := Option.map_eq_some_iff.mp hf
    rw [blsOf_map h3, cur_lst] at h; obtain ⟨a, us, rfl, h2, r⟩ := h
    have e := r.bls; subst e
    exact ⟨a, bs, rfl, SqL.of h2, k g _ H (Grow.refl _ _) (rv_bl.mpr rfl)⟩
  · cases hf⟩
def gcdF : List DV → Option DV
  | [.int i, .int j] => some (.int (Nat.gcd i.natAbs j.natAbs : Nat))
  | _ => none
theorem gcd_ok : ∃ r, CallR X (.builtin "math.gcd") r ∧ CalT W r gcdF := ⟨_, cr_gcd, fun g H ds vs d sok nm cx hf Q k => by
  unfold gcdF at hf
  split at hf
  · cases hf
    obtain ⟨v, u, rfl, h, h'⟩ := cur2 cx
    rw [cur_int] at h h'; subst h h'
    exact ⟨_, _, rfl, k g _ H (Grow.refl _ _) (rv_int.mpr rfl)⟩
  · cases hf⟩
end
end Cv
end
section
set_option Elab.async false
set_option linter.all false
set_option maxRecDepth 100000
set_option maxHeartbeats 1000000
namespace Cv
open PySem PySem.Spec PyProof.Rows L2

def PostS (W : Wd) (E : WX) (g : Gh) (H : Hp) (o : Out Sta Fl) (D : Ends) : Prop := match o with
  | .ok .nx st' => ∀ g' σ' H', SI W g' st' σ' H' → Ext g H g' H' → D.nx σ' H'
  | .ok .bk st' => ∀ g' σ' H', SI W g' st' σ' H' → Ext g H g' H' → D.bk σ' H'
  | .ok .ct st' => ∀ g' σ' H', SI W g' st' σ' H' → Ext g H g' H' → D.ct σ' H'
  | .ok (.rt d) st' => ∀ g' σ' v H', SI W g' st' σ' H' → Ext g H g' H' → RV W g' H' d v → D.rt v H'
  | .ex x st' => ∀ g' σ' c dd H', SI W g' st' σ' H' → Ext g H g' H' → RX W g' H' x c dd → E c dd σ' H'
  | .bad => False
def TSv (W : Wd) (E : WX) (f : Sm) : TS := fun D σ H => ∃ g st, SI W g st σ H ∧ PostS W E g H (f st) D
def SndS (F : Cal) (lw : Lw) (sc : Sc) (s : Stmt) (f : Sm) : Prop := ∀ W E X, Cok W F lw sc E X → PS X s (TSv W E f)
def SndB' (F : Cal) (lw : Lw) (sc : Sc) (s : List Stmt) (f : Sm) : Prop := ∀ W E X, Cok W F lw sc E X → PSs X s (TSv W E f)
theorem ps_imp {X : Cx} {s : Stmt} {t t' : TS} (h : PS X s t) (i : ∀ D σ H, t' D σ H → t D σ H) : PS X s t' := ⟨fun p s σ H D I q => h.run p s σ H D I (i D σ H q)⟩
theorem pss_imp {X : Cx} {s : List Stmt} {t t' : TS} (h : PSs X s t) (i : ∀ D σ H, t' D σ H → t D σ H) : PSs X s t' := ⟨fun p s σ H D I q => h.run p s σ H D I (i D σ H q)⟩

section
variable {W : Wd} {F : Cal} {lw : Lw} {sc : Sc} {E : WX} {X : Cx} {σ : L2.St} {H : Hp} {g : Gh} {st : Sta} {α β : Type} {rel : Gh → Hp → α → β → Prop} {D : Ends}
theorem PostS.mono {g1 : Gh} {H1 : Hp} {o : Out Sta Fl} (sok : ∀ a, g.S a → H a ≠ none) (p : PostS W E g H o D) (e : Ext g H g1 H1) : PostS W E g1 H1 o D := by
  cases o with
  | ok fl st' =>
    cases fl with
    | nx => exact fun g' σ' H' I e' => p g' σ' H' I (e.trans sok e')
    | bk => exact fun g' σ' H' I e' => p g' σ' H' I (e.trans sok e')
    | ct => exact fun g' σ' H' I e' => p g' σ' H' I (e.trans sok e')
    | rt d => exact fun g' σ' v H' I e' r => p g' σ' v H' I (e.trans sok e') r
  | ex x st' => exact fun g' σ' c dd H' I e' r => p g' σ' c dd H' I (e.trans sok e') r
  | bad => exact p
theorem PostS.bind {o : Out Sta α} {k : α → Sta → Out Sta Fl} {R : β → Hp → Prop} (sok : ∀ a, g.S a → H a ≠ none) (p : PostS W E g H (o.bind k) D)
    (h : ∀ g1 st1 a b H1, SI W g1 st1 σ H1 → Ext g H g1 H1 → rel g1 H1 a b → PostS W E g1 H1 (k a st1) D → R b H1) : Post W E σ rel g H o R := by
  cases o with
  | ok a st' => exact fun g1 b H1 I e r => h g1 st' a b H1 I e r (p.mono sok e)
  | ex x st' => exact fun g' c dd H' I e r => p g' σ c dd H' I e r
  | bad => exact p
theorem PostS.out {f : Ex} {k : DV → Sta → Out Sta Fl} {R : V → Hp → Prop} (sok : ∀ a, g.S a → H a ≠ none) (p : PostS W E g H ((Cv.out f st).bind k) D)
    (h : ∀ g1 st1 a v H1, SI W g1 st1 σ H1 → Ext g H g1 H1 → RV W g1 H1 a v → PostS W E g1 H1 (k a st1) D → R v H1) : Post W E σ (RVl W) g H (f st) R := by
  have e : (Cv.out f st).bind k = (f st).bind fun d s => (Cv.frz d s).bind k := by
    unfold Cv.out
    cases f st <;> rfl
  rw [e] at p
  refine PostS.bind sok p fun g1 st1 d v H1 I1 e1 r1 q1 => ?_
  rcases frz_ok_or (d := d) (st := st1) with ⟨d', st', hf⟩ | hf
  · rw [hf] at q1
    obtain ⟨g2, I2, e2, r2⟩ := I1.frz r1 hf
    exact h g2 st' d' v H1 I2 (e1.trans sok e2) r2 (q1.mono I1.sok e2)
  · rw [hf] at q1; exact q1.elim
theorem PostS.nx (p : PostS W E g H (.ok .nx st) D) (I : SI W g st σ H) : D.nx σ H := p g σ H I (Ext.refl _ _)

theorem sndB_nil : SndB' F lw sc [] pasS := fun W E X c => pss_imp pss_nil fun D σ H ⟨g, st, I, q⟩ => q.nx I
theorem sndB_one' {s : Stmt} {f : Sm} (h : SndS F lw sc s f) : SndB' F lw sc [s] f := fun W E X c => pss_one (h W E X c)
theorem sndB_cons {s : Stmt} {r : List Stmt} {f k : Sm} (h : SndS F lw sc s f) (hr : SndB' F lw sc r k) : SndB' F lw sc (s :: r) (seqS f k) := fun W E X c =>
  pss_imp (pss_cons (h W E X c) (hr W E X c)) fun D σ H ⟨g, st, I, q⟩ => by
    refine ⟨g, st, I, ?_⟩
    unfold seqS at q
    cases hf : f st with
    | ok fl st' =>
      rw [hf] at q
      cases fl with
      | nx => exact fun g1 σ1 H1 I1 e1 => ⟨g1, st', I1, q.mono I.sok e1⟩
      | bk => exact q
      | ct => exact q
      | rt d => exact q
    | ex x st' => rw [hf] at q; exact q
    | bad => rw [hf] at q; exact q
theorem snd_pass {pos : Pos} : SndS F lw sc (.Pass pos) pasS := fun W E X c => ps_imp ps_pass fun D σ H ⟨g, st, I, q⟩ => q.nx I
theorem snd_break {pos : Pos} : SndS F lw sc (.Break pos) bkS := fun W E X c => ps_imp ps_break fun D σ H ⟨g, st, I, q⟩ => q g σ H I (Ext.refl _ _)
theorem snd_continue {pos : Pos} : SndS F lw sc (.Continue pos) ctS := fun W E X c => ps_imp ps_continue fun D σ H ⟨g, st, I, q⟩ => q g σ H I (Ext.refl _ _)
theorem snd_ret {e : Expr} {f : Ex} {pos : Pos} (h : Snd F lw sc e f) : SndS F lw sc (.Return (some e) pos) (retS f) := fun W E X c =>
  ps_imp (ps_ret (h W E X c)) fun D σ H ⟨g, st, I, q⟩ => ⟨g, st, I, PostS.out I.sok q fun g1 st1 d v H1 I1 e1 r1 q1 => q1 g1 σ v H1 I1 (Ext.refl _ _) r1⟩
theorem snd_retN {pos : Pos} : SndS F lw sc (.Return none pos) retN := fun W E X c => ps_imp ps_retN fun D σ H ⟨g, st, I, q⟩ => q g σ .non H I (Ext.refl _ _) (by simp [RV])
def noLc : Expr → Bool
  | .ListComp _ _ _ _ => false
  | .SetComp _ _ _ _ => false
  | .DictComp _ _ _ _ _ => false
  | _ => true
theorem swaps_no {e : Expr} (h : noLc e = true) (t : Option Expr) (l : Nat) (env : Env) : swapsWith e t l env = pure false := by
  cases e <;> first | rfl | cases h
theorem swapsS_no {e : Expr} (h : noLc e = true) (t : Expr) (l : Nat) (env : Env) : swapsWithSole [t] e l env = pure false := by
  cases e <;> first | rfl | cases h
theorem snd_exp {e : Expr} {f : Ex} {pos : Pos} (hn : noLc e = true) (h : Snd F lw sc e f) : SndS F lw sc (.Expr e pos) (expS f) := fun W E X c =>
  ps_imp (ps_expr (h W E X c) (swaps_no hn _ _ _)) fun D σ H ⟨g, st, I, q⟩ => ⟨g, st, I, PostS.bind I.sok q fun g1 st1 d v H1 I1 e1 r1 q1 => q1.nx I1⟩
theorem snd_if {e : Expr} {a b : List Stmt} {f : Ex} {fa fb : Sm} {pos : Pos} (h : SndT F lw sc e f) (ha : SndB' F lw sc a fa) (hb : SndB' F lw sc b fb) : SndS F lw sc (.If e a b pos) (ifS f fa fb) := fun W E X c =>
  ps_imp (ps_if (h W E X c) (ha W E X c) (hb W E X c)) fun D σ H ⟨g, st, I, q⟩ => ⟨g, st, I, by
    have e0 : ifS f fa fb st = (tru f st).bind fun b s => if b = true then fa s else fb s := by
      unfold ifS tru
      cases f st with
      | ok d s =>
        simp only [Out.bind_ok]
        cases d with
        | bl b => cases b <;> rfl
        | _ => rfl
      | ex x s => rfl
      | bad => rfl
    rw [e0] at q
    refine PostS.bind (rel := same) I.sok q fun g1 st1 b b' H1 I1 e1 r1 q1 => ?_
    have r1 : b' = b := r1
    subst r1
    cases b' with
    | true => rw [if_pos rfl] at q1 ⊢; exact ⟨g1, st1, I1, q1⟩
    | false => rw [if_neg Bool.false_ne_true] at q1 ⊢; exact ⟨g1, st1, I1, q1⟩⟩

theorem SI.setE (I : SI W g st σ H) {i : Nat} {d : DV} {v : V} (r : RVl W g H d v) : SI W g { st with env := Cv.setE i d st.env } (σ.set i (some v)) H where
  len := by unfold Cv.setE; rw [List.length_set, List.length_set]; exact I.len
  env := fun j d' hj => by
    have hj : (st.env.set i (some d))[j]? = some (some d') := hj
    by_cases e : j = i
    · subst e
      have hl : j < st.env.length := by
        have := (List.getElem?_eq_some_iff.mp hj).1
        rwa [List.length_set] at this
      rw [List.getElem?_set_self hl] at hj
      cases hj
      exact ⟨v, List.getElem?_set_self (by rw [← I.len]; exact hl), r⟩
    · rw [List.getElem?_set_ne (Ne.symm e)] at hj
      obtain ⟨v', h1, h2⟩ := I.env j d' hj
      exact ⟨v', by rw [List.getElem?_set_ne (Ne.symm e)]; exact h1, h2⟩
  ll := I.ll
  lo := I.lo
  gl := I.gl
  go := I.go
  nd := I.nd
  sok := I.sok
theorem SI.setN (I : SI W g st σ H) {i : Nat} : SI W g { st with env := st.env.set i none } (σ.set i none) H where
  len := by show (st.env.set i none).length = _; rw [List.length_set, List.length_set]; exact I.len
  env := fun j d' hj => by
    have hj : (st.env.set i none)[j]? = some (some d') := hj
    by_cases e : j = i
    · subst e
      have hl : j < st.env.length := by
        have := (List.getElem?_eq_some_iff.mp hj).1
        rwa [List.length_set] at this
      rw [List.getElem?_set_self hl] at hj
      cases hj
    · rw [List.getElem?_set_ne (Ne.symm e)] at hj
      obtain ⟨v', h1, h2⟩ := I.env j d' hj
      exact ⟨v', by rw [List.getElem?_set_ne (Ne.symm e)]; exact h1, h2⟩
  ll := I.ll
  lo := I.lo
  gl := I.gl
  go := I.go
  nd := I.nd
  sok := I.sok
def Tg.ixs : Tg → List Nat
  | .one i => [i]
  | .many is => is
  | .lst is => is
def Agree (is : List Nat) (σ σ' : L2.St) : Prop := σ'.length = σ.length ∧ ∀ j, j ∉ is → σ'[j]? = σ[j]?
theorem Agree.refl (is : List Nat) (σ : L2.St) : Agree is σ σ := ⟨rfl, fun _ _ => rfl⟩
theorem Agree.set {is : List Nat} {σ σ' : L2.St} {i : Nat} {x : Option V} (a : Agree is (σ.set i x) σ') : Agree (i :: is) σ σ' := ⟨by rw [a.1, List.length_set], fun j hj => by
  rw [a.2 j fun z => hj (List.mem_cons_of_mem _ z), List.getElem?_set_ne fun z => hj (by rw [z]; exact List.mem_cons_self)]⟩
def TGv (W : Wd) (E : WX) (t : Tg) : TG := fun v σ H Q => ∃ g st d, SI W g st σ H ∧ RVl W g H d v ∧ match t.bind d st with
  | .ok _ st' => ∀ σ', Agree t.ixs σ σ' → SI W g st' σ' H → Q σ' H
  | _ => False
def SndG (F : Cal) (lw : Lw) (sc : Sc) (e : Expr) (t : Tg) : Prop := ∀ W E X, Cok W F lw sc E X → PG X e (TGv W E t)
theorem pg_imp {e : Expr} {t t' : TG} (h : PG X e t) (i : ∀ v σ H Q, t' v σ H Q → t v σ H Q) : PG X e t' := ⟨fun p s σ H v u Q I r q => h.run p s σ H v u Q I r (i v σ H Q q)⟩
def locB (sc : Sc) (x : Str) : Bool := match sc.names.lookup x with
  | some .local => true
  | some .cell => true
  | _ => false
theorem loc_of {x : Str} (c : Cok W F lw sc E X) (h : locB sc x = true) : Loc X.env.scope x ∧ (X.fn x = true ∨ X.env.scope.names.lookup x = some .local) := by
  unfold locB at h
  cases hl : sc.names.lookup x with
  | none => rw [hl] at h; cases h
  | some k =>
    rw [hl] at h
    have q := c.so x k hl
    cases k <;> first
      | exact ⟨.inl (q.1 (by decide)), .inr (q.1 (by decide))⟩
      | exact ⟨.inr (q.1 (by decide)), .inl (c.ce x hl)⟩
      | cases h
theorem sndG_one {i : Nat} {x : Str} {pos : Pos} (hN : sc.N[i]? = some x) (hl : locB sc x = true) : SndG F lw sc (.Name x pos) (.one i) := fun W E X c =>
  pg_imp (pg_name c.nd (by rw [c.na]; exact hN) (loc_of c hl).1 (loc_of c hl).2) fun v σ H Q ⟨g, st, d, I, r, q⟩ => q _ (Agree.set (Agree.refl _ _)) (I.setE r)
def namesOk (sc : Sc) : List Expr → List Nat → Bool
  | [], [] => true
  | .Name x _ :: es, i :: is => decide (sc.N[i]? = some x) && locB sc x && namesOk sc es is
  | _, _ => false
def TGs' (W : Wd) (is : List Nat) : TGs := fun vs σ H Q => ∃ g st ds, SI W g st σ H ∧ RVs W g H ds vs ∧ match setEs is ds st.env with
  | some env => ∀ σ', Agree is σ σ' → SI W g { st with env := env } σ' H → Q σ' H
  | none => False
theorem namesOk_cons {sc : Sc} {e : Expr} {es : List Expr} {is : List Nat} (h : namesOk sc (e :: es) is = true) : ∃ x p i js, e = .Name x p ∧ is = i :: js ∧ sc.N[i]? = some x ∧ locB sc x = true ∧ namesOk sc es js = true := by
  cases e <;> first
    | (cases is <;> simp [namesOk] at h; done)
    | (cases is with
       | nil => simp [namesOk] at h
       | cons i js =>
        simp only [namesOk, Bool.and_eq_true, decide_eq_true_eq] at h
        exact ⟨_, _, i, js, rfl, rfl, h.1.1, h.1.2, h.2⟩)
theorem assign_names {sc : Sc} : ∀ {es : List Expr} {is : List Nat} {env : Env}, namesOk sc es is = true → (assignEach es env).length = es.length ∧ (assignEach es env).findIdx? (·.1) = none ∧ is.length = es.length
  | [], [], env, _ => ⟨rfl, rfl, rfl⟩
  | [], _ :: _, env, h => by cases h
  | e :: es, is, env, h => by
    obtain ⟨x, p, i, js, rfl, rfl, _, _, h'⟩ := namesOk_cons h
    obtain ⟨h1, h2, h3⟩ := assign_names (env := env) h'
    have e : assignEach (.Name x p :: es) env = (false, assign (.Name x p) env) :: assignEach es env := rfl
    rw [e]
    refine ⟨by simp [h1], ?_, by simp [h3]⟩
    rw [List.findIdx?_cons]
    simp [h2]
theorem pgs_imp {es : List Expr} {t t' : TGs} (h : PGs X es t) (i : ∀ v σ H Q, t' v σ H Q → t v σ H Q) : PGs X es t' := ⟨fun p s σ H v u Q I r q => h.run p s σ H v u Q I r (i v σ H Q q)⟩
theorem pgs_names (c : Cok W F lw sc E X) : ∀ {es : List Expr} {is : List Nat}, namesOk sc es is = true → PGs X es (TGs' W is)
  | [], [], _ => pgs_imp pgs_nil fun vs σ H Q ⟨g, st, ds, I, r, q⟩ => by
    cases ds with
    | nil => exact ⟨by simpa [RVs] using r, q σ (Agree.refl _ _) I⟩
    | cons d ds => exact q.elim
  | [], _ :: _, h => by cases h
  | e :: es, is, h => by
    obtain ⟨x, p, i, js, rfl, rfl, ha, hb, h'⟩ := namesOk_cons h
    have e : ∀ env, (assignEach (.Name x p :: es) env).map (·.2) = assign (.Name x p) env :: (assignEach es env).map (·.2) := fun _ => rfl
    refine pgs_imp (pgs_cons (pg_name c.nd (by rw [c.na]; exact ha) (loc_of c hb).1 (loc_of c hb).2) (pgs_names c h') (e _)) fun vs σ H Q ⟨g, st, ds, I, r, q⟩ => ?_
    cases ds with
    | nil => exact q.elim
    | cons d ds =>
      simp only [RVs] at r
      obtain ⟨v, vr, e1, h1, h2⟩ := r
      refine ⟨v, vr, e1, g, _, ds, I.setE (RVl.of h1), h2, ?_⟩
      unfold setEs at q
      revert q
      cases setEs js ds (Cv.setE i d st.env) with
      | none => exact fun q => q
      | some env => exact fun q σ' a I' => q σ' a.set I'
theorem sndG_many {es : List Expr} {is : List Nat} {k : Nat} {pos : Pos} (h : namesOk sc es is = true) : SndG F lw sc (.Tuple es k pos) (.many is) := fun W E X c => by
  obtain ⟨h1, h2, h3⟩ := assign_names (env := X.env) h
  refine pg_imp (pg_tup c.calm (pgs_names (W := W) c h) h1 h2) fun v σ H Q ⟨g, st, d, I, r, q⟩ => ?_
  have cu := I.look r
  unfold Tg.bind at q
  simp only at q
  cases hl : look st d <;> rw [hl] at q cu <;> try exact q.elim
  rename_i ds
  rw [cur_tup] at cu
  obtain ⟨a, vs, rfl, ha, rs⟩ := cu
  cases hs : setEs is ds st.env with
  | none => simp only [hs] at q
  | some env =>
    simp only [hs] at q
    have hlen : ∀ {is : List Nat} {ds : List DV} {e e' : List (Option DV)}, setEs is ds e = some e' → ds.length = is.length := by
      intro is
      induction is with
      | nil => intro ds e e' z; cases ds <;> first | rfl | cases z
      | cons i is ih => intro ds e e' z; cases ds with
        | nil => cases z
        | cons d ds => simp [ih z]
    exact ⟨a, vs, rfl, by rw [c.ka]; exact ha.sq, by rw [rs.length, hlen hs, h3], g, st, ds, I, rs, by rw [hs]; exact q⟩
theorem sndG_lst {es : List Expr} {is : List Nat} {k : Nat} {pos : Pos} (h : namesOk sc es is = true) : SndG F lw sc (.Tuple es k pos) (.lst is) := fun W E X c => by
  obtain ⟨h1, h2, h3⟩ := assign_names (env := X.env) h
  refine pg_imp (pg_lst c.calm (pgs_names (W := W) c h) h1 h2) fun v σ H Q ⟨g, st, d, I, r, q⟩ => ?_
  have cu := I.look r
  unfold Tg.bind at q
  simp only at q
  cases hl : look st d <;> rw [hl] at q cu <;> try exact q.elim
  rename_i ds
  rw [cur_lst] at cu
  obtain ⟨a, vs, rfl, ha, rs⟩ := cu
  cases hs : setEs is ds st.env with
  | none => simp only [hs] at q
  | some env =>
    simp only [hs] at q
    have hlen : ∀ {is : List Nat} {ds : List DV} {e e' : List (Option DV)}, setEs is ds e = some e' → ds.length = is.length := by
      intro is
      induction is with
      | nil => intro ds e e' z; cases ds <;> first | rfl | cases z
      | cons i is ih => intro ds e e' z; cases ds with
        | nil => cases z
        | cons d ds => simp [ih z]
    exact ⟨a, vs, rfl, by rw [c.ka]; exact SqL.of ha, by rw [rs.length, hlen hs, h3], g, st, ds, I, rs, by rw [hs]; exact q⟩
theorem tasg {te : TE} {f : Ex} {t : Tg} (h : ∀ σ H Q, TEv W E f σ H Q → te σ H Q) (q : TSv W E (asgS t f) D σ H) : tAsg te (TGv W E t) D σ H := by
  obtain ⟨g, st, I, q⟩ := q
  refine h _ _ _ ⟨g, st, I, PostS.bind I.sok q fun g1 st1 d v H1 I1 e1 r1 q1 => ⟨g1, st1, d, I1, r1, ?_⟩⟩
  cases hb : t.bind d st1 with
  | ok _ st' => rw [hb] at q1; exact fun σ' _ I' => q1.nx I'
  | ex x st' =>
    cases t with
    | one i => cases hb
    | many is =>
      exfalso
      unfold Tg.bind at hb
      simp only at hb
      split at hb
      · split at hb <;> cases hb
      · cases hb
    | lst is =>
      exfalso
      unfold Tg.bind at hb
      simp only at hb
      split at hb
      · split at hb <;> cases hb
      · cases hb
  | bad => rw [hb] at q1; exact q1.elim
theorem snd_asg1 {i : Nat} {x : Str} {p pos : Pos} {e : Expr} {f : Ex} (hN : sc.N[i]? = some x) (hl : locB sc x = true) (hn : noLc e = true) (h : Snd F lw sc e f) : SndS F lw sc (.Assign [.Name x p] e pos) (asgS (.one i) f) := fun W E X c =>
  ps_imp (ps_set c.nd (by rw [c.na]; exact hN) (loc_of c hl).1 (h W E X c) (swaps_no hn _ _ _) (loc_of c hl).2) fun D σ H q => by
    obtain ⟨g, st, I, q⟩ := q
    exact ⟨g, st, I, PostS.bind I.sok q fun g1 st1 d v H1 I1 e1 r1 q1 => q1.nx (I1.setE r1)⟩
theorem snd_asgT {es : List Expr} {k : Nat} {p pos : Pos} {e : Expr} {f : Ex} {t : Tg} (hg : SndG F lw sc (.Tuple es k p) t) (hn : noLc e = true) (hw : ∀ env, swappedStores [.Tuple es k p] e env = pure none) (h : Snd F lw sc e f) : SndS F lw sc (.Assign [.Tuple es k p] e pos) (asgS t f) := fun W E X c =>
  ps_imp (ps_asg (h W E X c) (hg W E X c) (swapsS_no hn _ _ _) (hw _) rfl) fun D σ H q => tasg (fun _ _ _ z => z) q
end
end Cv
end
section
set_option Elab.async false
set_option linter.all false
set_option maxRecDepth 100000
set_option maxHeartbeats 1000000
namespace Cv
open PySem PySem.Spec PyProof.Rows L2
section
variable {W : Wd} {F : Cal} {lw : Lw} {sc : Sc} {E : WX} {X : Cx} {σ : L2.St} {H : Hp} {g : Gh} {st : Sta} {D : Ends}
theorem ext_set {a : Addr} {u : HO} (hs : ¬ g.S a) (hm : a ∈ g.ml ∨ a ∈ g.mg) : Ext g H g (upd H a u) where
  s := fun _ h => h
  l := ⟨[], by simp⟩
  m := ⟨[], by simp⟩
  kp := fun x h hx => upd_ne fun z => by
    subst z
    rcases hx with q | ⟨q1, q2⟩
    · exact hs q
    · exact hm.elim q1 q2
  ns := fun _ h => .inl h
  nl := fun _ h => .inl h
  nm := fun _ h => .inl h
  al := fun x h => by
    by_cases z : x = a
    · subst z; rw [upd_same]; simp
    · rw [upd_ne z]; exact h
theorem SI.setLoc (I : SI W g st σ H) {n : Nat} {o o' : Ob} {a : Addr} {u : HO} (hn : st.lh[n]? = some (false, o)) (ha : g.ml[n]? = some a) (pl : o'.plain) (hr : ∀ H', Ext g H g H' → H' a = some u → RO W g H' a o') :
    SI W g { st with lh := st.lh.set n (false, o') } σ (upd H a u) ∧ Ext g H g (upd H a u) := by
  obtain ⟨a', e', ro, hb, _⟩ := I.lo n false o hn
  rw [ha] at e'; cases e'
  have hs : ¬ g.S a := fun z => Bool.noConfusion (hb.mpr z)
  have e : Ext g H g (upd H a u) := ext_set hs (.inl (List.mem_of_getElem? ha))
  refine ⟨⟨I.len, fun i d hi => ?_, by rw [List.length_set]; exact I.ll, fun k b o1 hk => ?_, I.gl, fun k o1 hk => ?_, I.nd, fun x hx => ?_⟩, e⟩
  · obtain ⟨v, h1, h2⟩ := I.env i d hi
    exact ⟨v, h1, h2.ext e I.sok⟩
  · have hk : (st.lh.set n (false, o'))[k]? = some (b, o1) := hk
    by_cases z : k = n
    · subst z
      rw [List.getElem?_set_self (List.getElem?_eq_some_iff.mp hn).1] at hk
      cases hk
      exact ⟨a, ha, hr _ e upd_same, hb, pl⟩
    · rw [List.getElem?_set_ne (Ne.symm z)] at hk
      obtain ⟨x, h1, h2, h3, h4⟩ := I.lo k b o1 hk
      exact ⟨x, h1, h2.ext e I.sok (upd_ne fun q => by subst q; exact z (nodup_get I.nd h1 ha)), h3, h4⟩
  · obtain ⟨x, h1, h2, h3⟩ := I.go k o1 hk
    exact ⟨x, h1, h2.ext e I.sok (upd_ne fun q => by subst q; exact nodup_lm I.nd ha h1), h3⟩
  · by_cases z : x = a
    · subst z; rw [upd_same]; simp
    · rw [upd_ne z]; exact I.sok x hx
theorem SI.setGlb (I : SI W g st σ H) {n : Nat} {o o' : Ob} {a : Addr} {u : HO} (hn : st.gh[n]? = some o) (ha : g.mg[n]? = some a) (hr : ∀ H', Ext g H g H' → H' a = some u → RO W g H' a o') :
    SI W g { st with gh := st.gh.set n o' } σ (upd H a u) ∧ Ext g H g (upd H a u) := by
  obtain ⟨a', e', ro, hs⟩ := I.go n o hn
  rw [ha] at e'; cases e'
  have e : Ext g H g (upd H a u) := ext_set hs (.inr (List.mem_of_getElem? ha))
  refine ⟨⟨I.len, fun i d hi => ?_, I.ll, fun k b o1 hk => ?_, by rw [List.length_set]; exact I.gl, fun k o1 hk => ?_, I.nd, fun x hx => ?_⟩, e⟩
  · obtain ⟨v, h1, h2⟩ := I.env i d hi
    exact ⟨v, h1, h2.ext e I.sok⟩
  · obtain ⟨x, h1, h2, h3, h4⟩ := I.lo k b o1 hk
    exact ⟨x, h1, h2.ext e I.sok (upd_ne fun q => by subst q; exact nodup_lm I.nd h1 ha), h3, h4⟩
  · have hk : (st.gh.set n o')[k]? = some o1 := hk
    by_cases z : k = n
    · subst z
      rw [List.getElem?_set_self (List.getElem?_eq_some_iff.mp hn).1] at hk
      cases hk
      exact ⟨a, ha, hr _ e upd_same, hs⟩
    · rw [List.getElem?_set_ne (Ne.symm z)] at hk
      obtain ⟨x, h1, h2, h3⟩ := I.go k o1 hk
      exact ⟨x, h1, h2.ext e I.sok (upd_ne fun q => by subst q; exact z (nodup_get2 I.nd h1 ha)), h3⟩
  · by_cases z : x = a
    · subst z; rw [upd_same]; simp
    · rw [upd_ne z]; exact I.sok x hx
theorem chg_at {d : DV} {v : V} {r : Ob → Option (DV × Ob)} {x : DV} {st' : Sta} (I : SI W g st σ H) (rv : RVl W g H d v) (hp : ∀ o y o', r o = some (y, o') → o.plain → o'.plain) (h : chg d r st = .ok x st') :
    ∃ a o o', v = .ref a ∧ RO W g H a o ∧ r o = some (x, o') ∧ ∀ u, (∀ H', Ext g H g H' → H' a = some u → RO W g H' a o') → SI W g st' σ (upd H a u) ∧ Ext g H g (upd H a u) := by
  cases d with
  | loc n =>
    obtain ⟨a, rfl, ha⟩ := rv
    unfold chg at h
    simp only at h
    cases hn : st.lh[n]? with
    | none => rw [hn] at h; cases h
    | some p =>
      obtain ⟨b, o⟩ := p
      rw [hn] at h
      cases b with
      | true => cases h
      | false =>
        simp only at h
        cases hr : r o with
        | none => rw [hr] at h; cases h
        | some q =>
          obtain ⟨y, o'⟩ := q
          rw [hr] at h
          injection h with h1 h2
          subst h1 h2
          obtain ⟨a', e', ro, _, pl⟩ := I.lo n false o hn
          rw [ha] at e'; cases e'
          exact ⟨a, o, o', rfl, ro, hr, fun u hu => I.setLoc hn ha (hp o _ o' hr pl) hu⟩
  | glb n =>
    have rv : RV W g H (.glb n) v := rv
    simp only [RV] at rv
    obtain ⟨a, rfl, ha⟩ := rv
    unfold chg at h
    simp only at h
    cases hn : st.gh[n]? with
    | none => rw [hn] at h; cases h
    | some o =>
      rw [hn] at h
      simp only at h
      cases hr : r o with
      | none => rw [hr] at h; cases h
      | some q =>
        obtain ⟨y, o'⟩ := q
        rw [hr] at h
        injection h with h1 h2
        subst h1 h2
        obtain ⟨a', e', ro, _⟩ := I.go n o hn
        rw [ha] at e'; cases e'
        exact ⟨a, o, o', rfl, ro, hr, fun u hu => I.setGlb hn ha hu⟩
  | _ => cases h
theorem chg_or {d : DV} {r : Ob → Option (DV × Ob)} : (∃ x st', chg d r st = .ok x st') ∨ chg d r st = .bad := by
  cases d with
  | loc n =>
    unfold chg
    simp only
    cases st.lh[n]? with
    | none => exact .inr rfl
    | some p =>
      obtain ⟨b, o⟩ := p
      cases b with
      | true => exact .inr rfl
      | false =>
        simp only
        cases r o with
        | none => exact .inr rfl
        | some q => exact .inl ⟨_, _, rfl⟩
  | glb n =>
    unfold chg
    simp only
    cases st.gh[n]? with
    | none => exact .inr rfl
    | some o =>
      simp only
      cases r o with
      | none => exact .inr rfl
      | some q => exact .inl ⟨_, _, rfl⟩
  | _ => exact .inr rfl

theorem ro_lst {d : DV} {a : Addr} {o : Ob} {ds : List DV} (ro : RO W g H a o) (e : o = .lst ds) : ∃ vs, H a = some (.lst vs) ∧ RVs W g H ds vs := by
  subst e; exact ro
theorem appR_some {y x : DV} {o o' : Ob} (h : appR y o = some (x, o')) : ∃ ds, o = .lst ds ∧ ds.length < sizeLine ∧ x = .non ∧ o' = .lst (ds ++ [y]) := by
  cases o with
  | lst ds =>
    unfold appR at h
    simp only at h
    split at h
    · rename_i hz; cases h; exact ⟨ds, rfl, hz, rfl, rfl⟩
    · cases h
  | _ => cases h
theorem popR_some {x : DV} {o o' : Ob} (h : popR o = some (x, o')) : ∃ ds, o = .lst ds ∧ ds[ds.length - 1]? = some x ∧ o' = .lst ds.dropLast := by
  cases o with
  | lst ds =>
    unfold popR at h
    simp only at h
    cases e : ds[ds.length - 1]? with
    | none => rw [e] at h; cases h
    | some y => rw [e] at h; cases h; exact ⟨ds, rfl, e, rfl⟩
  | _ => cases h
theorem isLst_some {d : DV} (h : isLst d = true) : ∃ ds, d = .lst ds := by
  cases d <;> first | exact ⟨_, rfl⟩ | cases h
theorem snd_append {a e : Expr} {fa fe : Ex} {apos cpos : Pos} (hb : ∀ env, attributeBase a "append" env (eval a env) = eval a env) (hline : (apos.endLine == cpos.line) = true) (hs : noStar e = true) (ha : Snd F lw sc a fa) (he : Snd F lw sc e fe) :
    Snd F lw sc (.Call (.Attribute a "append" apos) [e] [] cpos) (appE fa fe) := fun W E X c => by
  have hm : MtR X "list.append" rAppend := fun pins s σ H x xs v us Q => mt_append pins s σ H x xs v us Q
  have hfew : ((backTo cpos (starEach [e] X.env)).all (fun x => !x.1) && (backToKw cpos (keywordEach [] X.env)).all (fun x => x.1.isSome)
      && decide ([e].length + ([] : List Keyword).length + (if ([] : List Keyword).isEmpty then 0 else 1) < 30)) = true := by
    rw [starEach_cons hs]; rfl
  refine pe_imp (pe_bm PySem.F.plainAttrs_list PySem.F.slot_list_append PySem.F.type_list_append hm (ha W E X c) (pa_cons (he W E X c) pa_nil (starEach_cons hs)) (hb _) hfew hline (starEach_cons hs) rfl) fun σ H Q ⟨g, st, I, q⟩ => ?_
  refine ⟨g, st, I, Post.bind I.sok q fun g1 st1 d v H1 I1 e1 r1 q1 => ?_⟩
  split at q1
  · rename_i hl
    obtain ⟨ds0, hds0⟩ := isLst_some hl
    have cu := I1.look r1
    rw [hds0, cur_lst] at cu
    obtain ⟨aa, vs0, rfl, hH, _⟩ := cu
    refine ⟨.inl ⟨rfl, vs0, SqL.of hH⟩, g1, st1, I1, Post.out I1.sok q1 fun g2 st2 y u H2 I2 e2 r2 q2 => ?_⟩
    rcases chg_or (d := d) (r := appR y) (st := st2) with ⟨x, st', hc⟩ | hc
    · rw [hc] at q2
      obtain ⟨b, o, o', hv, ro, hro, hset⟩ := chg_at I2 (r1.ext e2 I1.sok) (fun o y o' h _ => by obtain ⟨ds, _, _, _, rfl⟩ := appR_some h; trivial) hc
      obtain ⟨ds, rfl, hz, rfl, rfl⟩ := appR_some hro
      cases hv
      obtain ⟨vs, h1, h2⟩ := ro
      obtain ⟨I3, e3⟩ := hset (.lst (vs ++ [u])) fun H' e' h' => ⟨_, h', (h2.ext e' I2.sok).append (RVs.one (r2.ext e' I2.sok))⟩
      exact ⟨aa, vs, u, rfl, rfl, h1, by rw [h2.length]; exact hz, q2 g2 .non _ I3 e3 (by simp [RVl, RV])⟩
    · rw [hc] at q2; exact q2.elim
  · exact q1.elim
theorem snd_pop {a : Expr} {fa : Ex} {apos cpos : Pos} (hb : ∀ env, attributeBase a "pop" env (eval a env) = eval a env) (hline : (apos.endLine == cpos.line) = true) (ha : Snd F lw sc a fa) :
    Snd F lw sc (.Call (.Attribute a "pop" apos) [] [] cpos) (popE fa) := fun W E X c => by
  have hm : MtR X "list.pop" rPop := fun pins s σ H x xs v us Q => mt_pop pins s σ H x xs v us Q
  refine pe_imp (pe_bm0 PySem.F.plainAttrs_list PySem.F.slot_list_pop PySem.F.type_list_pop hm (ha W E X c) (hb _) hline) fun σ H Q ⟨g, st, I, q⟩ => ?_
  refine ⟨g, st, I, Post.bind I.sok q fun g1 st1 d v H1 I1 e1 r1 q1 => ?_⟩
  split at q1
  · rename_i hl
    obtain ⟨ds0, hds0⟩ := isLst_some hl
    have cu := I1.look r1
    rw [hds0, cur_lst] at cu
    obtain ⟨aa, vs0, rfl, hH, _⟩ := cu
    refine ⟨.inl ⟨rfl, vs0, SqL.of hH⟩, ?_⟩
    rcases chg_or (d := d) (r := popR) (st := st1) with ⟨x, st', hc⟩ | hc
    · rw [hc] at q1
      obtain ⟨b, o, o', hv, ro, hro, hset⟩ := chg_at I1 r1 (fun o y o' h _ => by obtain ⟨ds, _, _, rfl⟩ := popR_some h; trivial) hc
      obtain ⟨ds, rfl, hz, rfl⟩ := popR_some hro
      cases hv
      obtain ⟨vs, h1, h2⟩ := ro
      obtain ⟨I3, e3⟩ := hset (.lst vs.dropLast) fun H' e' h' => ⟨_, h', (h2.ext e' I1.sok).dropLast⟩
      obtain ⟨w, hw, rw'⟩ := h2.get hz
      exact ⟨aa, vs, w, rfl, rfl, h1, by rw [h2.length]; exact hw, q1 g1 w _ I3 e3 (RVl.of (rw'.ext e3 I1.sok))⟩
    · rw [hc] at q1; exact q1.elim
  · exact q1.elim

def setR (i y : DV) : Ob → Option (DV × Ob)
  | .lst ds => match i with
    | .int k => (ixN ds.length k).map fun j => (.non, .lst (ds.set j y))
    | _ => none
  | .dct ks ds => match keyOf i with
    | some q => if ks.length < sizeLine then some (.non, .dct (dPut ks ds q y).1 (dPut ks ds q y).2) else none
    | none => none
  | _ => none
def setS (a i e : Ex) : Sm := fun st => (out e st).bind fun y s => (a s).bind fun d s => (i s).bind fun k s => (chg d (setR (look s k) y) s).bind fun _ s => .ok .nx s
def rSetD : V → V → V → Hp → (Hp → Prop) → Prop := fun o i v H Q => ∃ a k kvs, o = .ref a ∧ i = kV k ∧ H a = some (.dK kvs) ∧ kvs.length < sizeLine ∧ Q (upd H a (.dK (putK kvs k v)))
theorem set_dict (hu : X.A.units + 1 < cLine) : PSet X rSetD := by
  intro pins s σ H o i v ov iv u Q I ro ri rv h
  obtain ⟨a, k, kvs, rfl, rfl, hH, hz, q⟩ := h
  cases ro
  exact d_setItem hu I (DPut.k (k := k) hH hz) ri rv fun s' I' => ⟨_, I', q⟩
theorem pset_or {r r' : TSet} (h : PSet X r) (h' : PSet X r') : PSet X (fun o i v H Q => r o i v H Q ∨ r' o i v H Q) := by
  intro pins s σ H o i v ov iv u Q I ro ri rv q
  rcases q with q | q
  · exact h pins s σ H o i v ov iv u Q I ro ri rv q
  · exact h' pins s σ H o i v ov iv u Q I ro ri rv q
theorem snd_setIx {a i e : Expr} {fa fi fe : Ex} {p pos : Pos} (hn : noLc e = true) (ht : ∀ env v, assign (.Subscript a i p) env v = (do
      let ov ← PySem.holding [v] (eval a env)
      let iv ← PySem.holding [v, ov] (eval i env)
      standAt p
      PySem.holding [v, ov, iv] (setItem ov iv v)
      release [v, ov, iv] [])) (ha : Snd F lw sc a fa) (hi : Snd F lw sc i fi) (he : Snd F lw sc e fe) : SndS F lw sc (.Assign [.Subscript a i p] e pos) (setS fa fi fe) := fun W E X c => by
  have hu : X.A.units + 1 < cLine := by have := c.units; omega
  refine ps_imp (ps_asg (he W E X c) (pg_sub (ha W E X c) (hi W E X c) (pset_or set_list (set_dict hu)) (ht _)) (swapsS_no hn _ _ _) rfl rfl) fun D σ H ⟨g, st, I, q⟩ => ?_
  refine ⟨g, st, I, PostS.out I.sok q fun g1 st1 y v H1 I1 e1 r1 q1 => ⟨g1, st1, I1, PostS.bind I1.sok q1 fun g2 st2 d o H2 I2 e2 r2 q2 => ⟨g2, st2, I2, PostS.bind I2.sok q2 fun g3 st3 k kv H3 I3 e3 r3 q3 => ?_⟩⟩⟩
  rcases chg_or (d := d) (r := setR (look st3 k) y) (st := st3) with ⟨x, st', hc⟩ | hc
  · rw [hc] at q3
    have ry := (r1.ext e2 I1.sok).ext e3 I2.sok
    have ck := I3.look r3
    obtain ⟨b, ob, ob', hv, ro, hro, hset⟩ := chg_at I3 (r2.ext e3 I2.sok) (fun o y' o' h _ => by
      cases o with
      | lst ds =>
        unfold setR at h
        simp only at h
        split at h
        · obtain ⟨j, _, h2⟩ := Option.map_eq_some_iff.mp h; cases h2; trivial
        · cases h
      | dct ks ds =>
        unfold setR at h
        simp only at h
        split at h
        · split at h
          · cases h; trivial
          · cases h
        · cases h
      | ins c fs ds => cases h) hc
    subst hv
    cases ob with
    | lst ds =>
      unfold setR at hro
      simp only at hro
      split at hro
      · rename_i z hz
        obtain ⟨j, hj, h2⟩ := Option.map_eq_some_iff.mp hro
        cases h2
        obtain ⟨vs, h1, h2⟩ := ro
        obtain ⟨I4, e4⟩ := hset (.lst (vs.set j v)) fun H' e' h' => ⟨_, h', (h2.ext e' I3.sok).set j (ry.ext e' I3.sok)⟩
        rw [hz, cur_int] at ck
        exact .inl ⟨b, vs, z, j, rfl, ck, h1, by rw [h2.length]; exact hj, (q3.mono I3.sok e4).nx I4⟩
      · cases hro
    | dct ks ds =>
      unfold setR at hro
      simp only at hro
      split at hro
      · rename_i qk hqk
        split at hro
        · rename_i hz
          cases hro
          obtain ⟨kvs, h1, h2, h3⟩ := ro
          obtain ⟨I4, e4⟩ := hset (.dK (putK kvs qk v)) fun H' e' h' => ⟨_, h', (dPut_val h2 (h3.ext e' I3.sok) (ry.ext e' I3.sok)).1, (dPut_val h2 (h3.ext e' I3.sok) (ry.ext e' I3.sok)).2⟩
          exact .inr ⟨b, qk, kvs, rfl, key_cur ck hqk, h1, by rw [← h2, List.length_map] at hz; exact hz, (q3.mono I3.sok e4).nx I4⟩
        · cases hro
      · cases hro
    | ins c fs ds => cases hro
  · rw [hc] at q3; exact q3.elim
end
end Cv
end
section
set_option Elab.async false
set_option linter.all false
set_option maxRecDepth 100000
set_option maxHeartbeats 1000000
namespace Cv
open PySem PySem.Spec PyProof.Rows L2

structure Wk (W : Wd) (g0 : Gh) (H0 : Hp) (s0 : Sta) (src : Src) (J : It) : Prop where
  go : ∀ (i : Nat) g st σ H, SI W g st σ H → Ext g0 H0 g H → stays src.gd s0 st → i < src.ds.length → J.go i H
  yld : ∀ (i : Nat) g st σ H x H', SI W g st σ H → Ext g0 H0 g H → stays src.gd s0 st → J.yld i H x H' → ∀ d, src.ds[i]? = some d → ∃ g', SI W g' st σ H' ∧ Ext g H g' H' ∧ RV W g' H' d x
  stop : ∀ g st σ H, SI W g st σ H → Ext g0 H0 g H → stays src.gd s0 st → J.stop src.ds.length H
def PostI (W : Wd) (E : WX) (σ : L2.St) (g : Gh) (H : Hp) (o : Out Sta Src) (R : It → Hp → Prop) : Prop := match o with
  | .ok src st' => ∀ g' H' J, SI W g' st' σ H' → Ext g H g' H' → Wk W g' H' st' src J → R J H'
  | .ex x st' => ∀ g' c dd H', SI W g' st' σ H' → Ext g H g' H' → RX W g' H' x c dd → E c dd σ H'
  | .bad => False
def TIv (W : Wd) (E : WX) (f : Ite) : TI := fun σ H R => ∃ g st, SI W g st σ H ∧ PostI W E σ g H (f st) R
def SndI (F : Cal) (lw : Lw) (sc : Sc) (tg e : Expr) (f : Ite) : Prop := ∀ W E X, Cok W F lw sc E X → PI X tg e (TIv W E f)
theorem pi_imp {X : Cx} {tg e : Expr} {t t' : TI} (h : PI X tg e t) (i : ∀ σ H R, t' σ H R → t σ H R) : PI X tg e t' := ⟨fun p s σ H R I q => h.run p s σ H R I (i σ H R q)⟩
section
variable {W : Wd} {F : Cal} {lw : Lw} {sc : Sc} {E : WX} {X : Cx} {σ : L2.St} {H : Hp} {g : Gh} {st : Sta} {D : Ends} {tg : Expr}
theorem PostI.mono {g1 : Gh} {H1 : Hp} {o : Out Sta Src} {R : It → Hp → Prop} (sok : ∀ a, g.S a → H a ≠ none) (p : PostI W E σ g H o R) (e : Ext g H g1 H1) : PostI W E σ g1 H1 o R := by
  cases o with
  | ok a st' => exact fun g' H' J I e' r => p g' H' J I (e.trans sok e') r
  | ex x st' => exact fun g' c dd H' I e' r => p g' c dd H' I (e.trans sok e') r
  | bad => exact p
theorem PostI.bind {α β : Type} {rel : Gh → Hp → α → β → Prop} {o : Out Sta α} {k : α → Sta → Out Sta Src} {Q : It → Hp → Prop} {R : β → Hp → Prop} (sok : ∀ a, g.S a → H a ≠ none) (p : PostI W E σ g H (o.bind k) Q)
    (h : ∀ g1 st1 a b H1, SI W g1 st1 σ H1 → Ext g H g1 H1 → rel g1 H1 a b → PostI W E σ g1 H1 (k a st1) Q → R b H1) : Post W E σ rel g H o R := by
  cases o with
  | ok a st' => exact fun g1 b H1 I e r => h g1 st' a b H1 I e r (p.mono sok e)
  | ex x st' => exact p
  | bad => exact p

theorem cur_stays {g' : Gh} {H' : Hp} {st' : Sta} {σ' : L2.St} (I : SI W g st σ H) (I' : SI W g' st' σ' H') (e : Ext g H g' H') {d : DV} {v : V} (r : RVl W g H d v) (s : stays (guardOf d) st st') : Cur W g' H' (look st d) v := by
  have r' := r.ext e I.sok
  by_cases hr : isRef d = true
  · have e1 : look st' d = look st d := s d (by unfold guardOf; rw [if_pos hr]; exact List.mem_singleton.mpr rfl)
    rw [← e1]
    exact I'.look r'
  · have : look st d = look st' d := by cases d <;> first | rfl | exact absurd rfl hr
    rw [this]
    exact I'.look r'
def iSeq (K : PySem.W.Frag) (tl : TE) : TI := fun σ H R => tl σ H fun x H1 => ∃ a, x = .ref a ∧ (((∃ xs, SqL K H1 a xs) ∧ R (Itl K a) H1) ∨ ((∃ xs, SqT K H1 a xs) ∧ R (Itt K a) H1))
theorem pi_seq {l : Expr} {tl : TE} (hl : PE X l tl) : PI X tg l (iSeq X.K tl) := ⟨fun ps s0 σ0 H0 R0 I0 h0 => by
  refine thn (hl.run ps s0 σ0 H0 _ I0 h0) fun v s1 ⟨x, H1, I1, rx, a, ex, q1⟩ => ?_
  subst ex
  cases rx
  have fp : ∀ b, b ∈ [s1.heap.objs.size] → FpOk X ps H1 b := fun b hb => by
    rw [List.mem_singleton.mp hb]
    exact I1.fpOk (Nat.le_refl _) (I1.hok.fresh (Nat.le_refl _))
  rcases q1 with ⟨⟨xs, hq⟩, q⟩ | ⟨⟨xs, hq⟩, q⟩
  · obtain ⟨its, rv, pl, hz⟩ := I1.list hq
    exact wpAny_pyIter_list pl.isList ⟨_, [s1.heap.objs.size], _, _, H1, rfl, I1.kept (t' := s1.toks) (fun b o e => Heap.get?_push_of_some _ e), turn_list a _, ⟨_, Heap.get?_push_size _ rfl, rfl, rfl⟩, fp, q⟩
  · obtain ⟨its, rv, pl, hz⟩ := I1.tuple hq
    exact wpAny_pyIter_tuple (show s1.heap.IsTuple a its.toArray from pl) ⟨_, [s1.heap.objs.size], _, _, H1, rfl, I1.kept (t' := s1.toks) (fun b o e => Heap.get?_push_of_some _ e), turn_tuple a _, ⟨_, Heap.get?_push_size _ rfl, rfl, rfl⟩, fp, q⟩⟩
theorem RVs.map_ints (W : Wd) (g : Gh) (H : Hp) : ∀ is : List Int, RVs W g H (is.map .int) (is.map V.int)
  | [] => by simp [RVs]
  | i :: is => by simp only [List.map_cons, RVs]; exact ⟨_, _, rfl, by simp [RV], RVs.map_ints W g H is⟩
theorem sndI_seq {l : Expr} {f : Ex} (h : Snd F lw sc l f) : SndI F lw sc tg l (seqI f) := fun W E X c => by
  refine pi_imp (pi_seq (h W E X c)) fun σ H R ⟨g, st, I, q⟩ => ⟨g, st, I, PostI.bind I.sok q fun g1 st1 d v H1 I1 e1 r1 q1 => ?_⟩
  rw [c.ka]
  have key : ∀ ds, look st1 d = .lst ds → (∃ a xs, v = .ref a ∧ SqL W.K H1 a xs ∧ Wk W g1 H1 st1 ⟨ds, guardOf d⟩ (Itl W.K a)) := fun ds hl => by
    have cu := I1.look r1
    rw [hl, cur_lst] at cu
    obtain ⟨a, vs, rfl, h1, h2⟩ := cu
    have at' : ∀ {g : Gh} {st : Sta} {σ : L2.St} {H : Hp}, SI W g st σ H → Ext g1 H1 g H → stays (guardOf d) st1 st → ∃ vs, H a = some (.lst vs) ∧ RVs W g H ds vs := fun I' e' s' => by
      have := cur_stays I1 I' e' r1 s'
      rw [hl, cur_lst] at this
      obtain ⟨a', vs, ea, h1, h2⟩ := this
      cases ea
      exact ⟨vs, h1, h2⟩
    refine ⟨a, vs, rfl, SqL.of h1, ⟨fun i g st σ H I' e' s' hi => ?_, fun i g st σ H x H' I' e' s' y d' hd => ?_, fun g st σ H I' e' s' => ?_⟩⟩
    · obtain ⟨vs, h1, h2⟩ := at' I' e' s'
      obtain ⟨w, hw, _⟩ := h2.get (List.getElem?_eq_getElem hi)
      exact ⟨vs, w, SqL.of h1, hw⟩
    · obtain ⟨vs, h1, h2⟩ := at' I' e' s'
      obtain ⟨rfl, y⟩ := y
      obtain ⟨w, hw, rw'⟩ := h2.get hd
      have := y vs (SqL.of h1)
      rw [hw] at this; cases this
      exact ⟨g, I', Ext.refl _ _, rw'⟩
    · obtain ⟨vs, h1, h2⟩ := at' I' e' s'
      exact ⟨vs, SqL.of h1, by rw [h2.length]; exact Nat.le_refl _⟩
  cases hl : look st1 d <;> rw [hl] at q1 <;> try exact q1.elim
  · rename_i ds
    have cu := I1.look r1
    rw [hl, cur_tup] at cu
    obtain ⟨a, vs, rfl, h1, h2⟩ := cu
    refine ⟨a, rfl, .inr ⟨⟨vs, h1.sq⟩, q1 g1 H1 _ I1 (Ext.refl _ _) ?_⟩⟩
    have at' : ∀ {g : Gh} {H : Hp}, Ext g1 H1 g H → TupA W g H a vs ∧ RVs W g H ds vs := fun e' => ⟨e'.tup I1.sok h1, h2.ext e' I1.sok⟩
    refine ⟨fun i g st σ H I' e' s' hi => ?_, fun i g st σ H x H' I' e' s' y d' hd => ?_, fun g st σ H I' e' s' => ?_⟩
    · obtain ⟨h1, h2⟩ := at' e'
      obtain ⟨w, hw, _⟩ := h2.get (List.getElem?_eq_getElem hi)
      exact ⟨vs, w, h1.sq, hw⟩
    · obtain ⟨h1, h2⟩ := at' e'
      obtain ⟨rfl, y⟩ := y
      obtain ⟨w, hw, rw'⟩ := h2.get hd
      have := y vs h1.sq
      rw [hw] at this; cases this
      exact ⟨g, I', Ext.refl _ _, rw'⟩
    · obtain ⟨h1, h2⟩ := at' e'
      exact ⟨vs, h1.sq, by rw [h2.length]; exact Nat.le_refl _⟩
  · rename_i ds
    obtain ⟨a, xs, rfl, h1, wk⟩ := key ds hl
    exact ⟨a, rfl, .inl ⟨⟨xs, h1⟩, q1 g1 H1 _ I1 (Ext.refl _ _) wk⟩⟩
  · rename_i is
    have cu : RV W g1 H1 (.scr is) v := by
      have := I1.look r1
      rw [hl] at this
      exact this
    simp only [RV] at cu
    obtain ⟨a, rfl, h1⟩ := cu
    refine ⟨a, rfl, .inl ⟨⟨_, h1.sq⟩, q1 g1 H1 _ I1 (Ext.refl _ _) ?_⟩⟩
    have at' : ∀ {g : Gh} {H : Hp}, Ext g1 H1 g H → SqL W.K H a (is.map V.int) := fun e' => (e'.scr (W := W) I1.sok h1).sq
    refine ⟨fun i g st σ H I' e' s' hi => ?_, fun i g st σ H x H' I' e' s' y d' hd => ?_, fun g st σ H I' e' s' => ?_⟩
    · have hi : i < is.length := by simpa using hi
      exact ⟨_, V.int is[i], at' e', by simp [hi]⟩
    · obtain ⟨rfl, y⟩ := y
      have := y _ (at' e')
      obtain ⟨w, hw, rw'⟩ := (RVs.map_ints W g H' is).get hd
      rw [hw] at this; cases this
      exact ⟨g, I', Ext.refl _ _, rw'⟩
    · exact ⟨_, at' e', by simp⟩

def rngL (lo : Int) (n : Nat) : List DV := (List.range n).map fun i => .int (lo + (i : Nat))
def rng1 (f : Ex) : Ite := fun st => (f st).bind fun d s => match d with
  | .int j => if -(2 ^ 62) ≤ j ∧ j < 2 ^ 62 then .ok ⟨rngL 0 j.toNat, []⟩ s else .bad
  | _ => .bad
def rng2 (f k : Ex) : Ite := fun st => (f st).bind fun d s => (k s).bind fun e s => match d, e with
  | .int i, .int j => if -(2 ^ 62) ≤ i ∧ i < 2 ^ 62 ∧ -(2 ^ 62) ≤ j ∧ j < 2 ^ 62 then .ok ⟨rngL i (j - i).toNat, []⟩ s else .bad
  | _, _ => .bad
theorem wk_rng (lo : Int) (n : Nat) : Wk W g H st ⟨rngL lo n, []⟩ (Itr lo n) := by
  refine ⟨fun i g st σ H I' e' s' hi => ?_, fun i g st σ H x H' I' e' s' y d' hd => ?_, fun g st σ H I' e' s' => ?_⟩
  · show i < n
    simpa [rngL] using hi
  · obtain ⟨rfl, rfl⟩ := y
    have hd : (rngL lo n)[i]? = some d' := hd
    have hi : i < n := by
      have := (List.getElem?_eq_some_iff.mp hd).1
      simpa [rngL] using this
    refine ⟨g, I', Ext.refl _ _, ?_⟩
    have e : d' = .int (lo + (i : Nat)) := by
      simp [rngL, hi] at hd
      exact hd.symm
    subst e
    simp [RV]
  · show n ≤ (rngL lo n).length
    simp [rngL]
theorem sndI_rng1 {a : Expr} {f : Ex} {p pos : Pos} (hg : glbB sc "range" = true) (hb : ("range" : Str) ∈ lw.blts) (hs : noStar a = true) (h : Snd F lw sc a f) : SndI F lw sc tg (.Call (.Name "range" p) [a] [] pos) (rng1 f) := fun W E X c =>
  pi_imp (pi_range1 (gl_of c hg) (by rw [c.gm]; exact c.gb.bl _ hb) (pa_cons (h W E X c) pa_nil (starEach_cons hs)) (starEach_cons hs)) fun σ H R ⟨g, st, I, q⟩ => ⟨g, st, I, PostI.bind I.sok q fun g1 st1 d v H1 I1 e1 r1 q1 => by
    cases d <;> try exact q1.elim
    rename_i j
    have r1 : v = .int j := by simpa [RVl, RV] using r1
    subst r1
    simp only at q1
    split at q1
    · rename_i hz
      exact ⟨j, rfl, hz.1, hz.2, q1 g1 H1 _ I1 (Ext.refl _ _) (wk_rng _ _)⟩
    · exact q1.elim⟩
theorem sndI_rng2 {a b : Expr} {f k : Ex} {p pos : Pos} (hg : glbB sc "range" = true) (hb : ("range" : Str) ∈ lw.blts) (hs : noStar a = true) (hs2 : noStar b = true) (h : Snd F lw sc a f) (hk : Snd F lw sc b k) : SndI F lw sc tg (.Call (.Name "range" p) [a, b] [] pos) (rng2 f k) := fun W E X c =>
  pi_imp (pi_range2 (gl_of c hg) (by rw [c.gm]; exact c.gb.bl _ hb) (pa_cons (h W E X c) (pa_cons (hk W E X c) pa_nil (starEach_cons hs2)) (starEach_cons hs)) (by rw [starEach_cons hs, starEach_cons hs2]; rfl) (starEach_cons hs2)) fun σ H R ⟨g, st, I, q⟩ => ⟨g, st, I, PostI.bind I.sok q fun g1 st1 d v H1 I1 e1 r1 q1 =>
    ⟨g1, st1, I1, PostI.bind I1.sok q1 fun g2 st2 d2 v2 H2 I2 e2 r2 q2 => by
    cases d <;> try exact q2.elim
    cases d2 <;> try exact q2.elim
    rename_i i j
    have r1 : v = .int i := by simpa [RVl, RV] using r1
    have r2 : v2 = .int j := by simpa [RVl, RV] using r2
    subst r1 r2
    simp only at q2
    split at q2
    · rename_i hz
      exact ⟨i, j, rfl, hz, q2 g2 H2 _ I2 (Ext.refl _ _) (wk_rng _ _)⟩
    · exact q2.elim⟩⟩

theorem Tg.bind_or {t : Tg} {d : DV} : (∃ st', t.bind d st = .ok () st') ∨ t.bind d st = .bad := by
  cases t with
  | one i => exact .inl ⟨_, rfl⟩
  | many is =>
    unfold Tg.bind
    simp only
    split
    · split
      · exact .inl ⟨_, rfl⟩
      · exact .inr rfl
    · exact .inr rfl
  | lst is =>
    unfold Tg.bind
    simp only
    split
    · split
      · exact .inl ⟨_, rfl⟩
      · exact .inr rfl
    · exact .inr rfl
theorem snd_for {tg iter : Expr} {body : List Stmt} {t : Tg} {it : Ite} {b : Sm} {pos : Pos} (hbd : sc.body = true) (hf : ∀ env x, foldedSetIterable iter env x = pure x) (hi : SndI F lw sc tg iter it) (hg : SndG F lw sc tg t) (hb : SndB' F lw sc body b) :
    SndS F lw sc (.For tg iter body [] pos) (forS t it b) := fun W E X c => by
  refine ps_imp (ps_for (c.pa hbd) c.calm (hi W E X c) (hg W E X c) (hb W E X c) (hf _)) fun D σ H ⟨g, st, I, q⟩ => ?_
  unfold forS at q
  refine ⟨g, st, I, ?_⟩
  cases hit : it st with
  | bad => rw [hit] at q; exact q.elim
  | ex x st' => rw [hit] at q; exact fun g' c dd H' I' e' r' => q g' σ c dd H' I' e' r'
  | ok src s1 =>
    rw [hit] at q
    simp only [Out.bind_ok] at q
    intro g1 H1 J I1 e1 wk
    have q := q.mono I.sok e1
    refine ⟨fun i m σ' H' => m = src.ds.length - i ∧ i ≤ src.ds.length ∧ ∃ g' st', SI W g' st' σ' H' ∧ Ext g1 H1 g' H' ∧ stays src.gd s1 st' ∧ PostS W E g' H' (forGo t b s1 src.gd (src.ds.drop i) st') D, ⟨_, rfl, Nat.zero_le _, g1, s1, I1, Ext.refl _ _, fun _ _ => rfl, by rw [List.drop_zero]; exact q⟩, ?_⟩
    rintro i m σ' H' ⟨rfl, hi, g', st', I', e', s', q'⟩
    by_cases hlt : i < src.ds.length
    · refine .inr ⟨wk.go i g' st' σ' H' I' e' s' hlt, fun σ2 H2 => ∃ g2 st2, SI W g2 st2 σ2 H2 ∧ Ext g1 H1 g2 H2 ∧ stays src.gd s1 st2 ∧ PostS W E g2 H2 (forGo t b s1 src.gd (src.ds.drop (i + 1)) st2) D, fun σ2 H2 ⟨g2, st2, I2, e2, s2, q2⟩ => ⟨_, by omega, rfl, hlt, g2, st2, I2, e2, s2, q2⟩, fun x H2 y => ?_⟩
      obtain ⟨g2, I2, e2, rx⟩ := wk.yld i g' st' σ' H' x H2 I' e' s' y src.ds[i] (List.getElem?_eq_getElem hlt)
      rw [List.drop_eq_getElem_cons hlt] at q'
      unfold forGo at q'
      rcases Tg.bind_or (t := t) (d := src.ds[i]) (st := st') with ⟨st3, hb3⟩ | hb3
      · refine ⟨g2, st', src.ds[i], I2, RVl.of rx, ?_⟩
        rw [hb3] at q' ⊢
        simp only [Out.bind_ok] at q'
        intro σ3 _ I3
        refine ⟨g2, st3, I3, ?_⟩
        have q3 := q'.mono I'.sok e2
        have e3 : Ext g1 H1 g2 H2 := e'.trans I1.sok e2
        cases hbs : b st3 with
        | bad => rw [hbs] at q3; exact q3.elim
        | ex x st4 => rw [hbs] at q3; exact q3
        | ok fl st4 =>
          rw [hbs] at q3
          simp only [Out.bind_ok] at q3
          cases fl with
          | nx =>
            simp only at q3
            split at q3
            · rename_i hst
              exact fun g4 σ4 H4 I4 e4 => ⟨g4, st4, I4, e3.trans I1.sok e4, hst, q3.mono I2.sok e4⟩
            · exact q3.elim
          | ct =>
            simp only at q3
            split at q3
            · rename_i hst
              exact fun g4 σ4 H4 I4 e4 => ⟨g4, st4, I4, e3.trans I1.sok e4, hst, q3.mono I2.sok e4⟩
            · exact q3.elim
          | bk => exact q3
          | rt d => exact q3
      · rw [hb3] at q'; exact q'.elim
    · have hie : i = src.ds.length := by omega
      subst hie
      refine .inl ⟨wk.stop g' st' σ' H' I' e' s', ?_⟩
      rw [List.drop_length] at q'
      exact q'.nx I'
theorem wl_mono {f : Ex} {b : Sm} : ∀ (n : Nat) (st : Sta), wl f b n st ≠ .bad → wl f b (n + 1) st = wl f b n st
  | 0, st, h => absurd rfl h
  | n + 1, st, h => by
    unfold wl at h ⊢
    cases hf : f st with
    | bad => rfl
    | ex x s => rfl
    | ok d s =>
      rw [hf] at h
      simp only [Out.bind_ok] at h ⊢
      cases d <;> try rfl
      rename_i bb
      cases bb with
      | false => rfl
      | true =>
        simp only at h ⊢
        cases hb : b s with
        | bad => rfl
        | ex x s2 => rfl
        | ok fl s2 =>
          rw [hb] at h
          simp only [Out.bind_ok] at h ⊢
          cases fl with
          | nx => exact wl_mono n s2 h
          | ct => exact wl_mono n s2 h
          | bk => rfl
          | rt d => rfl
theorem wl_add {f : Ex} {b : Sm} {n : Nat} {st : Sta} (h : wl f b n st ≠ .bad) : ∀ k, wl f b (n + k) st = wl f b n st
  | 0 => rfl
  | k + 1 => by
    have e := wl_add h k
    rw [← Nat.add_assoc, wl_mono (n + k) st (by rw [e]; exact h), e]
theorem whlS_eq {f : Ex} {b : Sm} {n : Nat} {st : Sta} (h : wl f b n st ≠ .bad) : whlS f b st = wl f b n st := by
  have hx : ∃ n, wl f b n st ≠ .bad := ⟨n, h⟩
  unfold whlS
  rw [dif_pos hx]
  have hc := Classical.choose_spec hx
  generalize Classical.choose hx = m at hc ⊢
  rcases Nat.le_total n m with q | q
  · obtain ⟨k, rfl⟩ := Nat.exists_eq_add_of_le q
    exact wl_add h k
  · obtain ⟨k, rfl⟩ := Nat.exists_eq_add_of_le q
    exact (wl_add hc k).symm
theorem snd_while {e : Expr} {body : List Stmt} {f : Ex} {b : Sm} {pos : Pos} (hbd : sc.body = true) (he : SndT F lw sc e f) (hb : SndB' F lw sc body b) : SndS F lw sc (.While e body [] pos) (whlS f b) := fun W E X c => by
  refine ps_imp (ps_while (c.pa hbd) (he W E X c) (hb W E X c)) fun D σ H ⟨g, st, I, q⟩ => ?_
  obtain ⟨n, q⟩ : ∃ n, PostS W E g H (wl f b n st) D := by
    unfold whlS at q
    split at q
    · rename_i h
      exact ⟨_, q⟩
    · exact q.elim
  refine ⟨fun m σ' H' => ∃ g' st', SI W g' st' σ' H' ∧ PostS W E g' H' (wl f b m st') D, ⟨n, g, st, I, q⟩, ?_⟩
  rintro m σ' H' ⟨g', st', I', q'⟩
  cases m with
  | zero => exact q'.elim
  | succ m =>
    have e0 : wl f b (m + 1) st' = (tru f st').bind fun x s => if x = true then (b s).bind fun fl s => match fl with
        | .nx => wl f b m s
        | .ct => wl f b m s
        | .bk => .ok .nx s
        | .rt d => .ok (.rt d) s else .ok .nx s := by
      unfold tru
      rw [wl]
      cases f st' with
      | ok d s =>
        simp only [Out.bind_ok]
        cases d with
        | bl bb => cases bb <;> rfl
        | _ => rfl
      | ex x s => rfl
      | bad => rfl
    refine ⟨g', st', I', ?_⟩
    rw [e0] at q'
    refine PostS.bind (rel := same) I'.sok q' fun g1 st1 x x' H1 I1 e1 r1 q1 => ?_
    have r1 : x' = x := r1
    subst r1
    cases x' with
    | false => rw [if_neg Bool.false_ne_true] at q1 ⊢; exact q1.nx I1
    | true =>
      rw [if_pos rfl] at q1 ⊢
      refine ⟨fun σ2 H2 => ∃ g2 st2, SI W g2 st2 σ2 H2 ∧ PostS W E g2 H2 (wl f b m st2) D, fun σ2 H2 ⟨g2, st2, I2, q2⟩ => ⟨m, Nat.lt_succ_self _, g2, st2, I2, q2⟩, g1, st1, I1, ?_⟩
      cases hbs : b st1 with
      | bad => rw [hbs] at q1; exact q1.elim
      | ex x st4 => rw [hbs] at q1; exact q1
      | ok fl st4 =>
        rw [hbs] at q1
        simp only [Out.bind_ok] at q1
        cases fl with
        | nx => exact fun g4 σ4 H4 I4 e4 => ⟨g4, st4, I4, q1.mono I1.sok e4⟩
        | ct => exact fun g4 σ4 H4 I4 e4 => ⟨g4, st4, I4, q1.mono I1.sok e4⟩
        | bk => exact q1
        | rt d => exact q1
end
end Cv
end
section
set_option Elab.async false
set_option linter.all false
set_option maxRecDepth 100000
set_option maxHeartbeats 1000000
namespace Cv
open PySem PySem.Spec PyProof.Rows L2
section
variable {W : Wd} {F : Cal} {lw : Lw} {sc : Sc} {E : WX} {X : Cx} {σ : L2.St} {H : Hp} {g : Gh} {st : Sta} {D : Ends} {tg : Expr}
structure Off (g : Gh) (p : Addr) : Prop where
  s : ¬ g.S p
  l : p ∉ g.ml
  m : p ∉ g.mg
theorem Off.fr {p : Addr} {u : HO} (o : Off g p) : Fr0 g H g (upd H p u) := ⟨fun _ h => h, fun a h => upd_ne fun z => o.s (by rw [← z]; exact h), ⟨[], by simp⟩⟩
theorem SI.touch {p : Addr} {u : HO} (I : SI W g st σ H) (o : Off g p) : SI W g st σ (upd H p u) := by
  refine ⟨I.len, fun i d hi => ?_, I.ll, fun n b ob hn => ?_, I.gl, fun n ob hn => ?_, I.nd, fun a ha => ?_⟩
  · obtain ⟨v, h1, h2⟩ := I.env i d hi
    refine ⟨v, h1, ?_⟩
    cases d with
    | loc n => exact h2
    | _ => exact RV.fr o.fr _ h2
  · obtain ⟨a, h1, h2, h3, h4⟩ := I.lo n b ob hn
    exact ⟨a, h1, h2.fr o.fr (upd_ne fun z => o.l (by rw [← z]; exact List.mem_of_getElem? h1)), h3, h4⟩
  · obtain ⟨a, h1, h2, h3⟩ := I.go n ob hn
    exact ⟨a, h1, h2.fr o.fr (upd_ne fun z => o.m (by rw [← z]; exact List.mem_of_getElem? h1)), h3⟩
  · rw [upd_ne fun z => o.s (by rw [← z]; exact ha)]; exact I.sok a ha
theorem SI.off (I : SI W g st σ H) {p : Addr} (hp : H p = none) : Off g p := ⟨fun z => I.sok p z hp, fun z => I.apart hp (List.mem_append_left _ z), fun z => I.apart hp (List.mem_append_right _ z)⟩
theorem Off.step {g' : Gh} {H' : Hp} {p : Addr} (o : Off g p) (hp : H p ≠ none) (e : Ext g H g' H') : Off g' p ∧ H' p = H p :=
  ⟨⟨fun z => (e.ns p z).elim o.s fun z => z.elim o.l hp, fun z => (e.nl p z).elim o.l hp, fun z => (e.nm p z).elim o.m hp⟩, e.kp p hp (.inr ⟨o.l, o.m⟩)⟩
theorem Ext.touch {g' : Gh} {H' : Hp} {p : Addr} {u : HO} (e : Ext g H g' H') (hp : H p = none) : Ext g H g' (upd H' p u) where
  s := e.s
  l := e.l
  m := e.m
  kp := fun a h hx => by rw [upd_ne fun z => h (by rw [z]; exact hp)]; exact e.kp a h hx
  ns := e.ns
  nl := e.nl
  nm := e.nm
  al := fun a h => by rw [upd_ne fun z => h (by rw [z]; exact hp)]; exact e.al a h
theorem SI.reenv {g' : Gh} {st' : Sta} {σ' : L2.St} {H' : Hp} (I : SI W g st σ H) (I' : SI W g' st' σ' H') (e : Ext g H g' H') : SI W g' { st' with env := st.env } σ H' :=
  ⟨I.len, fun i d hi => by obtain ⟨v, h1, h2⟩ := I.env i d hi; exact ⟨v, h1, h2.ext e I.sok⟩, I'.ll, I'.lo, I'.gl, I'.go, I'.nd, I'.sok⟩
theorem SI.wipe (I : SI W g st σ H) : ∀ vs : List Nat, SI W g { st with env := wipeE st.env vs } (L2.wipe σ vs) H
  | [] => I
  | v :: vs => (SI.wipe I vs).setN (i := v)
theorem SI.adopt (I : SI W g st σ H) {p : Addr} (o : Off g p) {ob0 : Ob} (pl0 : ob0.plain) (hne : H p ≠ none) (hr : ∀ g', Fr0 g H g' H → RO W g' H p ob0) {g0 : Gh} {H0 : Hp} (e : Ext g0 H0 g H) (h0 : H0 p = none) {m : Md} {Q : VK} (sok : ∀ a, g0.S a → H0 a ≠ none)
    (q : Post W E σ (RVl W) g0 H0 (keepO m ob0 st) Q) : Q (.ref p) H := by
  cases m with
  | val =>
    have e1 : Ext g0 H0 { g with S := fun a => g.S a ∨ a = p } H := ⟨fun a h => .inl (e.s a h), e.l, e.m, e.kp, fun a h => by
      rcases h with h | h
      · exact e.ns a h
      · subst h; exact .inr (.inr h0), e.nl, e.nm, e.al⟩
    have f1 : Fr0 g H { g with S := fun a => g.S a ∨ a = p } H := ⟨fun a h => .inl h, fun _ _ => rfl, ⟨[], by simp⟩⟩
    refine q { g with S := fun a => g.S a ∨ a = p } _ _ ⟨I.len, fun i d hi => ?_, I.ll, fun n b ob hn => ?_, I.gl, fun n ob hn => ?_, I.nd, fun a ha => ?_⟩ e1 ?_
    · obtain ⟨v, h1, h2⟩ := I.env i d hi
      refine ⟨v, h1, ?_⟩
      cases d with
      | loc n => exact h2
      | _ => exact RV.fr f1 _ h2
    · obtain ⟨a, h1, h2, h3, h4⟩ := I.lo n b ob hn
      exact ⟨a, h1, h2.fr f1 rfl, h3.trans ⟨fun z => .inl z, fun z => z.elim id fun z => absurd (by rw [← z]; exact List.mem_of_getElem? h1) o.l⟩, h4⟩
    · obtain ⟨a, h1, h2, h3⟩ := I.go n ob hn
      exact ⟨a, h1, h2.fr f1 rfl, fun z => z.elim h3 fun z => o.m (by rw [← z]; exact List.mem_of_getElem? h1)⟩
    · rcases ha with ha | ha
      · exact I.sok a ha
      · subst ha; exact hne
    · exact RVl.of (ro_val (hr _ f1) pl0 (.inr rfl))
  | loc =>
    have e1 : Ext g0 H0 { g with ml := g.ml ++ [p] } H := ⟨e.s, by obtain ⟨x, hx⟩ := e.l; exact ⟨x ++ [p], by rw [hx, List.append_assoc]⟩, e.m, e.kp, e.ns, fun a h => by
      rcases List.mem_append.mp h with h | h
      · exact e.nl a h
      · rw [List.mem_singleton.mp h]; exact .inr h0, e.nm, e.al⟩
    have f1 : Fr0 g H { g with ml := g.ml ++ [p] } H := ⟨fun a h => h, fun _ _ => rfl, ⟨[], by simp⟩⟩
    refine q { g with ml := g.ml ++ [p] } _ _ ⟨I.len, fun i d hi => ?_, by simp [I.ll], fun n b ob hn => ?_, I.gl, fun n ob hn => ?_, ?_, I.sok⟩ e1 ⟨p, rfl, ?_⟩
    · obtain ⟨v, h1, h2⟩ := I.env i d hi
      refine ⟨v, h1, ?_⟩
      cases d with
      | loc n => obtain ⟨a, z1, z2⟩ := h2; exact ⟨a, z1, get_pre z2⟩
      | _ => exact RV.fr f1 _ h2
    · have hn : (st.lh ++ [(false, ob0)])[n]? = some (b, ob) := hn
      by_cases hl : n < st.lh.length
      · rw [List.getElem?_append_left hl] at hn
        obtain ⟨a, h1, h2, h3, h4⟩ := I.lo n b ob hn
        exact ⟨a, get_pre h1, h2.fr f1 rfl, h3, h4⟩
      · have e0 : n = st.lh.length := by
          have := (List.getElem?_eq_some_iff.mp hn).1
          simp only [List.length_append, List.length_singleton] at this
          omega
        subst e0
        rw [List.getElem?_append_right (Nat.le_refl _), Nat.sub_self] at hn
        cases hn
        refine ⟨p, ?_, hr _ f1, ⟨fun z => Bool.noConfusion z, fun z => absurd z o.s⟩, pl0⟩
        show (g.ml ++ [p])[st.lh.length]? = some p
        rw [← I.ll, List.getElem?_append_right (Nat.le_refl _), Nat.sub_self]; rfl
    · obtain ⟨a, h1, h2, h3⟩ := I.go n ob hn
      exact ⟨a, h1, h2.fr f1 rfl, h3⟩
    · show ((g.ml ++ [p]) ++ g.mg).Nodup
      have nd := I.nd
      rw [List.append_assoc, List.nodup_append] at *
      obtain ⟨n1, n2, n3⟩ := nd
      refine ⟨n1, List.nodup_cons.mpr ⟨o.m, n2⟩, fun a ha b hb => ?_⟩
      rcases List.mem_cons.mp hb with z | z
      · subst z; exact fun z => o.l (by rw [← z]; exact ha)
      · exact n3 a ha b z
    · show (g.ml ++ [p])[st.lh.length]? = some p
      rw [← I.ll, List.getElem?_append_right (Nat.le_refl _), Nat.sub_self]; rfl
  | glb =>
    have e1 : Ext g0 H0 { g with mg := g.mg ++ [p] } H := ⟨e.s, e.l, by obtain ⟨x, hx⟩ := e.m; exact ⟨x ++ [p], by rw [hx, List.append_assoc]⟩, e.kp, e.ns, e.nl, fun a h => by
      rcases List.mem_append.mp h with h | h
      · exact e.nm a h
      · rw [List.mem_singleton.mp h]; exact .inr h0, e.al⟩
    have f1 : Fr0 g H { g with mg := g.mg ++ [p] } H := ⟨fun a h => h, fun _ _ => rfl, ⟨[p], rfl⟩⟩
    refine q { g with mg := g.mg ++ [p] } _ _ ⟨I.len, fun i d hi => ?_, I.ll, fun n b ob hn => ?_, by simp [I.gl], fun n ob hn => ?_, ?_, I.sok⟩ e1 ?_
    · obtain ⟨v, h1, h2⟩ := I.env i d hi
      refine ⟨v, h1, ?_⟩
      cases d with
      | loc n => exact h2
      | _ => exact RV.fr f1 _ h2
    · obtain ⟨a, h1, h2, h3, h4⟩ := I.lo n b ob hn
      exact ⟨a, h1, h2.fr f1 rfl, h3, h4⟩
    · have hn : (st.gh ++ [ob0])[n]? = some ob := hn
      by_cases hl : n < st.gh.length
      · rw [List.getElem?_append_left hl] at hn
        obtain ⟨a, h1, h2, h3⟩ := I.go n ob hn
        exact ⟨a, get_pre h1, h2.fr f1 rfl, h3⟩
      · have e0 : n = st.gh.length := by
          have := (List.getElem?_eq_some_iff.mp hn).1
          simp only [List.length_append, List.length_singleton] at this
          omega
        subst e0
        rw [List.getElem?_append_right (Nat.le_refl _), Nat.sub_self] at hn
        cases hn
        refine ⟨p, ?_, hr _ f1, o.s⟩
        show (g.mg ++ [p])[st.gh.length]? = some p
        rw [← I.gl, List.getElem?_append_right (Nat.le_refl _), Nat.sub_self]; rfl
    · show (g.ml ++ (g.mg ++ [p])).Nodup
      rw [← List.append_assoc, List.nodup_append]
      exact ⟨I.nd, by simp, fun a ha b hb => by
        rw [List.mem_singleton.mp hb]
        intro z
        subst z
        rcases List.mem_append.mp ha with z | z
        · exact o.l z
        · exact o.m z⟩
    · show RV W { g with mg := g.mg ++ [p] } H (.glb st.gh.length) (.ref p)
      simp only [RV]
      refine ⟨p, rfl, ?_⟩
      show (g.mg ++ [p])[st.gh.length]? = some p
      rw [← I.gl, List.getElem?_append_right (Nat.le_refl _), Nat.sub_self]; rfl

abbrev noW : WX := fun _ _ _ _ => False
theorem scOk_free {k : Bool} {p : Str → Bool} {x : Str} : ∀ {names : List (Str × NameKind)}, names.lookup x = some .free →
    (names.map fun (n, kd) => if (kd == .free && k && p n) then (n, NameKind.cell) else (n, kd)).lookup x = some .free ∨ (names.map fun (n, kd) => if (kd == .free && k && p n) then (n, NameKind.cell) else (n, kd)).lookup x = some .cell
  | [], h => by cases h
  | (n, kd) :: r, h => by
    rw [List.lookup_cons] at h
    rw [List.map_cons]
    cases hx : x == n with
    | true =>
      rw [hx] at h
      cases h
      by_cases hc : ((NameKind.free == .free && k && p n) : Bool) = true
      · simp only [if_pos hc, List.lookup_cons, hx]; exact .inr trivial
      · simp only [if_neg hc, List.lookup_cons, hx]; exact .inl trivial
    | false =>
      rw [hx] at h
      by_cases hc : ((kd == .free && k && p n) : Bool) = true
      · simp only [if_pos hc, List.lookup_cons, hx]; exact scOk_free h
      · simp only [if_neg hc, List.lookup_cons, hx]; exact scOk_free h
theorem scOk_rel {scope : Scope} {C : Addr} {cl : List (Str × Addr)} {env : Env} : ScOk scope.names (compEnvC scope cl C env).scope := fun x k h =>
  ⟨fun hk => lookup_relS_keep hk h, fun hk => by subst hk; exact scOk_free (k := env.scope.kind == .function) (p := fun n => env.scope.names.lookup n == some .cell) h⟩
theorem Cok.blk (c : Cok W F lw sc E X) {scope : Scope} {s : Shared} {H : Hp} {C : Addr} {cl : List (Str × Addr)} {fp : List Addr} : Cok W F lw ⟨scope.names, sc.N, false⟩ noW (X.blk s H scope (compEnvC scope cl C X.env) fp) where
  pr := c.pr
  wo := c.wo
  ka := c.ka
  gm := c.gm
  ba := c.ba
  na := c.na
  nd := c.nd
  so := scOk_rel
  calm := c.calm
  gu := c.gu
  ro := c.ro
  tk := fun u s' ⟨a, B, sI, pins, σ, H, cls, d, e, I, nb, up, sky, na, os, ag, w⟩ => w
  ce := fun x h => by
    show (scope.names.lookup x == some NameKind.cell) = true
    have h : scope.names.lookup x = some .cell := h
    rw [h]; rfl
  gb := c.gb
  pa := fun h => Bool.noConfusion h
  kd := fun h => Bool.noConfusion h
  stk := fun h => Bool.noConfusion h
  frm := fun h => Bool.noConfusion h
def SndQ (F : Cal) (lw : Lw) (sc : Sc) (es : List Expr) (f : Ex) : Prop := ∀ W E X, Cok W F lw sc E X → PTs X es (TTv W E f)
theorem sndQ_nil : SndQ F lw sc [] (cst (.bl true)) := fun W E X c => ⟨fun p s σ H Q I q => by
  obtain ⟨g, st, J, q⟩ := q
  exact pts_nil.run p s σ H Q I (q g true H J (Ext.refl _ _) rfl)⟩
theorem sndQ_one {e : Expr} {f : Ex} (h : SndT F lw sc e f) : SndQ F lw sc [e] f := fun W E X c => pts_one (h W E X c)

theorem wipe_get {σ : L2.St} {j : Nat} : ∀ {vs : List Nat}, (L2.wipe σ vs)[j]? = if j ∈ vs ∧ j < σ.length then some none else σ[j]?
  | [] => by simp [L2.wipe]
  | v :: vs => by
    show ((L2.wipe σ vs).set v none)[j]? = _
    by_cases e : v = j
    · subst e
      by_cases hl : v < σ.length
      · rw [List.getElem?_set_self (by rw [wipe_length]; exact hl), if_pos ⟨List.mem_cons_self, hl⟩]
      · rw [if_neg fun z => hl z.2, List.getElem?_eq_none (by rw [List.length_set, wipe_length]; omega), List.getElem?_eq_none (by omega)]
    · rw [List.getElem?_set_ne e, wipe_get]
      have : (j ∈ v :: vs ∧ j < σ.length) ↔ (j ∈ vs ∧ j < σ.length) := by
        constructor
        · rintro ⟨h, hl⟩
          exact ⟨(List.mem_cons.mp h).resolve_left fun z => e z.symm, hl⟩
        · rintro ⟨h, hl⟩
          exact ⟨List.mem_cons_of_mem _ h, hl⟩
      by_cases hc : j ∈ vs ∧ j < σ.length
      · rw [if_pos hc, if_pos (this.mpr hc)]
      · rw [if_neg hc, if_neg fun z => hc (this.mp z)]
theorem wipe_agree {is own : List Nat} {σ σ' : L2.St} (hs : ∀ i ∈ is, i ∈ own) (a : Agree is (L2.wipe σ own) σ') : L2.wipe σ' own = L2.wipe σ own := by
  refine List.ext_getElem? fun j => ?_
  have hl : σ'.length = σ.length := by rw [a.1, wipe_length]
  rw [wipe_get, wipe_get, hl]
  by_cases h : j ∈ own ∧ j < σ.length
  · rw [if_pos h, if_pos h]
  · rw [if_neg h, if_neg h]
    by_cases hj : j ∈ own
    · have : σ.length ≤ j := by
        have : ¬ j < σ.length := fun z => h ⟨hj, z⟩
        omega
      rw [List.getElem?_eq_none (by omega), List.getElem?_eq_none this]
    · rw [a.2 j fun z => hj (hs j z), wipe_get, if_neg h]
theorem tlc {tg : Expr} {it : Ite} {t : Tg} {f q : Ex} {own : List Nat} {m : Md} {Q : VK} {tl : TI} (hown : ∀ i ∈ t.ixs, i ∈ own) (hi : ∀ σ H R, TIv W E it σ H R → tl σ H R) (h : TEv W E (lcE m t own it q f) σ H Q) : tLc tl (TGv W noW t) (TTv W noW q) (TEv W noW f) own σ H Q := by
  obtain ⟨g, st, I, h⟩ := h
  unfold lcE at h
  refine hi _ _ _ ⟨g, st, I, ?_⟩
  cases hit : it st with
  | bad => rw [hit] at h; exact h.elim
  | ex x st' => rw [hit] at h; exact h
  | ok src s1 =>
    rw [hit] at h
    simp only [Out.bind_ok] at h
    split at h
    case isFalse => exact h.elim
    rename_i hz
    intro g1 H1 J I1 e1 wk DD hD
    have h := h.mono I.sok e1
    have o1 : Off g1 DD := I1.off hD
    -- at each turn: what is left to do, the list so far
    refine ⟨fun i m' H' => m' = src.ds.length - i ∧ i ≤ src.ds.length ∧ ∃ g' st' acc vs, SI W g' { st' with env := wipeE s1.env own } (L2.wipe σ own) H' ∧ Ext g1 H1 g' H' ∧ Off g' DD ∧ H' DD = some (.lst vs) ∧ RVs W g' H' acc vs ∧ acc.length ≤ i ∧ stays src.gd s1 st' ∧
      Post W E σ (RVl W) g1 H1 ((lcGo t own q f s1.env s1 src.gd (src.ds.drop i) st' acc).bind fun ds s => keep m ds s) Q,
      ⟨_, rfl, Nat.zero_le _, g1, s1, [], [], (I1.wipe own).touch o1, (Ext.refl _ _).touch hD, o1, upd_same, by simp [RVs], Nat.le_refl _, fun _ _ => rfl, by rw [List.drop_zero]; exact h⟩, ?_⟩
    rintro i m' H' ⟨rfl, hi', g', st', acc, vs, I', e', o', hDD, racc, hacc, s', q'⟩
    have back : SI W g' { st' with env := s1.env } σ H' := I1.reenv (st' := { st' with env := wipeE s1.env own }) I' e'
    by_cases hlt : i < src.ds.length
    · refine .inr ⟨wk.go i g' _ _ H' I' e' s' hlt, fun H2 => ∃ g2 st2 acc2 vs2, SI W g2 { st2 with env := wipeE s1.env own } (L2.wipe σ own) H2 ∧ Ext g1 H1 g2 H2 ∧ Off g2 DD ∧ H2 DD = some (.lst vs2) ∧ RVs W g2 H2 acc2 vs2 ∧ acc2.length ≤ i + 1 ∧ stays src.gd s1 st2 ∧
        Post W E σ (RVl W) g1 H1 ((lcGo t own q f s1.env s1 src.gd (src.ds.drop (i + 1)) st2 acc2).bind fun ds s => keep m ds s) Q, fun H2 z => ⟨_, by omega, rfl, hlt, z⟩, fun x H2 y => ?_⟩
      obtain ⟨g2, I2, e2, rx⟩ := wk.yld i g' _ _ H' x H2 I' e' s' y src.ds[i] (List.getElem?_eq_getElem hlt)
      obtain ⟨o2, hD2⟩ := o'.step (by rw [hDD]; simp) e2
      rw [List.drop_eq_getElem_cons hlt] at q'
      unfold lcGo at q'
      rcases Tg.bind_or (t := t) (d := src.ds[i]) (st := { st' with env := wipeE s1.env own }) with ⟨st3, hb3⟩ | hb3
      · refine ⟨g2, { st' with env := wipeE s1.env own }, src.ds[i], I2, RVl.of rx, ?_⟩
        rw [hb3] at q' ⊢
        simp only at q'
        intro σ3 ag I3
        have hz : acc.length < sizeLine := by omega
        have e3 : Ext g1 H1 g2 H2 := e'.trans I1.sok e2
        refine ⟨wipe_agree hown ag, g2, st3, I3, ?_⟩
        -- the turn's end: the same names again, the same things walked
        have fin : ∀ {g5 : Gh} {st5 : Sta} {H5 : Hp} {acc5 : List DV} {vs5 : List V} {u : HO}, SI W g5 st5 σ3 H5 → Ext g2 H2 g5 H5 → u = .lst vs5 → RVs W g5 H5 acc5 vs5 → acc5.length ≤ i + 1 → stays src.gd s1 st5 →
            Post W E σ (RVl W) g1 H1 ((lcGo t own q f s1.env s1 src.gd (src.ds.drop (i + 1)) st5 acc5).bind fun ds s => keep m ds s) Q →
            ∃ g2 st2 acc2 vs2, SI W g2 { st2 with env := wipeE s1.env own } (L2.wipe σ own) (upd H5 DD u) ∧ Ext g1 H1 g2 (upd H5 DD u) ∧ Off g2 DD ∧ (upd H5 DD u) DD = some (.lst vs2) ∧ RVs W g2 (upd H5 DD u) acc2 vs2 ∧ acc2.length ≤ i + 1 ∧ stays src.gd s1 st2 ∧
              Post W E σ (RVl W) g1 H1 ((lcGo t own q f s1.env s1 src.gd (src.ds.drop (i + 1)) st2 acc2).bind fun ds s => keep m ds s) Q := fun {g5 st5 H5 acc5 vs5 u} I5 e5 hu r5 l5 s5 q5 => by
          subst hu
          obtain ⟨o5, _⟩ := o2.step (by rw [hD2, hDD]; simp) e5
          have e15 : Ext g1 H1 g5 H5 := e3.trans I1.sok e5
          exact ⟨g5, st5, acc5, vs5, (((I1.reenv I5 e15).wipe own)).touch o5, e15.touch hD, o5, upd_same, RVs.fr o5.fr _ r5, l5, s5, q5⟩
        have same_at : ∀ {g5 : Gh} {H5 : Hp}, Ext g2 H2 g5 H5 → H5 DD = some (.lst vs) ∧ RVs W g5 H5 acc vs := fun e5 => by
          obtain ⟨_, h5⟩ := o2.step (by rw [hD2, hDD]; simp) e5
          exact ⟨by rw [h5, hD2, hDD], (racc.ext e2 I'.sok).ext e5 I2.sok⟩
        unfold tru
        cases hq : q st3 with
        | bad => rw [hq] at q'; exact q'.elim
        | ex x st4 => rw [hq] at q'; exact q'.elim
        | ok d st4 =>
          rw [hq] at q'
          simp only [Out.bind_ok] at q' ⊢
          cases d <;> try exact q'.elim
          rename_i bb
          cases bb with
          | false =>
            simp only at q'
            intro g4 b4 H4 I4 e4 r4
            have r4 : b4 = false := r4
            subst r4
            rw [if_neg Bool.false_ne_true]
            split at q'
            · rename_i hst
              obtain ⟨h4, r4⟩ := same_at e4
              have hup : upd H4 DD (.lst vs) = H4 := funext fun a => by
                by_cases z : a = DD
                · subst z; rw [upd_same, h4]
                · rw [upd_ne z]
              have := fin (u := .lst vs) I4 e4 rfl r4 (Nat.le_succ_of_le hacc) hst q'
              rw [hup] at this
              exact this
            · exact q'.elim
          | true =>
            simp only at q'
            intro g4 b4 H4 I4 e4 r4
            have r4 : b4 = true := r4
            subst r4
            rw [if_pos rfl]
            refine ⟨g4, st4, I4, ?_⟩
            cases ho : Cv.out f st4 with
            | bad => rw [ho] at q'; exact q'.elim
            | ex x st5 => rw [ho] at q'; exact q'.elim
            | ok y st5 =>
              rw [ho] at q'
              simp only at q'
              -- the item, going out
              have pout : Post W noW σ3 (RV W) g4 H4 ((Cv.out f st4).bind fun y s => .ok y s) (fun u H5 => ∃ acc', H5 DD = some (.lst acc') ∧ acc'.length < sizeLine ∧ (∃ g2 st2 acc2 vs2, SI W g2 { st2 with env := wipeE s1.env own } (L2.wipe σ own) (upd H5 DD (.lst (acc' ++ [u]))) ∧ Ext g1 H1 g2 (upd H5 DD (.lst (acc' ++ [u]))) ∧ Off g2 DD ∧ (upd H5 DD (.lst (acc' ++ [u]))) DD = some (.lst vs2) ∧ RVs W g2 (upd H5 DD (.lst (acc' ++ [u]))) acc2 vs2 ∧ acc2.length ≤ i + 1 ∧ stays src.gd s1 st2 ∧
                  Post W E σ (RVl W) g1 H1 ((lcGo t own q f s1.env s1 src.gd (src.ds.drop (i + 1)) st2 acc2).bind fun ds s => keep m ds s) Q)) := by
                rw [ho]
                intro g5 u H5 I5 e5 r5
                split at q'
                · rename_i hst
                  obtain ⟨h5, ra5⟩ := same_at (e4.trans I2.sok e5)
                  refine ⟨vs, h5, by rw [racc.length]; exact hz, fin I5 (e4.trans I2.sok e5) rfl (ra5.append (RVs.one r5)) ?_ hst q'⟩
                  rw [List.length_append]
                  exact Nat.succ_le_succ hacc
                · exact q'.elim
              exact Post.out I4.sok pout fun g5 st6 a v H5 I5 e5 r5 p5 => p5.ok I5 r5
      · rw [hb3] at q'; exact q'.elim
    · have hie : i = src.ds.length := by omega
      subst hie
      refine .inl ⟨wk.stop g' _ _ H' I' e' s', ?_⟩
      rw [List.drop_length] at q'
      unfold lcGo at q'
      simp only [Out.bind_ok] at q'
      exact back.adopt (ob0 := .lst acc) o' trivial (by rw [hDD]; simp) (fun g2 f => ⟨vs, hDD, RVs.fr f _ racc⟩) e' hD I1.sok q'
def blkF (sc : Sc) (scope : Scope) (own : List (Str × Nat)) : Bool :=
  (match scope.kind with | .function => true | _ => false) && (scope.names.all fun y => decide (scope.names.lookup y.1 = some y.2)) && (own.all fun p => decide (sc.N[p.2]? = some p.1)) &&
    (scope.names.all fun y => match y.2 with
      | .free => (match sc.names.lookup y.1 with | some .cell => true | some .free => true | _ => false)
      | .local => decide (y.1 ∈ own.map (·.1)) || decide (y.1 ∉ sc.N)
      | .cell => decide (y.1 ∈ own.map (·.1)) || decide (y.1 ∉ sc.N)
      | _ => true)
theorem blkF_ok {scope : Scope} {own : List (Str × Nat)} (c : Cok W F lw sc E X) (h : blkF sc scope own = true) : BlkOk X.N X.env.scope scope own := by
  unfold blkF at h
  simp only [Bool.and_eq_true, List.all_eq_true, decide_eq_true_eq] at h
  obtain ⟨⟨⟨h1, h2⟩, h3⟩, h4⟩ := h
  rw [c.na]
  refine ⟨?_, h2, h3, fun y hy e => ?_, fun y hy e => ?_⟩
  · cases hk : scope.kind <;> first | rfl | (rw [hk] at h1; cases h1)
  · have := h4 y hy
    rw [e] at this
    simp only at this
    cases hl : sc.names.lookup y.1 with
    | none => rw [hl] at this; cases this
    | some k =>
      rw [hl] at this
      have s := c.so y.1 k hl
      cases k <;> first
        | exact .inl (s.1 (by decide))
        | exact (s.2 rfl).elim .inr .inl
        | cases this
  · have := h4 y hy
    rcases e with e | e <;> rw [e] at this <;> simp only [Bool.or_eq_true, decide_eq_true_eq] at this <;> exact this
theorem snd_lc {elt tg iter : Expr} {ifs : List Expr} {scope : Scope} {pos : Pos} {it : Ite} {t : Tg} {f q : Ex} {own : List (Str × Nat)} (m : Md) (hw : ∀ i ∈ t.ixs, i ∈ own.map (·.2)) (hf : ∀ env x, foldedSetIterable iter env x = pure x)
    (hi : SndI F lw sc tg iter it) (ok : blkF sc scope own = true) (hg : SndG F lw ⟨scope.names, sc.N, false⟩ tg t) (hq : SndQ F lw ⟨scope.names, sc.N, false⟩ ifs q) (he : Snd F lw ⟨scope.names, sc.N, false⟩ elt f) :
    Snd F lw sc (.ListComp elt [⟨tg, iter, ifs, 0⟩] scope pos) (lcE m t (own.map (·.2)) it q f) := fun W E X c =>
  pe_imp (pe_lc c.calm c.nd (hi W E X c) (blkF_ok c ok) (fun s H C cl fp => hg W noW _ c.blk) (fun s H C cl fp => hq W noW _ c.blk) (fun s H C cl fp => he W noW _ c.blk) (hf _)) fun σ H Q z => tlc (tg := tg) hw (fun _ _ _ y => y) z
end
end Cv
end
section
set_option Elab.async false
set_option linter.all false
set_option maxRecDepth 100000
set_option maxHeartbeats 1000000
namespace CvZ
open PySem PySem.Spec PyProof.Rows RZ

def IsIt (κ : Bool) (h : Heap) (it l : Addr) (k : Nat) : Prop := if κ then h.IsListIter it l k else h.IsTupleIter it l k
def IsSq (κ : Bool) (h : Heap) (l : Addr) (xs : Array Value) : Prop := if κ then h.IsList l xs else h.IsTuple l xs
abbrev IsZp (b : Bool) (h : Heap) (z TI TO : Addr) (f0 : Value) : Prop :=
  h.get? z = some { cls := .type "zip", dict := none, data := .fields #[f0, .bool false, .bool b, .ref TI, .ref TO], slots := #[] }
theorem IsIt.at {κ : Bool} {h h' : Heap} {it l : Addr} {k : Nat} (a : IsIt κ h it l k) (e : ∀ o, h.get? it = some o → h'.get? it = some o) : IsIt κ h' it l k := by
  cases κ with
  | true => exact Heap.IsListIter.at (show h.IsListIter it l k from a) e
  | false => exact Heap.IsTupleIter.at (show h.IsTupleIter it l k from a) e
theorem IsIt.ext {κ : Bool} {c : Addr} {h h' : Heap} {it l : Addr} {k : Nat} (a : IsIt κ h it l k) (e : Heap.ExtBut c h h') (hc : it ≠ c) : IsIt κ h' it l k := a.at fun o q => e it o hc q
theorem IsSq.ext {κ : Bool} {c : Addr} {h h' : Heap} {l : Addr} {xs : Array Value} (a : IsSq κ h l xs) (e : Heap.ExtBut c h h') (hc : l ≠ c) : IsSq κ h' l xs := by
  cases κ with
  | true => exact Heap.IsList.extBut (show h.IsList l xs from a) e hc
  | false => exact Heap.IsTuple.extBut (show h.IsTuple l xs from a) e hc
section
variable {prog : Program} {w : World} {A : Around} {E : Value → Shared → Prop} {s : Shared}
theorem next_item {κ : Bool} {it l : Addr} {i : Nat} {items} {x : Value} {Q : Value → Shared → Prop} (hit : IsIt κ s.heap it l i) (hl : IsSq κ s.heap l items) (hx : items[i]? = some x)
    (hQ : ∀ h', IsIt κ h' it l (i + 1) → Heap.ExtBut it s.heap h' → h'.objs.size = s.heap.objs.size → Q x { s with heap := h' }) : wpAny (model prog w) A (Builtin.SmallTypes.nextOf (.ref it)) Q E s := by
  cases κ with
  | true => exact wpAny_nextOf_list_item (show s.heap.IsListIter it l i from hit) hl hx fun h' a b => hQ h' a b.extBut b.1
  | false => exact nextOf_tuple_item (show s.heap.IsTupleIter it l i from hit) hl hx fun h' a b => hQ h' a b.extBut b.1
theorem next_end {κ : Bool} {it l : Addr} {i : Nat} {items} {Q : Value → Shared → Prop} (hh : A.handled = none) (hit : IsIt κ s.heap it l i) (hl : IsSq κ s.heap l items) (hx : items[i]? = none)
    (hE : ∀ h' e, Heap.ExtBut it s.heap h' → (∃ o, h'.get? e = some o ∧ o.cls = .type "StopIteration") → E (.ref e) { s with heap := h' }) : wpAny (model prog w) A (Builtin.SmallTypes.nextOf (.ref it)) Q E s := by
  cases κ with
  | true => exact wpAny_nextOf_list_end hh (show s.heap.IsListIter it l i from hit) hl hx hE
  | false => exact nextOf_tuple_end hh (show s.heap.IsTupleIter it l i from hit) hl hx hE
theorem orEnd_item {κ : Bool} {it l : Addr} {i : Nat} {items} {x : Value} {Q : Option Value → Shared → Prop} (hit : IsIt κ s.heap it l i) (hl : IsSq κ s.heap l items) (hx : items[i]? = some x)
    (hQ : ∀ h', IsIt κ h' it l (i + 1) → Heap.ExtBut it s.heap h' → h'.objs.size = s.heap.objs.size → Q (some x) { s with heap := h' }) : wpAny (model prog w) A (Builtin.SmallTypes.nextOrEnd (.ref it)) Q E s := by
  unfold Builtin.SmallTypes.nextOrEnd
  exact wpAny_bind (wpAny_attempt (next_item hit hl hx fun h' a b c => wpAny_pure (hQ h' a b c)))
theorem orEnd_end {κ : Bool} {it l : Addr} {i : Nat} {items} {Q : Option Value → Shared → Prop} (hh : A.handled = none) (hit : IsIt κ s.heap it l i) (hl : IsSq κ s.heap l items) (hx : items[i]? = none)
    (hQ : ∀ h', Heap.ExtBut it s.heap h' → Q none { s with heap := h' }) : wpAny (model prog w) A (Builtin.SmallTypes.nextOrEnd (.ref it)) Q E s := by
  unfold Builtin.SmallTypes.nextOrEnd
  refine wpAny_bind (wpAny_attempt (next_end hh hit hl hx fun h' e hk he => ?_))
  obtain ⟨o, ho, hc⟩ := he
  exact wpAny_bind (wpAny_isInstance (T := "StopIteration") (b := true) ⟨o, ho, hc⟩ isSubtype_stop (wpAny_pure (hQ h' hk)))
theorem draw_item {κ b : Bool} {it l : Addr} {i : Nat} {items} {x : Value} {Q : Option Value → Shared → Prop} (hit : IsIt κ s.heap it l i) (hl : IsSq κ s.heap l items) (hx : items[i]? = some x)
    (hQ : ∀ h', IsIt κ h' it l (i + 1) → Heap.ExtBut it s.heap h' → h'.objs.size = s.heap.objs.size → Q (some x) { s with heap := h' }) :
    wpAny (model prog w) A (if b then Builtin.SmallTypes.nextOrEnd (.ref it) else do return some (← Builtin.SmallTypes.nextOf (.ref it))) Q E s := by
  cases b with
  | true => exact orEnd_item hit hl hx hQ
  | false => exact wpAny_bind (next_item hit hl hx fun h' a b c => wpAny_pure (hQ h' a b c))

theorem zp_item {κ κ' b : Bool} {z TI TO i1 i2 l1 l2 : Addr} {k1 k2 : Nat} {xs ys : Array Value} {x y u v : Value} {Q : Value → Shared → Prop} (D : ZipApart z TI TO i1 i2 l1 l2)
    (hz : IsZp b s.heap z TI TO .none) (hTI : IsPair s.heap TI (.ref i1) (.ref i2)) (hTO : IsPair s.heap TO u v)
    (h1 : IsIt κ s.heap i1 l1 k1) (h2 : IsIt κ' s.heap i2 l2 k2) (hl1 : IsSq κ s.heap l1 xs) (hl2 : IsSq κ' s.heap l2 ys) (hx : xs[k1]? = some x) (hy : ys[k2]? = some y)
    (hQ : ∀ h', IsZp b h' z TI TO (rawInt s.heap.objs.size) → IsPair h' TO x y → IsIt κ h' i1 l1 (k1 + 1) → IsIt κ' h' i2 l2 (k2 + 1) → IsPair h' s.heap.objs.size x y → h'.objs.size = s.heap.objs.size + 1 →
      (∀ c o, c ≠ z → c ≠ TO → c ≠ i1 → c ≠ i2 → s.heap.get? c = some o → h'.get? c = some o) → Q (.ref s.heap.objs.size) { s with heap := h' }) :
    wpAny (model prog w) A (Builtin.«zip.__next__» ⟨[.ref z], []⟩) (fun fin s' => ∃ v, fin = .done (.ret v) ∧ Q v s') E s := by
  show wpAny _ _ (field (.ref z) 2 >>= _) _ _ _
  refine wpAny_bind (wpAny_field hz rfl (x := .bool b) rfl ?_)
  show wpAny _ _ (field (.ref z) 3 >>= _) _ _ _
  refine wpAny_bind (wpAny_field hz rfl (x := .ref TI) rfl ?_)
  refine wpAny_bind (wpAny_seqItems hTI rfl ?_)
  show wpAny _ _ (Builtin.SmallTypes.ownedTupleIsFree (.ref z) >>= _) _ _ _
  refine wpAny_bind ?_
  unfold Builtin.SmallTypes.ownedTupleIsFree
  refine wpAny_bind (wpAny_field hz rfl (x := .none) rfl (wpAny_pure ?_))
  simp only [if_true]
  refine wpAny_bind (wpAny_rule ?_)
  refine wpAny_bind (wpAny_field hz rfl (x := .ref TO) rfl ?_)
  refine wpAny_bind (wpAny_setField_rec hz (by simp) fun h₁ hz₁ hs₁ => ?_)
  replace hz₁ : IsZp b h₁ z TI TO .ellipsis := hz₁
  refine wpAny_bind ?_
  simp only [List.zipIdx_cons, List.zipIdx_nil, List.forIn_cons, List.forIn_nil]
  have eb : ((Value.bool b == Value.bool true) : Bool) = b := by cases b <;> rfl
  simp only [eb]
  refine wpAny_bind (wpAny_bind (wpAny_onRaise ?_))
  show wpAny _ _ (if b then Builtin.SmallTypes.nextOrEnd (.ref i1) else do return some (← Builtin.SmallTypes.nextOf (.ref i1))) _ _ _
  refine draw_item (h1.ext hs₁.extBut D.i1z) (hl1.ext hs₁.extBut D.l1z) hx fun h₂ h1₂ hs₂ z₂ => ?_
  have hTO₂ : IsPair h₂ TO u v := hs₂ _ _ D.TOi1 (hs₁.extBut _ _ D.TOz hTO)
  refine wpAny_bind (wpAny_seqItems hTO₂ rfl ?_)
  refine wpAny_bind (wpAny_updateSeq_pair hTO₂ fun h₃ hTO₃ hs₃ => ?_)
  replace hTO₃ : IsPair h₃ TO x v := hTO₃
  refine wpAny_bind (wpAny_letGo (wpAny_pure ?_))
  refine wpAny_bind (wpAny_bind (wpAny_onRaise ?_))
  show wpAny _ _ (if b then Builtin.SmallTypes.nextOrEnd (.ref i2) else do return some (← Builtin.SmallTypes.nextOf (.ref i2))) _ _ _
  refine draw_item (((h2.ext hs₁.extBut D.i2z).ext hs₂ D.i12.symm).ext hs₃.extBut D.TOi2.symm)
    (((hl2.ext hs₁.extBut D.l2z).ext hs₂ D.l2i1).ext hs₃.extBut D.l2TO) hy fun h₄ h2₄ hs₄ z₄ => ?_
  have hTO₄ : IsPair h₄ TO x v := hs₄ _ _ D.TOi2 hTO₃
  refine wpAny_bind (wpAny_seqItems hTO₄ rfl ?_)
  refine wpAny_bind (wpAny_updateSeq_pair hTO₄ fun h₅ hTO₅ hs₅ => ?_)
  replace hTO₅ : IsPair h₅ TO x y := hTO₅
  refine wpAny_bind (wpAny_letGo (wpAny_pure (wpAny_pure ?_)))
  refine wpAny_bind (wpAny_seqItems hTO₅ rfl ?_)
  refine wpAny_bind (wpAny_newTuple ?_)
  have hsz : h₅.objs.size = s.heap.objs.size := by rw [hs₅.1, z₄, hs₃.1, z₂, hs₁.1]
  have hz₅ : IsZp b h₅ z TI TO .ellipsis := hs₅.extBut _ _ D.TOz.symm (hs₄ _ _ D.i2z.symm (hs₃.extBut _ _ D.TOz.symm (hs₂ _ _ D.i1z.symm hz₁)))
  have hk₅ : ∀ c o, c ≠ z → c ≠ TO → c ≠ i1 → c ≠ i2 → s.heap.get? c = some o → h₅.get? c = some o := fun c o c1 c2 c3 c4 e =>
    hs₅.extBut _ _ c2 (hs₄ _ _ c4 (hs₃.extBut _ _ c2 (hs₂ _ _ c3 (hs₁.extBut _ _ c1 e))))
  have h1₅ : IsIt κ h₅ i1 l1 (k1 + 1) := ((h1₂.ext hs₃.extBut D.TOi1.symm).ext hs₄ D.i12).ext hs₅.extBut D.TOi1.symm
  have h2₅ : IsIt κ' h₅ i2 l2 (k2 + 1) := h2₄.ext hs₅.extBut D.TOi2.symm
  have hzlt : z < h₅.objs.size := Heap.lt_size hz₅
  show wpAny _ _ (Builtin.SmallTypes.ownedTupleHandOut (.ref z) (.ref h₅.objs.size) >>= _) _ _ _
  refine wpAny_bind ?_
  unfold Builtin.SmallTypes.ownedTupleHandOut
  have hz₆ : IsZp b (h₅.push { cls := .type "tuple", data := .seq #[x, y] }) z TI TO .ellipsis := Heap.get?_push_of_some _ hz₅
  refine wpAny_bind (wpAny_setField_rec hz₆ (by simp) fun h₇ hz₇ hs₇ => ?_)
  replace hz₇ : IsZp b h₇ z TI TO (rawInt h₅.objs.size) := hz₇
  refine wpAny_setField_rec hz₇ (by simp) fun h₈ hz₈ hs₈ => ?_
  replace hz₈ : IsZp b h₈ z TI TO (rawInt h₅.objs.size) := hz₈
  have up : ∀ c o, c ≠ z → h₅.get? c = some o → h₈.get? c = some o := fun c o c1 e => hs₈.extBut _ _ c1 (hs₇.extBut _ _ c1 (Heap.get?_push_of_some _ e))
  have hT₈ : IsPair h₈ h₅.objs.size x y := hs₈.extBut _ _ (Nat.ne_of_gt hzlt) (hs₇.extBut _ _ (Nat.ne_of_gt hzlt) (Heap.get?_push_size _ rfl))
  have hz8 : h₈.objs.size = h₅.objs.size + 1 := by rw [hs₈.1, hs₇.1, Heap.size_push]
  rw [hsz] at hz₈ hT₈ hz8
  refine wpAny_pure ⟨_, rfl, ?_⟩
  show Q (.ref h₅.objs.size) _
  rw [hsz]
  exact hQ h₈ hz₈ (up _ _ D.TOz hTO₅) (h1₅.at fun o e => up _ o D.i1z e) (h2₅.at fun o e => up _ o D.i2z e) hT₈ hz8 fun c o c1 c2 c3 c4 e => up c o c1 (hk₅ c o c1 c2 c3 c4 e)

theorem stop_it {α : Type} {Q : α → Shared → Prop} (hh : A.handled = none)
    (hE : ∀ h' e, (∀ c o, s.heap.get? c = some o → h'.get? c = some o) → (∃ o, h'.get? e = some o ∧ o.cls = .type "StopIteration") → E (.ref e) { s with heap := h' }) : wpAny (model prog w) A (Builtin.SmallTypes.stopIteration : Sem α) Q E s := by
  unfold Builtin.SmallTypes.stopIteration
  show wpAny _ _ (newExc (.type "StopIteration") [] >>= _) _ _ _
  refine wpAny_bind ?_
  simp only [newExc, newTuple]
  refine wpAny_bind (wpAny_newObj_type ?_ (by size_fits))
  refine wpAny_bind (m := firstArgMember _ _) (wpAny_of_eq (a := Value.none) (by first | rfl | (simp only [firstArgMember]; rfl)) ?_)
  refine wpAny_newObj_type ?_ (by size_fits)
  simp only [raiseNew]
  refine wpAny_bind (wpAny_handled ?_)
  rw [hh]
  refine wpAny_bind (wpAny_pure (wpAny_throw ?_))
  exact hE _ _ (fun c o q => Heap.get?_push_of_some _ (Heap.get?_push_of_some _ q)) ⟨_, Heap.get?_push_size _ rfl, rfl⟩
theorem zp_end {κ κ' b : Bool} {z TI TO i1 i2 l1 l2 : Addr} {k1 k2 : Nat} {xs ys : Array Value} {u v : Value} {Q : Fin → Shared → Prop} (hh : A.handled = none) (D : ZipApart z TI TO i1 i2 l1 l2)
    (hz : IsZp b s.heap z TI TO .none) (hTI : IsPair s.heap TI (.ref i1) (.ref i2)) (hTO : IsPair s.heap TO u v)
    (h1 : IsIt κ s.heap i1 l1 k1) (h2 : IsIt κ' s.heap i2 l2 k2) (hl1 : IsSq κ s.heap l1 xs) (hl2 : IsSq κ' s.heap l2 ys) (hend : if b then xs[k1]? = none ∧ ys[k2]? = none else xs[k1]? = none ∨ ys[k2]? = none)
    (hE : ∀ h' e, (∀ c o, c ≠ z → c ≠ TO → c ≠ i1 → c ≠ i2 → s.heap.get? c = some o → h'.get? c = some o) → (∃ o, h'.get? e = some o ∧ o.cls = .type "StopIteration") → E (.ref e) { s with heap := h' }) :
    wpAny (model prog w) A (Builtin.«zip.__next__» ⟨[.ref z], []⟩) Q E s := by
  show wpAny _ _ (field (.ref z) 2 >>= _) _ _ _
  refine wpAny_bind (wpAny_field hz rfl (x := .bool b) rfl ?_)
  show wpAny _ _ (field (.ref z) 3 >>= _) _ _ _
  refine wpAny_bind (wpAny_field hz rfl (x := .ref TI) rfl ?_)
  refine wpAny_bind (wpAny_seqItems hTI rfl ?_)
  show wpAny _ _ (Builtin.SmallTypes.ownedTupleIsFree (.ref z) >>= _) _ _ _
  refine wpAny_bind ?_
  unfold Builtin.SmallTypes.ownedTupleIsFree
  refine wpAny_bind (wpAny_field hz rfl (x := .none) rfl (wpAny_pure ?_))
  simp only [if_true]
  refine wpAny_bind (wpAny_rule ?_)
  refine wpAny_bind (wpAny_field hz rfl (x := .ref TO) rfl ?_)
  refine wpAny_bind (wpAny_setField_rec hz (by simp) fun h₁ hz₁ hs₁ => ?_)
  replace hz₁ : IsZp b h₁ z TI TO .ellipsis := hz₁
  refine wpAny_bind ?_
  simp only [List.zipIdx_cons, List.zipIdx_nil, List.forIn_cons, List.forIn_nil]
  have eb : ((Value.bool b == Value.bool true) : Bool) = b := by cases b <;> rfl
  simp only [eb]
  refine wpAny_bind (wpAny_bind (wpAny_onRaise ?_))
  show wpAny _ _ (if b then Builtin.SmallTypes.nextOrEnd (.ref i1) else do return some (← Builtin.SmallTypes.nextOf (.ref i1))) _ _ _
  cases b with
  | true =>
    obtain ⟨hx, hy⟩ := hend
    refine orEnd_end hh (h1.ext hs₁.extBut D.i1z) (hl1.ext hs₁.extBut D.l1z) hx fun h₂ hs₂ => ?_
    have hz₂ : IsZp true h₂ z TI TO .ellipsis := hs₂ _ _ D.i1z.symm hz₁
    refine wpAny_bind (wpAny_setField_rec hz₂ (by simp) fun h₃ hz₃ hs₃ => ?_)
    have h2₃ : IsIt κ' h₃ i2 l2 k2 := ((h2.ext hs₁.extBut D.i2z).ext hs₂ D.i12.symm).ext hs₃.extBut D.i2z
    have hl2₃ : IsSq κ' h₃ l2 ys := ((hl2.ext hs₁.extBut D.l2z).ext hs₂ D.l2i1).ext hs₃.extBut D.l2z
    refine wpAny_bind ?_
    show wpAny _ _ ((forIn ([Value.ref i2].zipIdx 1) _ _) >>= _) _ _ _
    refine wpAny_bind ?_
    simp only [List.zipIdx_cons, List.zipIdx_nil, List.forIn_cons, List.forIn_nil]
    refine wpAny_bind ?_
    show wpAny _ _ (Builtin.SmallTypes.nextOrEnd (Value.ref i2) >>= _) _ _ _
    refine wpAny_bind (orEnd_end hh h2₃ hl2₃ hy fun h₄ hs₄ => ?_)
    refine wpAny_pure (wpAny_pure ?_)
    refine wpAny_bind (wpAny_rule ?_)
    refine stop_it hh fun h' e he hn => ?_
    exact hE _ e (fun c o c1 _ c3 c4 q => he _ _ (hs₄ _ _ c4 (hs₃.extBut _ _ c1 (hs₂ _ _ c3 (hs₁.extBut _ _ c1 q))))) hn
  | false =>
    cases hx : xs[k1]? with
    | none =>
      refine wpAny_bind (next_end hh (h1.ext hs₁.extBut D.i1z) (hl1.ext hs₁.extBut D.l1z) hx fun h₂ e hs₂ he => ?_)
      obtain ⟨oe, hoe, hce⟩ := he
      have hz₂ : IsZp false h₂ z TI TO .ellipsis := hs₂ _ _ D.i1z.symm hz₁
      have hez : e ≠ z := fun x => by subst x; rw [hz₂] at hoe; cases hoe; simp at hce
      refine wpAny_setField_rec hz₂ (by simp) fun h₃ _ hs₃ => hE h₃ e (fun c o c1 _ c3 _ x => hs₃.extBut _ _ c1 (hs₂ _ _ c3 (hs₁.extBut _ _ c1 x))) ⟨oe, hs₃.extBut _ _ hez hoe, hce⟩
    | some x =>
      have hy : ys[k2]? = none := by rcases hend with h | h; rw [hx] at h; cases h; exact h
      refine wpAny_bind (next_item (h1.ext hs₁.extBut D.i1z) (hl1.ext hs₁.extBut D.l1z) hx fun h₂ h1₂ hs₂ z₂ => wpAny_pure ?_)
      have hTO₂ : IsPair h₂ TO u v := hs₂ _ _ D.TOi1 (hs₁.extBut _ _ D.TOz hTO)
      refine wpAny_bind (wpAny_seqItems hTO₂ rfl ?_)
      refine wpAny_bind (wpAny_updateSeq_pair hTO₂ fun h₃ hTO₃ hs₃ => ?_)
      refine wpAny_bind (wpAny_letGo (wpAny_pure ?_))
      refine wpAny_bind (wpAny_bind (wpAny_onRaise ?_))
      show wpAny _ _ (Builtin.SmallTypes.nextOf (.ref i2) >>= _) _ _ _
      refine wpAny_bind (next_end hh (((h2.ext hs₁.extBut D.i2z).ext hs₂ D.i12.symm).ext hs₃.extBut D.TOi2.symm)
        (((hl2.ext hs₁.extBut D.l2z).ext hs₂ D.l2i1).ext hs₃.extBut D.l2TO) hy fun h₄ e hs₄ he => ?_)
      obtain ⟨oe, hoe, hce⟩ := he
      have hz₄ : IsZp false h₄ z TI TO .ellipsis := hs₄ _ _ D.i2z.symm (hs₃.extBut _ _ D.TOz.symm (hs₂ _ _ D.i1z.symm hz₁))
      have hez : e ≠ z := fun x => by subst x; rw [hz₄] at hoe; cases hoe; simp at hce
      refine wpAny_setField_rec hz₄ (by simp) fun h₅ _ hs₅ => hE h₅ e (fun c o c1 c2 c3 c4 x => hs₅.extBut _ _ c1 (hs₄ _ _ c4 (hs₃.extBut _ _ c2 (hs₂ _ _ c3 (hs₁.extBut _ _ c1 x))))) ⟨oe, hs₅.extBut _ _ hez hoe, hce⟩

theorem pyNext_item {κ κ' b : Bool} {z TI TO i1 i2 l1 l2 : Addr} {k1 k2 : Nat} {xs ys : Array Value} {x y u v : Value} {Q : Option Value → Shared → Prop} (D : ZipApart z TI TO i1 i2 l1 l2)
    (hz : IsZp b s.heap z TI TO .none) (hTI : IsPair s.heap TI (.ref i1) (.ref i2)) (hTO : IsPair s.heap TO u v)
    (h1 : IsIt κ s.heap i1 l1 k1) (h2 : IsIt κ' s.heap i2 l2 k2) (hl1 : IsSq κ s.heap l1 xs) (hl2 : IsSq κ' s.heap l2 ys) (hx : xs[k1]? = some x) (hy : ys[k2]? = some y)
    (hQ : ∀ h', IsZp b h' z TI TO (rawInt s.heap.objs.size) → IsPair h' TO x y → IsIt κ h' i1 l1 (k1 + 1) → IsIt κ' h' i2 l2 (k2 + 1) → IsPair h' s.heap.objs.size x y → h'.objs.size = s.heap.objs.size + 1 →
      (∀ c o, c ≠ z → c ≠ TO → c ≠ i1 → c ≠ i2 → s.heap.get? c = some o → h'.get? c = some o) → Q (some (.ref s.heap.objs.size)) { s with heap := h' }) :
    wpAny (model prog w) A (pyNext (.ref z)) Q E s := by
  have hT : s.TypeIs (.ref z) "zip" := ⟨_, hz, rfl⟩
  unfold pyNext
  exact wpAny_bind (wpAny_attempt (wpAny_callSpecial?_slot (name := Str.ofString "__next__") hT F.slot_zip_next
    (wpAny_call_entry F.slot_zip_next hT F.entry_zip_next
      (zp_item D hz hTI hTO h1 h2 hl1 hl2 hx hy fun h' a1 a2 a3 a4 a5 a6 a7 => wpAny_pure (hQ h' a1 a2 a3 a4 a5 a6 a7)) (F.args_zip_next_1 _))))
theorem pyNext_end {κ κ' b : Bool} {z TI TO i1 i2 l1 l2 : Addr} {k1 k2 : Nat} {xs ys : Array Value} {u v : Value} {Q : Option Value → Shared → Prop} (hh : A.handled = none) (D : ZipApart z TI TO i1 i2 l1 l2)
    (hz : IsZp b s.heap z TI TO .none) (hTI : IsPair s.heap TI (.ref i1) (.ref i2)) (hTO : IsPair s.heap TO u v)
    (h1 : IsIt κ s.heap i1 l1 k1) (h2 : IsIt κ' s.heap i2 l2 k2) (hl1 : IsSq κ s.heap l1 xs) (hl2 : IsSq κ' s.heap l2 ys) (hend : if b then xs[k1]? = none ∧ ys[k2]? = none else xs[k1]? = none ∨ ys[k2]? = none)
    (hQ : ∀ h', (∀ c o, c ≠ z → c ≠ TO → c ≠ i1 → c ≠ i2 → s.heap.get? c = some o → h'.get? c = some o) → Q none { s with heap := h' }) : wpAny (model prog w) A (pyNext (.ref z)) Q E s := by
  have hT : s.TypeIs (.ref z) "zip" := ⟨_, hz, rfl⟩
  unfold pyNext
  refine wpAny_bind (wpAny_attempt (wpAny_callSpecial?_slot (name := Str.ofString "__next__") hT F.slot_zip_next
    (wpAny_call_entry F.slot_zip_next hT F.entry_zip_next (zp_end hh D hz hTI hTO h1 h2 hl1 hl2 hend fun h' e hk he => ?_) (F.args_zip_next_1 _))))
  obtain ⟨o, ho, hc⟩ := he
  refine wpAny_bind (wpAny_isInstance (T := "StopIteration") (b := true) ⟨o, ho, hc⟩ isSubtype_stop ?_)
  exact wpAny_pure (hQ _ hk)
theorem letGo_zp {b : Bool} {elts : List Expr} {x1} {pos : Pos} {z TI TO T : Addr} {Q : Unit → Shared → Prop} (hz : IsZp b s.heap z TI TO (rawInt T))
    (hQ : ∀ h', IsZp b h' z TI TO .none → Heap.SameBut z s.heap h' → Q () { s with heap := h' }) :
    wpAny (model prog w) A (letOwnedTupleGo (.Tuple elts x1 pos) (.ref z) (.ref T)) Q E s := by
  unfold letOwnedTupleGo
  refine wpAny_bind (wpAny_load hz ?_)
  show wpAny _ _ (if (["enumerate", "zip", "dict_itemiterator", "dict_reverseitemiterator", "odict_iterator", "itertools.zip_longest", "itertools.pairwise"].contains "zip" &&
      (#[rawInt T, .bool false, .bool b, .ref TI, .ref TO] : Array Value)[0]? == some (rawInt T)) = true then _ else _) Q E s
  rw [if_pos (by simp)]
  refine wpAny_bind (wpAny_rule ?_)
  show wpAny _ _ (setField (.ref z) 0 .none) Q E s
  exact wpAny_setField_rec hz (by simp) fun h' hz' hs' => hQ h' hz' hs'
theorem pyIter_zp {b : Bool} {z TI TO : Addr} {f0 : Value} {Q : Value → Shared → Prop} (hz : IsZp b s.heap z TI TO f0) (h : Q (.ref z) s) : wpAny (model prog w) A (pyIter (.ref z)) Q E s := by
  have hT : s.TypeIs (.ref z) "zip" := ⟨_, hz, rfl⟩
  refine wpAny_pyIter_slot hT F.slot_zip_iter (wpAny_call_entry F.slot_zip_iter hT F.entry_zip_iter ?_ (F.args_zip_iter_1 _))
  show wpAny _ _ (ret (.ref z)) _ _ s
  exact wpAny_pure ⟨_, rfl, "zip", _, hT, F.slot_zip_next.lookup, h⟩
end

def itObj (κ : Bool) (l : Addr) : Obj := { cls := .type (if κ then "list_iterator" else "tuple_iterator"), data := .fields #[.ref l, .int 0 0] }
abbrev zpH1 (κ : Bool) (h : Heap) (l1 : Addr) : Heap := h.push (itObj κ l1)
abbrev zpH2 (κ κ' : Bool) (h : Heap) (l1 l2 : Addr) : Heap := (zpH1 κ h l1).push (itObj κ' l2)
abbrev zpH3 (κ κ' : Bool) (h : Heap) (l1 l2 : Addr) : Heap := (zpH2 κ κ' h l1 l2).push { cls := .type "tuple", data := .seq #[.ref h.objs.size, .ref (zpH1 κ h l1).objs.size] }
abbrev zpH4 (κ κ' : Bool) (h : Heap) (l1 l2 : Addr) : Heap := (zpH3 κ κ' h l1 l2).push { cls := .type "tuple", data := .seq #[.none, .none] }
abbrev zpH5 (κ κ' b : Bool) (h : Heap) (l1 l2 : Addr) : Heap := (zpH4 κ κ' h l1 l2).push { cls := .type "zip", data := .fields #[.none, .bool false, .bool b, .ref (zpH2 κ κ' h l1 l2).objs.size, .ref (zpH3 κ κ' h l1 l2).objs.size] }
def kwOf (b : Bool) : List (Str × Value) := if b then [("strict", .bool true)] else []
theorem IsSq.push {κ : Bool} {h : Heap} {l : Addr} {xs : Array Value} (a : IsSq κ h l xs) (o : Obj) : IsSq κ (h.push o) l xs := by
  cases κ with
  | true => exact Heap.IsList.push (show h.IsList l xs from a) o
  | false => exact Heap.IsTuple.push (show h.IsTuple l xs from a) o
theorem iter_sq {prog : Program} {w : World} {A : Around} {E : Value → Shared → Prop} {s : Shared} {κ : Bool} {l : Addr} {xs : Array Value} {Q : Value → Shared → Prop} (hl : IsSq κ s.heap l xs)
    (h : Q (.ref s.heap.objs.size) { s with heap := s.heap.push (itObj κ l) }) : wpAny (model prog w) A (pyIter (.ref l)) Q E s := by
  cases κ with
  | true => exact wpAny_pyIter_list (show s.heap.IsList l xs from hl) h
  | false => exact wpAny_pyIter_tuple (show s.heap.IsTuple l xs from hl) h
theorem new_zp (κ κ' b : Bool) (l1 l2 : Addr) (xs ys : Array Value) :
    Meets (Builtin.«zip.__new__» ⟨[.type "zip", .ref l1, .ref l2], kwOf b⟩) (fun _ R s => IsSq κ s.heap l1 xs ∧ IsSq κ' s.heap l2 ys ∧
      R (.ok (.ret (.ref (zpH4 κ κ' s.heap l1 l2).objs.size))) { s with heap := zpH5 κ κ' b s.heap l1 l2 }) :=
  .of_wp fun prog w A R s h => by
    obtain ⟨hp, g, d, tk, os⟩ := s; obtain ⟨hl1, hl2, h⟩ := h
    have hsub := sub_zip
    have hL1 : IsSq κ (Shared.heap ⟨hp, g, d, tk, os⟩) l1 xs := hl1
    have hL2 : IsSq κ' (Shared.heap ⟨hp.push (itObj κ l1), g, d, tk, os⟩) l2 ys := hl2.push _
    cases b with
    | false =>
      simp only [kwOf, Bool.false_eq_true, if_false]
      wp_walk using iter_sq hL1, iter_sq hL2
      exact ⟨_, rfl, h⟩
    | true =>
      simp only [kwOf, if_true]
      wp_walk using iter_sq hL1, iter_sq hL2
      exact ⟨_, rfl, h⟩
end CvZ
end
section
set_option Elab.async false
set_option linter.all false
set_option maxRecDepth 100000
set_option maxHeartbeats 1000000
namespace CvZ
open PySem PySem.Spec PyProof.Rows RZ
section
variable {prog : Program} {w : World} {A : Around} {E : Value → Shared → Prop} {s : Shared}
theorem callType_kw {T newId initId : String} {Bn Bi : Builtin} {args : List Value} {kw : List (Str × Value)} {S : PySem.Spec} {Q Q₁ : Value → Shared → Prop} (ft : TypeCalled T newId initId)
    (hct : checkTypeCall T ⟨args, kw⟩ = pure ()) (hcn : checkBuiltinCall newId ⟨.type T :: args, kw⟩ = pure ())
    (entryN : entryFor table newId = some Bn) (entryI : entryFor table initId = some Bi) (g : Meets (Bn ⟨.type T :: args, kw⟩) S)
    (h : S A.in1 (wants Q₁ E) s)
    (hnext : ∀ obj s₁, Q₁ obj s₁ → s₁.TypeIs obj T ∧ argsOk initId ⟨obj :: args, kw⟩ ∧ ∃ Si, Meets (Bi ⟨obj :: args, kw⟩) Si ∧ Si A.in1 (wants (fun r s₂ => r = .none ∧ Q obj s₂) E) s₁) :
    wpAny (model prog w) A (call (.type T) args kw) Q E s := by
  obtain ⟨c, tl, hmro⟩ := ft.mro
  have hmade := ft.made
  have hsub := ft.sub
  refine wpAny_call (codeAny_of_tree ?_)
  show wpAny _ _ (callAny (.type T) _) _ _ _
  refine wpAny_pure ⟨Code.quiet_builtin _ (by decide +kernel), codeAny_builtin F.entry_type_call ?_⟩
  rw [Around.under_plain (weight_type_call_type T args kw) (units_type_call_type T args kw)]
  have h1 := ft.notType
  have h2 := ft.canCreate
  repeat (any_goals (first | assumption | wp_step))

  refine codeAny_mono (codeAny_call_builtin ft.plain entryN (wpAny_of_eq hcn (g prog w A.in1 _ s h))) fun r s₁ hr => ?_
  cases r with
  | error e => exact hr
  | ok fl =>
    cases fl with
    | ret obj =>
      obtain ⟨hT, hok, Si, gi, hsi⟩ := hnext _ _ hr
      have hli := ft.init.lookup
      have hbi := ft.init.bind obj
      repeat (any_goals (first | assumption | wp_step))

      refine codeAny_mono (codeAny_call_builtin ft.init.plain entryI (ft.init.check _ _ _ _ _ _ _ _ hT hok (gi prog w A.in1 _ s₁ hsi))) fun r₂ s₂ hr₂ => ?_
      cases r₂ with
      | error e => exact hr₂
      | ok fl₂ =>
        cases fl₂ with
        | ret r =>
          obtain ⟨rfl, hq⟩ := hr₂
          repeat (any_goals (first | assumption | wp_step))
        | _ => exact hr₂.elim
    | _ => exact hr.elim

theorem object_init_kw {T newId : String} {self : Value} {rest : List Value} {kw : List (Str × Value)} (hl : typeLookup (.type T) "__init__" = pure (some (.builtin "object.__init__")))
    (hm : Bind.madeBy (.type T) = pure (some newId)) (hne : (some newId != some "object.__new__") = true) :
    Meets (Builtin.«object.__init__» ⟨self :: rest, kw⟩) (fun _ R s => s.TypeIs self T ∧ R (.ok (.ret .none)) s) := by
  refine Meets.of_wp fun prog w A R s hs => ?_
  obtain ⟨hT, hq⟩ := hs
  cases rest with
  | nil =>
    cases kw with
    | nil => exact wpAny_pure ⟨_, rfl, hq⟩
    | cons k kw =>
      repeat (any_goals (first | assumption | wp_step))
      exact ⟨_, rfl, hq⟩
  | cons a rest =>
    repeat (any_goals (first | assumption | wp_step))
    exact ⟨_, rfl, hq⟩
theorem typeCall_zp (b : Bool) (x y : Value) : checkTypeCall "zip" ⟨[x, y], kwOf b⟩ = pure () := by cases b <;> kernel_rfl
theorem newCall_zp (b : Bool) (x y : Value) : checkBuiltinCall "zip.__new__" ⟨[.type "zip", x, y], kwOf b⟩ = pure () := by cases b <;> kernel_rfl
theorem args_zp (b : Bool) (x y z : Value) : argsOk "object.__init__" ⟨[x, y, z], kwOf b⟩ := by
  unfold argsOk; rw [signature?_of (id := "object.__init__") (n := ['_', '_', 't', 'i', 'n', 'i', '_', '_']) (o := ['t', 'c', 'e', 'j', 'b', 'o']) (by kernel_rfl) F.owner_object]; cases b <;> kernel_rfl
theorem call_zp {κ κ' b : Bool} {l1 l2 : Addr} {xs ys : Array Value} {Q : Value → Shared → Prop} (hl1 : IsSq κ s.heap l1 xs) (hl2 : IsSq κ' s.heap l2 ys)
    (h : ∀ h', IsZp b h' (s.heap.objs.size + 4) (s.heap.objs.size + 2) (s.heap.objs.size + 3) .none → IsPair h' (s.heap.objs.size + 2) (.ref s.heap.objs.size) (.ref (s.heap.objs.size + 1)) →
      IsPair h' (s.heap.objs.size + 3) .none .none → IsIt κ h' s.heap.objs.size l1 0 → IsIt κ' h' (s.heap.objs.size + 1) l2 0 → h'.objs.size = s.heap.objs.size + 5 →
      (∀ c o, s.heap.get? c = some o → h'.get? c = some o) → Q (.ref (s.heap.objs.size + 4)) { s with heap := h' }) :
    wpAny (model prog w) A (call (.type "zip") [.ref l1, .ref l2] (kwOf b)) Q E s := by
  refine callType_kw F.called_zip (typeCall_zp b _ _) (newCall_zp b _ _) F.entry_zip_new F.entry_object_init (new_zp κ κ' b l1 l2 xs ys) (Q₁ := fun obj s₁ => s₁.TypeIs obj "zip" ∧ Q obj s₁) ⟨hl1, hl2, ?_⟩
    fun obj s₁ hq => ⟨hq.1, args_zp b obj _ _, _, object_init_kw F.called_zip.init.lookup F.called_zip.made (by decide), hq.1, rfl, hq.2⟩
  have z1 : (zpH1 κ s.heap l1).objs.size = s.heap.objs.size + 1 := Heap.size_push ..
  have z2 : (zpH2 κ κ' s.heap l1 l2).objs.size = s.heap.objs.size + 2 := by rw [Heap.size_push, z1]
  have z3 : (zpH3 κ κ' s.heap l1 l2).objs.size = s.heap.objs.size + 3 := by rw [Heap.size_push, z2]
  have z4 : (zpH4 κ κ' s.heap l1 l2).objs.size = s.heap.objs.size + 4 := by rw [Heap.size_push, z3]
  have z5 : (zpH5 κ κ' b s.heap l1 l2).objs.size = s.heap.objs.size + 5 := by rw [Heap.size_push, z4]
  have fr : ∀ {κ : Bool} {l : Addr}, (itObj κ l).isFreed = false := fun {κ l} => by cases κ <;> rfl
  have g5 : (zpH5 κ κ' b s.heap l1 l2).get? (zpH4 κ κ' s.heap l1 l2).objs.size = some _ := Heap.get?_push_size _ rfl
  have g4 : (zpH5 κ κ' b s.heap l1 l2).get? (zpH3 κ κ' s.heap l1 l2).objs.size = some _ := Heap.get?_push_of_some _ (Heap.get?_push_size _ rfl)
  have g3 : (zpH5 κ κ' b s.heap l1 l2).get? (zpH2 κ κ' s.heap l1 l2).objs.size = some _ := Heap.get?_push_of_some _ (Heap.get?_push_of_some _ (Heap.get?_push_size _ rfl))
  have g2 : (zpH5 κ κ' b s.heap l1 l2).get? (zpH1 κ s.heap l1).objs.size = some _ := Heap.get?_push_of_some _ (Heap.get?_push_of_some _ (Heap.get?_push_of_some _ (Heap.get?_push_size _ fr)))
  have g1 : (zpH5 κ κ' b s.heap l1 l2).get? s.heap.objs.size = some _ := Heap.get?_push_of_some _ (Heap.get?_push_of_some _ (Heap.get?_push_of_some _ (Heap.get?_push_of_some _ (Heap.get?_push_size _ fr))))
  show _ ∧ _
  rw [z2, z3, z4] at g5
  rw [z1, z2] at g3
  rw [z3] at g4
  rw [z1] at g2
  rw [z4]
  have it : ∀ {κ : Bool} {h : Heap} {i l : Addr}, h.get? i = some (itObj κ l) → IsIt κ h i l 0 := fun {κ h i l} e => by cases κ <;> exact ⟨_, e, rfl, rfl⟩
  exact ⟨⟨_, g5, rfl⟩, h _ g5 g3 g4 (it g1) (it g2) z5 fun c o x =>
    Heap.get?_push_of_some _ (Heap.get?_push_of_some _ (Heap.get?_push_of_some _ (Heap.get?_push_of_some _ (Heap.get?_push_of_some _ x))))⟩
end

open L2
def SqV (κ : Bool) (K : PySem.W.Frag) (H : Hp) (a : Addr) (xs : List V) : Prop := if κ then SqL K H a xs else SqT K H a xs
theorem sqv_of {κ : Bool} {X : Cx} {pins : List (Addr × Obj)} {σ : L2.St} {H : Hp} {s : Shared} {a : Addr} {xs : List V} (I : Inv X pins σ H s) (h : SqV κ X.K H a xs) : ∃ its, Vals xs its ∧ IsSq κ s.heap a its.toArray ∧ a < s.heap.objs.size := by
  cases κ with
  | true =>
    obtain ⟨its, rv, p, _⟩ := I.list (show SqL X.K H a xs from h)
    exact ⟨its, rv, p.isList, p.lt⟩
  | false =>
    obtain ⟨its, rv, p, _⟩ := I.tuple (show SqT X.K H a xs from h)
    have p' : s.heap.IsTuple a its.toArray := p
    obtain ⟨o, ho, _⟩ := id p'
    exact ⟨its, rv, p', Heap.lt_size ho⟩
theorem sqv_inj {κ : Bool} {X : Cx} {pins : List (Addr × Obj)} {σ : L2.St} {H : Hp} {s : Shared} {a : Addr} {xs ys : List V} (I : Inv X pins σ H s) (h : SqV κ X.K H a xs) (h2 : SqV κ X.K H a ys) : xs = ys := by
  cases κ with
  | true => exact I.list_inj (show SqL X.K H a xs from h) h2
  | false => exact I.tuple_inj (show SqT X.K H a xs from h) h2
def Itp (κ κ' b : Bool) (K : PySem.W.Frag) (a c : Addr) : It :=
  ⟨fun i H => ∃ (xs ys : List V) (x y : V), SqV κ K H a xs ∧ SqV κ' K H c ys ∧ xs[i]? = some x ∧ ys[i]? = some y,
    fun i H v H' => ∃ T x y, v = .ref T ∧ H T = none ∧ H' = upd H T (.tup [x, y]) ∧ (∀ xs, SqV κ K H a xs → xs[i]? = some x) ∧ ∀ ys, SqV κ' K H c ys → ys[i]? = some y,
    fun i H => ∃ xs ys : List V, SqV κ K H a xs ∧ SqV κ' K H c ys ∧ if b then xs.length ≤ i ∧ ys.length ≤ i else xs.length ≤ i ∨ ys.length ≤ i⟩
theorem isit_obj {κ : Bool} {h : Heap} {i l : Addr} {k : Nat} (a : IsIt κ h i l k) : ∃ o, h.get? i = some o ∧ o.data = .fields #[.ref l, .int (k : Int) 0] := by
  cases κ <;> obtain ⟨o, e, _, d⟩ := a <;> exact ⟨o, e, d⟩
theorem turn_zp {κ κ' b : Bool} {P : Program} {w : World} {K : PySem.W.Frag} {elts : List Expr} {kk : Nat} {tpos : Pos} {a c z TI TO i1 i2 : Addr} (D : ZipApart z TI TO i1 i2 a c) :
    Turn P w K (.Tuple elts kk tpos) (Itp κ κ' b K a c) [z, TI, TO, i1, i2] z (fun i h => IsZp b h z TI TO .none ∧ IsPair h TI (.ref i1) (.ref i2) ∧ (∃ x y, IsPair h TO x y) ∧ IsIt κ h i1 a i ∧ IsIt κ' h i2 c i) where
  mem := by simp
  obj := fun i h st d hc => by
    obtain ⟨hz, hTI, ⟨x, y, hTO⟩, h1, h2⟩ := st
    obtain ⟨o1, e1, d1⟩ := isit_obj h1
    obtain ⟨o2, e2, d2⟩ := isit_obj h2
    have e' : d = z ∨ d = TI ∨ d = TO ∨ d = i1 ∨ d = i2 := by simpa using hc
    rcases e' with q | q | q | q | q
    · rw [q]; exact ⟨_, hz, fun v q => nomatch q⟩
    · rw [q]; exact ⟨_, hTI, fun v q => nomatch q⟩
    · rw [q]; exact ⟨_, hTO, fun v q => nomatch q⟩
    · rw [q]; exact ⟨o1, e1, fun v q => by rw [d1] at q; cases q⟩
    · rw [q]; exact ⟨o2, e2, fun v q => by rw [d2] at q; cases q⟩
  keep := fun i h h' st k => by
    obtain ⟨hz, hTI, ⟨x, y, hTO⟩, h1, h2⟩ := st
    exact ⟨k z (by simp) _ hz, k TI (by simp) _ hTI, ⟨x, y, k TO (by simp) _ hTO⟩, h1.at fun o q => k i1 (by simp) o q, h2.at fun o q => k i2 (by simp) o q⟩
  item := by
    intro X hP hw hK hc i pins s σ H E I hf st hg
    subst hP hw hK
    obtain ⟨hz, hTI, ⟨x0, y0, hTO⟩, h1, h2⟩ := st
    obtain ⟨xs, ys, x, y, hqx, hqy, hx, hy⟩ := hg
    obtain ⟨its, rv, p, _⟩ := sqv_of I hqx
    obtain ⟨its2, rv2, p2, _⟩ := sqv_of I hqy
    obtain ⟨u, hu, ru⟩ := rv.get hx
    obtain ⟨u2, hu2, ru2⟩ := rv2.get hy
    have hzl : z < s.heap.objs.size := Heap.lt_size hz
    refine pyNext_item D hz hTI hTO h1 h2 p p2 (x := u) (y := u2) (by simpa using hu) (by simpa using hu2) fun h' z' TO' h1' h2' hT hsz hk => ?_
    refine ⟨_, rfl, letGo_zp (s := { s with heap := h' }) z' fun h'' z'' sb => ?_⟩
    have hT2 : h''.get? s.heap.objs.size = some { cls := .type "tuple", data := .seq #[u, u2] } := (sb.2 _ (Nat.ne_of_gt hzl)).trans hT
    have new : ObjOk X.prog X.w (upd H s.heap.objs.size (.tup [x, y])) h'' s.heap.objs.size (.tup [x, y]) :=
      ⟨by show 2 ≤ sizeLine; decide, [u, u2], .cons ru (.cons ru2 .nil), ⟨_, hT2, rfl, _, rfl⟩⟩
    have I1 : Inv X pins σ (upd H s.heap.objs.size (.tup [x, y])) { s with heap := h'' } :=
      I.turnedNew (t' := s.toks) (ch := [z, TI, TO, i1, i2]) (fun c o hb q => (sb.2 c (fun q' => hb (by simp [q']))).trans (hk c o (fun q' => hb (by simp [q'])) (fun q' => hb (by simp [q'])) (fun q' => hb (by simp [q'])) (fun q' => hb (by simp [q'])) q)) hf (Nat.le_refl _) new
    refine ⟨.ref s.heap.objs.size, _, I1, rfl, ⟨_, x, y, rfl, I.hok.fresh (Nat.le_refl _), rfl, fun l hl => by rw [sqv_inj I hl hqx]; exact hx, fun l hl => by rw [sqv_inj I hl hqy]; exact hy⟩, ⟨z'', ?_, ⟨u, u2, ?_⟩, ?_, ?_⟩, fun c hcm => ?_⟩
    · exact (sb.2 _ D.TIz).trans (hk _ _ D.TIz D.TITO D.TIi1 D.TIi2 hTI)
    · exact (sb.2 _ D.TOz).trans TO'
    · exact h1'.at fun o q => (sb.2 _ D.i1z).trans q
    · exact h2'.at fun o q => (sb.2 _ D.i2z).trans q
    · have hlt : c < s.heap.objs.size := by
        obtain ⟨o1, e1, _⟩ := isit_obj h1
        obtain ⟨o2, e2, _⟩ := isit_obj h2
        have e' : c = z ∨ c = TI ∨ c = TO ∨ c = i1 ∨ c = i2 := by simpa using hcm
        rcases e' with q | q | q | q | q
        · rw [q]; exact hzl
        · rw [q]; exact Heap.lt_size hTI
        · rw [q]; exact Heap.lt_size hTO
        · rw [q]; exact Heap.lt_size e1
        · rw [q]; exact Heap.lt_size e2
      rw [upd_ne (Nat.ne_of_lt hlt)]
      exact (hf c hcm).1
  done := by
    intro X hP hw hK hc i pins s σ H E I hf st hg
    subst hP hw hK
    obtain ⟨hz, hTI, ⟨x0, y0, hTO⟩, h1, h2⟩ := st
    obtain ⟨xs, ys, hqx, hqy, hend⟩ := hg
    obtain ⟨its, rv, p, _⟩ := sqv_of I hqx
    obtain ⟨its2, rv2, p2, _⟩ := sqv_of I hqy
    have l1 := rv.length
    have l2 := rv2.length
    have he : if b then its.toArray[i]? = none ∧ its2.toArray[i]? = none else its.toArray[i]? = none ∨ its2.toArray[i]? = none := by
      cases b with
      | true => exact ⟨by have := hend.1; simp; omega, by have := hend.2; simp; omega⟩
      | false =>
        rcases hend with q | q
        · exact .inl (by simp; omega)
        · exact .inr (by simp; omega)
    exact pyNext_end (I.ok.hd hc) D hz hTI hTO h1 h2 p p2 he fun h' hk => ⟨rfl, I.turnedL (t' := s.toks) (ch := [z, TI, TO, i1, i2]) (fun c o hb q =>
      hk c o (fun q' => hb (by simp [q'])) (fun q' => hb (by simp [q'])) (fun q' => hb (by simp [q'])) (fun q' => hb (by simp [q'])) q) hf⟩
  self := fun A i s Q E st h => pyIter_zp st.1 h
def iZp (b : Bool) (K : PySem.W.Frag) (ta : TA) : TI := fun σ H R => ta σ H fun vs H1 => ∃ κ κ' a c xs ys, vs = [.ref a, .ref c] ∧ SqV κ K H1 a xs ∧ SqV κ' K H1 c ys ∧ R (Itp κ κ' b K a c) H1
theorem zp_go {κ κ' b : Bool} {X : Cx} {pins : List (Addr × Obj)} {σ : L2.St} {H1 : Hp} {s1 : Shared} {a c : Addr} {xs ys : List V} {elts : List Expr} {kk : Nat} {tpos : Pos} {R : It → Hp → Prop} (I1 : Inv X pins σ H1 s1) (hqx : SqV κ X.K H1 a xs) (hqy : SqV κ' X.K H1 c ys) (q : R (Itp κ κ' b X.K a c) H1) :
    wpAny (model X.prog X.w) X.A (call (.type "zip") [.ref a, .ref c] (kwOf b)) (fun v s' => wpAny (model X.prog X.w) X.A (pyIter v) (PIE X pins σ (.Tuple elts kk tpos) R) X.xe s') X.xe s1 := by
  obtain ⟨its, rv, p1, la⟩ := sqv_of I1 hqx
  obtain ⟨its2, rv2, p2, lc⟩ := sqv_of I1 hqy
  refine call_zp p1 p2 fun h' hz hTI hTO h1 h2 hsz hk => pyIter_zp hz ?_
  have I2 : Inv X pins σ H1 { s1 with heap := h' } := I1.kept (t' := s1.toks) hk
  refine ⟨s1.heap.objs.size + 4, [s1.heap.objs.size + 4, s1.heap.objs.size + 2, s1.heap.objs.size + 3, s1.heap.objs.size, s1.heap.objs.size + 1], _, _, H1, rfl, I2, turn_zp (PySem.W.ktu_apart s1.heap.objs.size a c la lc), ⟨hz, hTI, ⟨_, _, hTO⟩, h1, h2⟩, fun d hd => ?_, q⟩
  have e' : d = s1.heap.objs.size + 4 ∨ d = s1.heap.objs.size + 2 ∨ d = s1.heap.objs.size + 3 ∨ d = s1.heap.objs.size ∨ d = s1.heap.objs.size + 1 := by simpa using hd
  have hle : s1.heap.objs.size ≤ d := by
    rcases e' with z | z | z | z | z <;> rw [z] <;> first | exact Nat.le_refl _ | exact Nat.le_add_right _ _
  exact I1.fpOk hle (I1.hok.fresh hle)
theorem pi_zp {X : Cx} {e e2 : Expr} {ta : TA} {p pos tpos : Pos} {elts : List Expr} {kk : Nat} (hg : Gl X "zip") (hm : X.mg "zip" = none) (ha : PA X [e, e2] ta)
    (hs : starEach [e, e2] X.env = (false, eval e X.env) :: starEach [e2] X.env := by rfl) (hpl : (backTo pos (starEach [e2] X.env)).any (·.1) = false := by rfl) :
    PI X (.Tuple elts kk tpos) (.Call (.Name "zip" p) [e, e2] [] pos) (iZp false X.K ta) := by
  refine ⟨fun pins s σ H R I h => ?_⟩
  refine Call_ (ld_blt I hg hm PyProof.Rows.boot_zip (PyProof.Rows.callWith_type1 (thn (ha.run pos pins s σ H _ I h) fun us s1 ⟨vs, H1, I1, r1, q1⟩ => ?_) hs hpl))
  obtain ⟨κ, κ', a, c, xs, ys, ex, hqx, hqy, q⟩ := q1
  subst ex
  cases r1 with
  | cons r rr =>
    cases rr with
    | cons r' rr =>
      cases rr
      cases r
      cases r'
      exact zp_go I1 hqx hqy q
theorem callWith_tk {M : Model} {A : Around} {E : Value → Shared → Prop} {s : Shared} {pos : Pos} {T : String} {args : List (Bool × Sem Value)} {ks : List (Option Str × Sem Value)} {Q : Value → Shared → Prop} (hplain : args.any (·.1) = false) (hkw : ks.any (·.1.isNone) = false)
    (h : wpAny M A (evalArgs (.type T) true args ks) (fun a s₁ => wpAny M A (call (.type T) ([] ++ a.pos) a.kw) Q E s₁) E s) : wpAny M A (callWith pos (.type T) [] args ks) Q E s := by
  unfold callWith
  refine wpAny_bind (wpAny_holding (wpAny_mono h (fun a s₁ h₁ => wpAny_bind (wpAny_standAt ?_)) fun _ _ x => x))
  simp only [hplain, hkw, Bool.or_false]
  exact wpAny_bind (wpAny_pure (wpAny_bind (wpAny_mono h₁ (fun r s₂ hr => wpAny_bind (wpAny_holding (wpAny_point (wpAny_pure hr)))) fun _ _ x => x)))
theorem pi_zpk {X : Cx} {e e2 : Expr} {ta : TA} {p pos tpos cp kp : Pos} {cj : Nat} {elts : List Expr} {kk : Nat} (hg : Gl X "zip") (hm : X.mg "zip" = none) (ha : PA X [e, e2] ta)
    (hs : starEach [e, e2] X.env = (false, eval e X.env) :: starEach [e2] X.env := by rfl) (hpl : (backTo pos (starEach [e2] X.env)).any (·.1) = false := by rfl) :
    PI X (.Tuple elts kk tpos) (.Call (.Name "zip" p) [e, e2] [⟨some "strict", .Constant (.bool true) cj cp, kp⟩] pos) (iZp true X.K ta) := by
  refine ⟨fun pins s σ H R I h => ?_⟩
  refine wpAny_Call_Name_kw (ld_blt I hg hm PyProof.Rows.boot_zip ?_)
  have hp : (backTo pos (starEach [e, e2] X.env)).any (·.1) = false := by rw [hs]; exact hpl
  refine callWith_tk hp rfl (evalArgs_kw2 rfl (thn (ha.run pos pins s σ H _ I h) fun us s1 ⟨vs, H1, I1, r1, q1⟩ => ?_) hs)
  refine thn ((pk_cons (X := X) (nm := some "strict") (kpos := kp) (e := .Constant (.bool true) cj cp) (pe_bl (b := true)) pk_nil).run pos pins s1 σ H1 (fun zs H2 => zs = [.bl true] ∧ H2 = H1) I1 ⟨rfl, rfl⟩) fun ws s2 ⟨zs, H2, I2, r2, ez, eh⟩ => ?_
  subst ez eh
  obtain ⟨κ, κ', a, c, xs, ys, ex, hqx, hqy, q⟩ := q1
  subst ex
  cases r1 with
  | cons r rr =>
    cases rr with
    | cons r' rr =>
      cases rr
      cases r
      cases r'
      cases r2 with
      | cons rb rn =>
        cases rn
        cases rb
        exact zp_go (b := true) I2 hqx hqy q
end CvZ
end
section
set_option Elab.async false
set_option linter.all false
set_option maxRecDepth 100000
set_option maxHeartbeats 1000000
namespace CvZ
open PySem PySem.Spec PyProof.Rows RZ L2
open AutoSeq1 (wpAny_loadPart')
section
variable {prog : Program} {w : World} {A : Around} {E : Value → Shared → Prop} {s : Shared}
theorem en_item {κ : Bool} {e it l : Addr} {i : Nat} {xs : Array Value} {x old : Value} {Q : Value → Shared → Prop} (he : IsEnum s.heap e it i old) (hit : IsIt κ s.heap it l i) (hl : IsSq κ s.heap l xs) (hx : xs[i]? = some x) (hne : e ≠ it)
    (hQ : ∀ h', IsEnumOut h' e it ((i : Int) + 1) x s.heap.objs.size → IsIt κ h' it l (i + 1) → h'.get? s.heap.objs.size = some { cls := .type "tuple", data := .seq #[.int i s.toks, x] } → h'.objs.size = s.heap.objs.size + 1 →
      (∀ b o, b ≠ e → b ≠ it → s.heap.get? b = some o → h'.get? b = some o) → Q (.ref s.heap.objs.size) { s with heap := h', toks := s.toks + 1 }) :
    wpAny (model prog w) A (Builtin.«enumerate.__next__» ⟨[.ref e], []⟩) (fun fin s' => ∃ v, fin = .done (.ret v) ∧ Q v s') E s := by
  obtain ⟨hp, g, d, tk, os⟩ := s
  show wpAny _ _ (field (.ref e) 2 >>= _) _ _ _
  refine wpAny_bind (wpAny_field he rfl (x := .ref it) rfl ?_)
  refine wpAny_bind (next_item hit hl hx fun h1 t1 k1 z1 => ?_)
  replace k1 : Heap.ExtBut it hp h1 := k1
  replace z1 : h1.objs.size = hp.objs.size := z1
  have he1 : IsEnum h1 e it i old := k1 _ _ hne he
  show wpAny _ _ (field (.ref e) 3 >>= _) _ _ ⟨h1, g, d, tk, os⟩
  refine wpAny_bind (wpAny_field he1 rfl (x := rawInt i) rfl ?_)
  show wpAny _ _ (field (.ref e) 4 >>= _) _ _ ⟨h1, g, d, tk, os⟩
  refine wpAny_bind (wpAny_field he1 rfl (x := .none) rfl ?_)
  show wpAny _ _ (mkInt i >>= _) _ _ ⟨h1, g, d, tk, os⟩
  refine wpAny_bind (wpAny_mkInt ?_)
  show wpAny _ _ (setField (.ref e) 3 (rawInt ((i : Int) + 1)) >>= _) _ _ ⟨h1, g, d, tk + 1, os⟩
  refine wpAny_bind (wpAny_setField_rec he1 (by simp) fun h2 he2 k2 => ?_)
  replace k2 : Heap.SameBut e h1 h2 := k2
  replace he2 : IsEnum h2 e it ((i : Int) + 1) old := he2
  show wpAny _ _ (setField (.ref e) 4 .none >>= _) _ _ ⟨h2, g, d, tk + 1, os⟩
  refine wpAny_bind (wpAny_setField_rec he2 (by simp) fun h3 he3 k3 => ?_)
  replace k3 : Heap.SameBut e h2 h3 := k3
  replace he3 : IsEnum h3 e it ((i : Int) + 1) old := he3
  show wpAny _ _ (newTuple [.int i tk, x] >>= _) _ _ ⟨h3, g, d, tk + 1, os⟩
  refine wpAny_bind (wpAny_newTuple ?_)
  have he4 : IsEnum (h3.push { cls := .type "tuple", data := .seq #[.int i tk, x] }) e it ((i : Int) + 1) old := Heap.get?_push_of_some _ he3
  generalize q4 : h3.push { cls := .type "tuple", data := .seq #[.int i tk, x] } = h4 at he4
  have hsz : h3.objs.size = hp.objs.size := by rw [k3.1, k2.1, z1]
  have hel : e < hp.objs.size := Heap.lt_size he
  have ht4 : h4.get? hp.objs.size = some { cls := .type "tuple", data := .seq #[.int i tk, x] } := by rw [← q4, ← hsz]; exact Heap.get?_push_size _ rfl
  have hz4 : h4.objs.size = hp.objs.size + 1 := by rw [← q4, Heap.size_push, hsz]
  have hk4 : ∀ b o, b ≠ e → b ≠ it → hp.get? b = some o → h4.get? b = some o := fun b o hbe hbi hb => by
    rw [← q4]; exact Heap.get?_push_of_some _ (k3.extBut b o hbe (k2.extBut b o hbe (k1 b o hbi hb)))
  have hit4 : IsIt κ h4 it l (i + 1) := by
    rw [← q4]; exact ((t1.ext k2.extBut (Ne.symm hne)).ext k3.extBut (Ne.symm hne)).at fun o z => Heap.get?_push_of_some _ z
  show wpAny _ _ (Builtin.SmallTypes.ownedTupleIsFree (.ref e) >>= _) _ _ ⟨h4, g, d, tk + 1, os⟩
  rw [hsz]
  clear q4 he3 k3 he2 k2 he1 k1 t1 hsz z1 h3 h2 h1
  refine wpAny_bind ?_
  · unfold Builtin.SmallTypes.ownedTupleIsFree
    refine wpAny_bind (wpAny_field he4 rfl (x := .none) rfl (wpAny_pure ?_))
    simp only [if_true]
    refine wpAny_bind (wpAny_rule (wpAny_bind (wpAny_field he4 rfl (x := old) rfl ?_)))
    refine wpAny_bind (wpAny_setField_rec he4 (by simp) fun h5 he5 k5 => ?_)
    replace k5 : Heap.SameBut e h4 h5 := k5
    replace he5 : IsEnum h5 e it ((i : Int) + 1) x := he5
    show wpAny _ _ (Builtin.SmallTypes.ownedTupleHandOut (.ref e) (.ref hp.objs.size) >>= _) _ _ ⟨h5, g, d, tk + 1, os⟩
    refine wpAny_bind ?_
    · unfold Builtin.SmallTypes.ownedTupleHandOut
      refine wpAny_bind (wpAny_setField_rec he5 (by simp) fun h6 he6 k6 => ?_)
      replace k6 : Heap.SameBut e h5 h6 := k6
      replace he6 : IsEnumOut h6 e it ((i : Int) + 1) x hp.objs.size := he6
      refine wpAny_setField_rec he6 (by simp) fun h7 he7 k7 => ?_
      replace k7 : Heap.SameBut e h6 h7 := k7
      replace he7 : IsEnumOut h7 e it ((i : Int) + 1) x hp.objs.size := he7
      refine wpAny_bind (wpAny_letGo (wpAny_pure ⟨_, rfl, hQ h7 he7 ?_ ?_ ?_ ?_⟩))
      · exact ((hit4.ext k5.extBut (Ne.symm hne)).ext k6.extBut (Ne.symm hne)).ext k7.extBut (Ne.symm hne)
      · exact k7.extBut _ _ (Nat.ne_of_gt hel) (k6.extBut _ _ (Nat.ne_of_gt hel) (k5.extBut _ _ (Nat.ne_of_gt hel) ht4))
      · rw [k7.1, k6.1, k5.1, hz4]
      · exact fun b o hbe hbi hb => k7.extBut b o hbe (k6.extBut b o hbe (k5.extBut b o hbe (hk4 b o hbe hbi hb)))
theorem enum_item {κ : Bool} {e it l : Addr} {i : Nat} {xs : Array Value} {x old : Value} {Q : Option Value → Shared → Prop} (he : IsEnum s.heap e it i old) (hit : IsIt κ s.heap it l i) (hl : IsSq κ s.heap l xs) (hx : xs[i]? = some x) (hne : e ≠ it)
    (hQ : ∀ h', IsEnumOut h' e it ((i : Int) + 1) x s.heap.objs.size → IsIt κ h' it l (i + 1) → h'.get? s.heap.objs.size = some { cls := .type "tuple", data := .seq #[.int i s.toks, x] } → h'.objs.size = s.heap.objs.size + 1 →
      (∀ b o, b ≠ e → b ≠ it → s.heap.get? b = some o → h'.get? b = some o) → Q (some (.ref s.heap.objs.size)) { s with heap := h', toks := s.toks + 1 }) : wpAny (model prog w) A (pyNext (.ref e)) Q E s := by
  have hT : s.TypeIs (.ref e) "enumerate" := ⟨_, he, rfl⟩
  unfold pyNext
  exact wpAny_bind (wpAny_attempt (wpAny_callSpecial?_slot (name := Str.ofString "__next__") hT F.slot_enumerate_next
    (wpAny_call_entry F.slot_enumerate_next hT F.entry_enumerate_next
      (en_item he hit hl hx hne fun h' a b c d k => wpAny_pure (hQ h' a b c d k)) (F.args_enumerate_next_1 _))))
theorem enum_end {κ : Bool} {e it l : Addr} {i : Nat} {xs : Array Value} {old : Value} {Q : Option Value → Shared → Prop} (hh : A.handled = none) (he : IsEnum s.heap e it i old) (hit : IsIt κ s.heap it l i) (hl : IsSq κ s.heap l xs) (hx : xs[i]? = none)
    (hQ : ∀ h', Heap.ExtBut it s.heap h' → Q none { s with heap := h' }) : wpAny (model prog w) A (pyNext (.ref e)) Q E s := by
  have hT : s.TypeIs (.ref e) "enumerate" := ⟨_, he, rfl⟩
  unfold pyNext
  refine wpAny_bind (wpAny_attempt (wpAny_callSpecial?_slot (name := Str.ofString "__next__") hT F.slot_enumerate_next
    (wpAny_call_entry F.slot_enumerate_next hT F.entry_enumerate_next ?_ (F.args_enumerate_next_1 _))))
  show wpAny _ _ (field (.ref e) 2 >>= _) _ _ _
  refine wpAny_bind (wpAny_field he rfl (x := .ref it) rfl (wpAny_bind (next_end hh hit hl hx fun h' x he' hx' => ?_)))
  obtain ⟨o, ho, hc⟩ := hx'
  exact wpAny_bind (wpAny_isInstance (T := "StopIteration") (b := true) ⟨o, ho, hc⟩ isSubtype_stop (wpAny_pure (hQ _ he')))
end
theorem new_enum (κ : Bool) (l : Addr) (xs : Array Value) (o : Obj) :
    Meets (Builtin.«enumerate.__new__» ⟨[.type "enumerate", .ref l], []⟩) (fun _ R s => s.heap.get? l = some o ∧ (o.cls = .type "list" ∨ o.cls = .type "tuple") ∧ IsSq κ s.heap l xs ∧
      R (.ok (.ret (.ref (s.heap.push (itObj κ l)).objs.size)))
        { s with heap := (s.heap.push (itObj κ l)).push { cls := .type "enumerate", data := .fields #[.none, .bool false, .ref s.heap.objs.size, rawInt 0, .none, .none] } }) :=
  .of_wp fun prog w A R s h => by
    obtain ⟨hp, g, d, tk, os⟩ := s; obtain ⟨hl, hk, hq, h⟩ := h
    have hsub := sub_enumerate
    have hL : IsSq κ (Shared.heap ⟨hp, g, d, tk, os⟩) l xs := hq
    obtain ⟨c, dct, dt, sl⟩ := o
    rcases hk with hk | hk
    all_goals
      simp only at hk
      subst hk
      wp_walk using wpAny_loadPart' hl
      refine wpAny_stack_any fun st => wpAny_pure ?_
      split
      · rename_i c _ _ _ _ _
        cases (c == Value.type "enumerate")
        · wp_walk using wpAny_loadPart' hl, iter_sq hL
          exact ⟨_, rfl, h⟩
        · wp_walk using wpAny_loadPart' hl, iter_sq hL
          exact ⟨_, rfl, h⟩
      · wp_walk using wpAny_loadPart' hl, iter_sq hL
        exact ⟨_, rfl, h⟩
section
variable {prog : Program} {w : World} {A : Around} {E : Value → Shared → Prop} {s : Shared}
theorem call_enum {κ : Bool} {l : Addr} {xs : Array Value} {Q : Value → Shared → Prop} (hq : IsSq κ s.heap l xs)
    (h : ∀ h', IsEnum h' (s.heap.objs.size + 1) s.heap.objs.size 0 .none → IsIt κ h' s.heap.objs.size l 0 → h'.objs.size = s.heap.objs.size + 2 →
      (∀ b o, s.heap.get? b = some o → h'.get? b = some o) → Q (.ref (s.heap.objs.size + 1)) { s with heap := h' }) : wpAny (model prog w) A (call (.type "enumerate") [.ref l]) Q E s := by
  obtain ⟨o, ho, hk⟩ : ∃ o, s.heap.get? l = some o ∧ (o.cls = .type "list" ∨ o.cls = .type "tuple") := by
    cases κ with
    | true => obtain ⟨o, h1, h2, _⟩ := (show s.heap.IsList l xs from hq); exact ⟨o, h1, .inl h2⟩
    | false => obtain ⟨o, h1, h2, _⟩ := (show s.heap.IsTuple l xs from hq); exact ⟨o, h1, .inr h2⟩
  refine callType_new F.called_enumerate (by decide) (F.typeCall_enumerate_1 _) (F.newCall_enumerate_1 _) (fun obj => F.args_object_init_2 obj _) F.entry_enumerate_new (new_enum κ l xs o) ⟨ho, hk, hq, ?_⟩
  have hz : (s.heap.push (itObj κ l)).objs.size = s.heap.objs.size + 1 := Heap.size_push ..
  have fr : (itObj κ l).isFreed = false := by cases κ <;> rfl
  show _ ∧ _
  have he : IsEnum ((s.heap.push (itObj κ l)).push { cls := .type "enumerate", data := .fields #[.none, .bool false, .ref s.heap.objs.size, rawInt 0, .none, .none] }) (s.heap.objs.size + 1) s.heap.objs.size 0 .none := by
    have := Heap.get?_push_size (s.heap.push (itObj κ l)) (o := { cls := .type "enumerate", data := .fields #[.none, .bool false, .ref s.heap.objs.size, rawInt 0, .none, .none] }) rfl
    rw [hz] at this; exact this
  rw [hz]
  have g1 : ((s.heap.push (itObj κ l)).push { cls := .type "enumerate", data := .fields #[.none, .bool false, .ref s.heap.objs.size, rawInt 0, .none, .none] }).get? s.heap.objs.size = some (itObj κ l) := Heap.get?_push_of_some _ (Heap.get?_push_size _ fr)
  exact ⟨⟨_, he, rfl⟩, h _ he (by cases κ <;> exact ⟨_, g1, rfl, rfl⟩) (by rw [Heap.size_push, hz]) fun b o x => Heap.get?_push_of_some _ (Heap.get?_push_of_some _ x)⟩
end
def Iten (κ : Bool) (K : PySem.W.Frag) (a : Addr) : It :=
  ⟨fun i H => ∃ (xs : List V) (x : V), SqV κ K H a xs ∧ xs[i]? = some x, fun i H v H' => ∃ T x, v = .ref T ∧ H T = none ∧ H' = upd H T (.tup [.int (i : Nat), x]) ∧ ∀ xs, SqV κ K H a xs → xs[i]? = some x, fun i H => ∃ xs : List V, SqV κ K H a xs ∧ xs.length ≤ i⟩
theorem turn_en {κ : Bool} {P : Program} {w : World} {K : PySem.W.Frag} {elts : List Expr} {kk : Nat} {tpos : Pos} (a e it : Addr) :
    Turn P w K (.Tuple elts kk tpos) (Iten κ K a) [e, it] e (fun i h => (∃ old, IsEnum h e it ((i : Nat) : Int) old) ∧ IsIt κ h it a i ∧ e ≠ it) where
  mem := by simp
  obj := fun i h st b hb => by
    obtain ⟨⟨old, he⟩, hi, _⟩ := st
    obtain ⟨o, ho, hd⟩ := isit_obj hi
    have e' : b = e ∨ b = it := by simpa using hb
    rcases e' with z | z
    · rw [z]; exact ⟨_, he, fun v q => nomatch q⟩
    · rw [z]; exact ⟨o, ho, fun v q => by rw [hd] at q; cases q⟩
  keep := fun i h h' st k => let ⟨⟨old, he⟩, hi, hne⟩ := st; ⟨⟨old, k e (by simp) _ he⟩, hi.at fun o q => k it (by simp) o q, hne⟩
  item := by
    intro X hP hw hK hc i pins s σ H E I hf st hg
    subst hP hw hK
    obtain ⟨⟨old, he⟩, hit, hne⟩ := st
    obtain ⟨xs, x, hq, hx⟩ := hg
    obtain ⟨its, rv, p, _⟩ := sqv_of I hq
    obtain ⟨u, hu, ru⟩ := rv.get hx
    have hel : e < s.heap.objs.size := Heap.lt_size he
    have hil : it < s.heap.objs.size := by obtain ⟨_, q, _⟩ := isit_obj hit; exact Heap.lt_size q
    refine enum_item he hit p (x := u) (by simpa using hu) hne fun h' ho hit' hT hsz hk => ?_
    refine ⟨_, rfl, wpAny_letOwnedTupleGo_enum (s := { s with heap := h', toks := s.toks + 1 }) ho fun h'' he' sb => ?_⟩
    have hT2 : h''.get? s.heap.objs.size = some { cls := .type "tuple", data := .seq #[.int i s.toks, u] } := (sb.2 _ (Nat.ne_of_gt hel)).trans hT
    have new : ObjOk X.prog X.w (upd H s.heap.objs.size (.tup [.int (i : Nat), x])) h'' s.heap.objs.size (.tup [.int (i : Nat), x]) :=
      ⟨by show 2 ≤ sizeLine; decide, [.int i s.toks, u], .cons ⟨_, rfl⟩ (.cons ru .nil), ⟨_, hT2, rfl, _, rfl⟩⟩
    have I1 : Inv X pins σ (upd H s.heap.objs.size (.tup [.int (i : Nat), x])) { s with heap := h'', toks := s.toks + 1 } :=
      I.turnedNew (ch := [e, it]) (fun b ob hb q => (sb.2 b (fun z => hb (by simp [z]))).trans (hk b ob (fun z => hb (by simp [z])) (fun z => hb (by simp [z])) q)) hf (Nat.le_refl _) new
    refine ⟨.ref s.heap.objs.size, _, I1, rfl, ⟨_, x, rfl, I.hok.fresh (Nat.le_refl _), rfl, fun ys hy => by rw [sqv_inj I hy hq]; exact hx⟩, ⟨⟨u, ?_⟩, hit'.at fun o q => (sb.2 it (Ne.symm hne)).trans q, hne⟩, fun b hb => ?_⟩
    · have e1 : ((i + 1 : Nat) : Int) = (i : Int) + 1 := by omega
      rw [e1]; exact he'
    · have hb' : b < s.heap.objs.size := by
        have e' : b = e ∨ b = it := by simpa using hb
        rcases e' with z | z
        · rw [z]; exact hel
        · rw [z]; exact hil
      rw [upd_ne (Nat.ne_of_lt hb')]
      exact (hf b hb).1
  done := by
    intro X hP hw hK hc i pins s σ H E I hf st hg
    subst hP hw hK
    obtain ⟨⟨old, he⟩, hit, hne⟩ := st
    obtain ⟨xs, hq, hx⟩ := hg
    obtain ⟨its, rv, p, _⟩ := sqv_of I hq
    obtain ⟨f0, f1, f2, f3, f4, f5⟩ := hf it (by simp)
    have hl := rv.length
    exact enum_end (I.ok.hd hc) he hit p (by simp; omega) fun h' eb => ⟨rfl, I.turned (t' := s.toks) (fun b o hb q => eb b o hb q) f0 f1 f3 f4 f5⟩
  self := fun A i s Q E st h => let ⟨⟨_, he⟩, _⟩ := st; wpAny_pyIter_enum he h
def iEn (K : PySem.W.Frag) (ta : TA) : TI := fun σ H R => ta σ H fun vs H1 => ∃ κ a xs, vs = [.ref a] ∧ SqV κ K H1 a xs ∧ R (Iten κ K a) H1
theorem pi_en {X : Cx} {e : Expr} {ta : TA} {p pos tpos : Pos} {elts : List Expr} {kk : Nat} (hg : Gl X "enumerate") (hm : X.mg "enumerate" = none) (ha : PA X [e] ta) (hs : starEach [e] X.env = [(false, eval e X.env)] := by rfl) :
    PI X (.Tuple elts kk tpos) (.Call (.Name "enumerate" p) [e] [] pos) (iEn X.K ta) := by
  refine ⟨fun pins s σ H R I h => ?_⟩
  refine Call_ (ld_blt I hg hm boot_enumerate (PyProof.Rows.callWith_type1 (thn (ha.run pos pins s σ H _ I h) fun us s1 ⟨vs, H1, I1, r1, q1⟩ => ?_) hs rfl))
  obtain ⟨κ, a, xs, ex, hq, q⟩ := q1
  subst ex
  cases r1 with
  | cons r rr =>
    cases rr
    cases r
    obtain ⟨its, rv, p', _⟩ := sqv_of I1 hq
    refine call_enum p' fun h' he hit hsz hk => wpAny_pyIter_enum he ?_
    have I2 : Inv X pins σ H1 { s1 with heap := h' } := I1.kept (t' := s1.toks) hk
    refine ⟨s1.heap.objs.size + 1, [s1.heap.objs.size + 1, s1.heap.objs.size], _, _, H1, rfl, I2, turn_en a (s1.heap.objs.size + 1) s1.heap.objs.size, ⟨⟨.none, he⟩, hit, Nat.succ_ne_self _⟩, fun b hb => ?_, q⟩
    have e' : b = s1.heap.objs.size + 1 ∨ b = s1.heap.objs.size := by simpa using hb
    have hle : s1.heap.objs.size ≤ b := by rcases e' with z | z <;> rw [z] <;> first | exact Nat.le_refl _ | exact Nat.le_add_right _ _
    exact I1.fpOk hle (I1.hok.fresh hle)
end CvZ
end
section
set_option Elab.async false
set_option linter.all false
set_option maxRecDepth 100000
set_option maxHeartbeats 1000000
namespace Cv
open PySem PySem.Spec PyProof.Rows L2
section
variable {W : Wd} {F : Cal} {lw : Lw} {sc : Sc} {E : WX} {X : Cx} {σ : L2.St} {H : Hp} {g : Gh} {st : Sta} {D : Ends} {tg : Expr}
theorem snd_setLc {i : Nat} {x : Str} {py spos : Pos} {elt tg iter : Expr} {ifs : List Expr} {scope : Scope} {pos : Pos} {it : Ite} {t : Tg} {f q : Ex} {own : List (Str × Nat)} (m : Md) (hN : sc.N[i]? = some x) (hl : sc.names.lookup x = some .local)
    (hln : (py.line == pos.line) = true) (hno : (scope.names.any fun (n, k) => n == x && (k == .local || k == .cell)) = false) (hw : ∀ i ∈ t.ixs, i ∈ own.map (·.2)) (hf : ∀ env x, foldedSetIterable iter env x = pure x)
    (hi : SndI F lw sc tg iter it) (ok : blkF sc scope own = true) (hg : SndG F lw ⟨scope.names, sc.N, false⟩ tg t) (hq : SndQ F lw ⟨scope.names, sc.N, false⟩ ifs q) (he : Snd F lw ⟨scope.names, sc.N, false⟩ elt f) (hk : sc.body = true) :
    SndS F lw sc (.Assign [.Name x py] (.ListComp elt [⟨tg, iter, ifs, 0⟩] scope pos) spos) (asgS (.one i) (lcE m t (own.map (·.2)) it q f)) := fun W E X c => by
  have hl' := (c.so x _ hl).1 (by decide)
  refine ps_imp (ps_setLc c.calm c.nd (by rw [c.na]; exact hN) hl' (sw_true (c.kd hk) hl' hln hno) (hi W E X c) (blkF_ok c ok) (fun s H C cl fp => hg W noW _ c.blk) (fun s H C cl fp => hq W noW _ c.blk) (fun s H C cl fp => he W noW _ c.blk) (hf _)) fun D σ H q => ?_
  obtain ⟨g, st, I, q⟩ := q
  refine tlc (tg := tg) hw (fun _ _ _ y => y) ⟨g, st, I, PostS.bind I.sok q fun g1 st1 d v H1 I1 e1 r1 q1 => q1.nx (I1.setE r1)⟩
theorem snd_setLcC {i : Nat} {x : Str} {py spos : Pos} {elt : Expr} {gs : List Comprehension} {scope : Scope} {pos : Pos} {f : Ex} (hN : sc.N[i]? = some x) (hl : sc.names.lookup x = some .cell) (h : Snd F lw sc (.ListComp elt gs scope pos) f) :
    SndS F lw sc (.Assign [.Name x py] (.ListComp elt gs scope pos) spos) (asgS (.one i) f) := fun W E X c => by
  have hl' := (c.so x _ hl).1 (by decide)
  have hb : locB sc x = true := by unfold locB; rw [hl]
  have hk : (X.env.kindOf x == some NameKind.local) = false := by
    show (X.env.scope.names.lookup x == some NameKind.local) = false
    rw [hl']; rfl
  refine ps_imp (ps_set c.nd (by rw [c.na]; exact hN) (loc_of c hb).1 (h W E X c) ?_ (loc_of c hb).2) fun D σ H ⟨g, st, I, q⟩ => ⟨g, st, I, PostS.bind I.sok q fun g1 st1 d v H1 I1 e1 r1 q1 => q1.nx (I1.setE r1)⟩
  unfold swapsWith
  simp only [hk, Bool.and_false, Bool.false_and]

theorem RLs.length : ∀ {ds : List DV} {vs : List V}, RLs W g H ds vs → vs.length = ds.length
  | [], vs, h => by have h : vs = [] := h; subst h; rfl
  | d :: ds, vs, h => by
    obtain ⟨v, r, e, _, h2⟩ := h
    subst e
    simp [RLs.length h2]
theorem any_star : ∀ {es : List Expr}, es.all noStar = true → (es.any fun | .Starred .. => true | _ => false) = false
  | [], _ => rfl
  | e :: es, h => by
    rw [List.all_cons, Bool.and_eq_true] at h
    rw [List.any_cons, any_star h.2, Bool.or_false]
    have h1 := h.1
    cases e <;> first | rfl | cases h1
theorem swapped2 {x y : Str} {px py kp : Pos} {kt k2 : Nat} {a b : Expr} {p2 : Pos} {env : Env} (hk : env.scope.kind = .function) (hx : env.scope.names.lookup x = some .local) (hy : env.scope.names.lookup y = some .local)
    (hs : (noStar a && noStar b) = true) (hl : (py.line == px.line) = true) (hxy : (y == x) = false) (hf : [a, b].all (foldedForSure 8) = false) (hc : [a, b].all (constantsAlone 8) = false) :
    swappedStores [.Tuple [.Name x px, .Name y py] kt kp] (.Tuple [a, b] k2 p2) env = pure (some [x, y]) := by
  have hbk : env.blockKind = .function := by unfold Env.blockKind; rw [hk]; rfl
  have kx : (env.kindOf x == some NameKind.local) = true := by show (env.scope.names.lookup x == _) = true; rw [hx]; rfl
  have ky : (env.kindOf y == some NameKind.local) = true := by show (env.scope.names.lookup y == _) = true; rw [hy]; rfl
  have h2 : (env.kindOf y == some NameKind.local && py.line == px.line) = true := by rw [ky]; simpa using hl
  have h1 : (env.kindOf x == some NameKind.local && px.line == px.line) = true := by rw [kx]; simp
  rw [Bool.and_eq_true] at hs
  have e2 : ([x, y].eraseDups.length != [x, y].length) = false := by
    have : [x, y].eraseDups = [x, y] := by simp [List.eraseDups_cons, hxy]
    rw [this]
    rfl
  unfold swappedStores
  simp only [hbk]
  refine (if_neg Bool.false_ne_true).trans ?_
  refine (if_neg (Bool.eq_false_iff.mp (any_star (es := [a, b]) (by simp [hs.1, hs.2])))).trans ?_
  simp only [List.head?_cons, Option.map_some, Option.getD_some, Expr.pos, List.filterMap_cons, List.filterMap_nil, h1, h2, if_true, e2, hf, hc]
  rfl
theorem snd_par2 {x y : Str} {px py kp pos : Pos} {kt k2 : Nat} {a b : Expr} {p2 : Pos} {i j : Nat} {fa fb : Ex} (hk : sc.body = true) (hi : sc.N[i]? = some x) (hj : sc.N[j]? = some y) (hij : i ≠ j) (hx : sc.names.lookup x = some .local) (hy : sc.names.lookup y = some .local)
    (hs : (noStar a && noStar b) = true) (hl : (py.line == px.line) = true) (hxy : (y == x) = false) (hf : [a, b].all (foldedForSure 8) = false) (hc : [a, b].all (constantsAlone 8) = false) (ha : SndL F lw sc [a, b] (evs [fa, fb])) :
    SndS F lw sc (.Assign [.Tuple [.Name x px, .Name y py] kt kp] (.Tuple [a, b] k2 p2) pos) (parS [i, j] [fa, fb]) := fun W E X c => by
  have hx' := (c.so x _ hx).1 (by decide)
  have hy' := (c.so y _ hy).1 (by decide)
  refine ps_imp (ps_par c.calm c.nd (by rw [c.na]; exact hi) (by rw [c.na]; exact hj) hij hx' hy' (ha W E X c) (swapped2 (c.kd hk) hx' hy' hs hl hxy hf hc)) fun D σ H ⟨g, st, I, q⟩ => ⟨g, st, I, PostS.bind I.sok q fun g1 st1 ds vs H1 I1 e1 r1 q1 => ?_⟩
  have ln := r1.length
  match ds, q1, r1 with
  | [], q1, _ => exact q1.elim
  | [d], q1, _ => exact q1.elim
  | [d, d'], q1, r1 =>
    obtain ⟨v, _, rfl, h1, u, _, rfl, h2, h3⟩ := r1
    have h3 : _ = [] := h3
    subst h3
    exact ⟨v, u, rfl, q1.nx ((I1.setE h1).setE h2)⟩
  | _ :: _ :: _ :: _, q1, _ => exact q1.elim
theorem swapped3 {x y z : Str} {px py pz kp : Pos} {kt k2 : Nat} {a b d : Expr} {p2 : Pos} {env : Env} (hk : env.scope.kind = .function) (hx : env.scope.names.lookup x = some .local) (hy : env.scope.names.lookup y = some .local) (hz : env.scope.names.lookup z = some .local)
    (hs : (noStar a && (noStar b && noStar d)) = true) (hl : (py.line == px.line) = true) (hl2 : (pz.line == px.line) = true) (hxy : ([x, y, z].eraseDups.length != 3) = false) (hf : [a, b, d].all (foldedForSure 8) = false) (hc : [a, b, d].all (constantsAlone 8) = false) :
    swappedStores [.Tuple [.Name x px, .Name y py, .Name z pz] kt kp] (.Tuple [a, b, d] k2 p2) env = pure (some [x, y, z]) := by
  have hbk : env.blockKind = .function := by unfold Env.blockKind; rw [hk]; rfl
  have kx : (env.kindOf x == some NameKind.local) = true := by show (env.scope.names.lookup x == _) = true; rw [hx]; rfl
  have ky : (env.kindOf y == some NameKind.local) = true := by show (env.scope.names.lookup y == _) = true; rw [hy]; rfl
  have kz : (env.kindOf z == some NameKind.local) = true := by show (env.scope.names.lookup z == _) = true; rw [hz]; rfl
  have h1 : (env.kindOf x == some NameKind.local && px.line == px.line) = true := by rw [kx]; simp
  have h2 : (env.kindOf y == some NameKind.local && py.line == px.line) = true := by rw [ky]; simpa using hl
  have h3 : (env.kindOf z == some NameKind.local && pz.line == px.line) = true := by rw [kz]; simpa using hl2
  rw [Bool.and_eq_true, Bool.and_eq_true] at hs
  have hxy' : ([x, y, z].eraseDups.length != [x, y, z].length) = false := hxy
  unfold swappedStores
  simp only [hbk]
  refine (if_neg Bool.false_ne_true).trans ?_
  refine (if_neg (Bool.eq_false_iff.mp (any_star (es := [a, b, d]) (by simp [hs.1, hs.2.1, hs.2.2])))).trans ?_
  simp only [List.head?_cons, Option.map_some, Option.getD_some, Expr.pos, List.filterMap_cons, List.filterMap_nil, h1, h2, h3, if_true, hxy', hf, hc]
  rfl
theorem snd_par3 {x y z : Str} {px py pz kp pos : Pos} {kt k2 : Nat} {a b d : Expr} {p2 : Pos} {i j l : Nat} {fa fb fd : Ex} (hk : sc.body = true) (hi : sc.N[i]? = some x) (hj : sc.N[j]? = some y) (hl : sc.N[l]? = some z)
    (hij : i ≠ j) (hil : i ≠ l) (hjl : j ≠ l) (hx : sc.names.lookup x = some .local) (hy : sc.names.lookup y = some .local) (hz : sc.names.lookup z = some .local)
    (hs : (noStar a && (noStar b && noStar d)) = true) (hl1 : (py.line == px.line) = true) (hl2 : (pz.line == px.line) = true) (hxy : ([x, y, z].eraseDups.length != 3) = false) (hf : [a, b, d].all (foldedForSure 8) = false) (hc : [a, b, d].all (constantsAlone 8) = false)
    (ha : SndL F lw sc [a, b, d] (evs [fa, fb, fd])) : SndS F lw sc (.Assign [.Tuple [.Name x px, .Name y py, .Name z pz] kt kp] (.Tuple [a, b, d] k2 p2) pos) (parS [i, j, l] [fa, fb, fd]) := fun W E X c => by
  have hx' := (c.so x _ hx).1 (by decide)
  have hy' := (c.so y _ hy).1 (by decide)
  have hz' := (c.so z _ hz).1 (by decide)
  refine ps_imp (ps_par3 c.calm c.nd (by rw [c.na]; exact hi) (by rw [c.na]; exact hj) (by rw [c.na]; exact hl) hij hil hjl hx' hy' hz' (ha W E X c) (swapped3 (c.kd hk) hx' hy' hz' hs hl1 hl2 hxy hf hc)) fun D σ H ⟨g, st, I, q⟩ => ⟨g, st, I, PostS.bind I.sok q fun g1 st1 ds vs H1 I1 e1 r1 q1 => ?_⟩
  match ds, q1, r1 with
  | [], q1, _ => exact q1.elim
  | [d], q1, _ => exact q1.elim
  | [d, d'], q1, _ => exact q1.elim
  | [d, d', d''], q1, r1 =>
    obtain ⟨v, _, rfl, h1, u, _, rfl, h2, w, _, rfl, h3, h4⟩ := r1
    have h4 : _ = [] := h4
    subst h4
    exact ⟨v, u, w, rfl, q1.nx (((I1.setE h1).setE h2).setE h3)⟩
  | _ :: _ :: _ :: _ :: _, q1, _ => exact q1.elim
def TGl (W : Wd) (is : List Nat) : TGs := fun vs σ H Q => ∃ g st ds, SI W g st σ H ∧ RLs W g H ds vs ∧ match setEs is ds st.env with
  | some env => ∀ σ', SI W g { st with env := env } σ' H → Q σ' H
  | none => False
theorem pgs_namesL (c : Cok W F lw sc E X) : ∀ {es : List Expr} {is : List Nat}, namesOk sc es is = true → PGs X es (TGl W is)
  | [], [], _ => pgs_imp pgs_nil fun vs σ H Q ⟨g, st, ds, I, r, q⟩ => by
    cases ds with
    | nil => exact ⟨r, q σ I⟩
    | cons d ds => exact q.elim
  | [], _ :: _, h => by cases h
  | e :: es, is, h => by
    obtain ⟨x, p, i, js, rfl, rfl, ha, hb, h'⟩ := namesOk_cons h
    have e : ∀ env, (assignEach (.Name x p :: es) env).map (·.2) = assign (.Name x p) env :: (assignEach es env).map (·.2) := fun _ => rfl
    refine pgs_imp (pgs_cons (pg_name c.nd (by rw [c.na]; exact ha) (loc_of c hb).1 (loc_of c hb).2) (pgs_namesL c h') (e _)) fun vs σ H Q ⟨g, st, ds, I, r, q⟩ => ?_
    cases ds with
    | nil => exact q.elim
    | cons d ds =>
      obtain ⟨v, vr, e1, h1, h2⟩ := r
      exact ⟨v, vr, e1, g, _, ds, I.setE h1, h2, q⟩
theorem snd_parT {ts es : List Expr} {is : List Nat} {fs : List Ex} {k k2 : Nat} {p p2 pos : Pos} (h : namesOk sc ts is = true) (hw : ∀ W E X, Cok W F lw sc E X → swappedStores [.Tuple ts k p] (.Tuple es k2 p2) X.env = pure none) (hz : is.length ≤ 1000) (ha : SndL F lw sc es (evs fs)) :
    SndS F lw sc (.Assign [.Tuple ts k p] (.Tuple es k2 p2) pos) (parS is fs) := fun W E X c => by
  obtain ⟨h1, h2, h3⟩ := assign_names (env := X.env) h
  refine ps_imp (ps_asg (pe_tup (ha W E X c)) (pg_tup c.calm (pgs_namesL (W := W) c h) h1 h2) rfl (hw W E X c) rfl) fun D σ H ⟨g, st, I, q⟩ => ⟨g, st, I, PostS.bind I.sok q fun g1 st1 ds vs H1 I1 e1 r1 q1 => ?_⟩
  have hlen : ∀ {is : List Nat} {ds : List DV} {e e' : List (Option DV)}, setEs is ds e = some e' → ds.length = is.length := by
    intro is
    induction is with
    | nil => intro ds e e' z; cases ds <;> first | rfl | cases z
    | cons i is ih => intro ds e e' z; cases ds with
      | nil => cases z
      | cons d ds => simp [ih z]
  cases hs : setEs is ds st1.env with
  | none => rw [hs] at q1; exact q1.elim
  | some env =>
    rw [hs] at q1
    have l1 := hlen hs
    have lv := r1.length
    refine ⟨Nat.le_trans (by omega : vs.length ≤ 1000) (by decide), fun pp hp => ⟨pp, vs, rfl, .inl (.inl upd_same), by rw [lv, l1, h3], ?_⟩⟩
    have I2 := I1.touch (u := .tup vs) (I1.off hp)
    have e2 : Ext g1 H1 g1 (upd H1 pp (.tup vs)) := (Ext.refl _ _).touch hp
    refine ⟨g1, st1, ds, I2, r1.ext e2 I1.sok, ?_⟩
    rw [hs]
    exact fun σ' I' => (q1.mono I1.sok e2).nx I'

theorem mergeK_nd : ∀ (more kvs : List (Key × V)), (more.map (·.1)).Nodup → (∀ k ∈ more.map (·.1), k ∉ kvs.map (·.1)) → mergeK kvs more = kvs ++ more
  | [], kvs, _, _ => by simp [mergeK]
  | p :: r, kvs, nd, hd => by
    have hn : valV kvs p.1 = none := by
      have hx : p.1 ∉ kvs.map (·.1) := hd p.1 (by simp)
      unfold valV
      rw [List.find?_eq_none.mpr fun kv hkv => by
        simp only [decide_eq_true_eq]
        exact fun z => hx (z ▸ List.mem_map_of_mem hkv)]
      rfl
    show mergeK (putK kvs p.1 p.2) r = _
    rw [putK_new _ hn]
    rw [List.map_cons, List.nodup_cons] at nd
    rw [mergeK_nd r _ nd.2 fun k hk => ?_]
    · simp
    · rw [List.map_append, List.mem_append]
      rintro (z | z)
      · exact hd k (by simp [hk]) z
      · simp at z
        subst z
        exact nd.1 hk
def keyC : Expr → Option Key
  | .Constant (.str x) _ _ => some (.inr x)
  | .Constant (.int i) _ _ => some (.inl i)
  | _ => none
theorem pe_key {X : Cx} {e : Expr} {k : Key} (h : keyC e = some k) : PE X e (tC (kV k)) := by
  cases e <;> try (cases h; done)
  rename_i cst j p
  cases cst <;> cases h
  · exact pe_int
  · exact pe_str
def SndD (F : Cal) (lw : Lw) (sc : Sc) (keys : List (Option Expr)) (vals : List Expr) (ks : List Key) (fs : List Ex) : Prop := ∀ W E X, Cok W F lw sc E X → ∀ pos, PPs X pos keys vals ((ks.zip fs).map fun kf => (tC (kV kf.1), TEv W E kf.2))
theorem sndD_nil : SndD F lw sc [] [] [] [] := fun W E X c pos => pps_nil
theorem sndD_cons {ke ve : Expr} {keys : List (Option Expr)} {vals : List Expr} {k : Key} {ks : List Key} {f : Ex} {fs : List Ex} (hk : keyC ke = some k) (hv : Snd F lw sc ve f) (hr : SndD F lw sc keys vals ks fs) : SndD F lw sc (some ke :: keys) (ve :: vals) (k :: ks) (f :: fs) :=
  fun W E X c pos => pps_cons (pe_key hk) (hv W E X c) (hr W E X c pos)
theorem tpairs {Q : List V → Hp → Prop} {R : List (V × V) → Hp → Prop} : ∀ {ks : List Key} {fs : List Ex} {g : Gh} {st : Sta} {H : Hp}, ks.length = fs.length → SI W g st σ H → Post W E σ (RVs W) g H (conses fs st) Q →
    (∀ vs H2, vs.length = ks.length → Q vs H2 → R ((ks.zip vs).map fun kv => (kV kv.1, kv.2)) H2) → tPairs ((ks.zip fs).map fun kf => (tC (kV kf.1), TEv W E kf.2)) σ H R
  | [], [], g, st, H, _, I, q, h => h [] _ rfl (q.ok I (by simp [RVs]))
  | k :: ks, f :: fs, g, st, H, hl, I, q, h => by
    refine ⟨g, st, I, Post.out I.sok q fun g1 st1 d v H1 I1 e1 r1 q1 => ?_⟩
    have q2 : Post W E σ (RVs W) g1 H1 (conses fs st1) fun vs H2 => Q (v :: vs) H2 := Post.bind I1.sok q1 fun g2 st2 ds vs H2 I2 e2 r2 q2 => q2.ok I2 (by simp only [RVs]; exact ⟨v, vs, rfl, r1.ext e2 I1.sok, r2⟩)
    exact tpairs (ks := ks) (by simpa using hl) I1 q2 fun vs H2 hv z => h (v :: vs) H2 (by simp [hv]) z
  | [], _ :: _, _, _, _, h, _, _, _ => by cases h
  | _ :: _, [], _, _, _, h, _, _, _ => by cases h
end
end Cv
end
section
set_option Elab.async false
set_option linter.all false
set_option maxRecDepth 100000
set_option maxHeartbeats 1000000
namespace Cv
open PySem PySem.Spec PyProof.Rows L2 CvZ
section
variable {W : Wd} {F : Cal} {lw : Lw} {sc : Sc} {E : WX} {X : Cx} {σ : L2.St} {H : Hp} {g : Gh} {st : Sta} {D : Ends} {tg : Expr}
theorem map_fst_zip {α β : Type} : ∀ {ks : List α} {vs : List β}, vs.length = ks.length → (ks.zip vs).map (·.1) = ks
  | [], _, _ => by simp
  | k :: ks, [], h => by simp at h
  | k :: ks, v :: vs, h => by simp [map_fst_zip (ks := ks) (vs := vs) (by simpa using h)]
theorem map_snd_zip {α β : Type} : ∀ {ks : List α} {vs : List β}, vs.length = ks.length → (ks.zip vs).map (·.2) = vs
  | [], [], _ => by simp
  | [], _ :: _, h => by simp at h
  | k :: ks, [], h => by simp at h
  | k :: ks, v :: vs, h => by simp [map_snd_zip (ks := ks) (vs := vs) (by simpa using h)]
theorem Post.bindB {α β γ δ : Type} {rel : Gh → Hp → α → β → Prop} {rel' : Gh → Hp → γ → δ → Prop} {g0 : Gh} {H0 : Hp} {o : Out Sta α} {k : α → Sta → Out Sta γ} {Q : δ → Hp → Prop} {R : β → Hp → Prop} (sok : ∀ a, g0.S a → H0 a ≠ none) (e0 : Ext g0 H0 g H) (p : Post W E σ rel' g0 H0 (o.bind k) Q)
    (h : ∀ g1 st1 a b H1, SI W g1 st1 σ H1 → Ext g H g1 H1 → rel g1 H1 a b → Post W E σ rel' g0 H0 (k a st1) Q → R b H1) : Post W E σ rel g H o R := by
  cases o with
  | ok a st' => exact fun g1 b H1 I e r => h g1 st' a b H1 I e r p
  | ex x st' => exact Post.mono (o := .ex x st') (rel := rel') (Q := Q) sok p e0
  | bad => exact p
theorem snd_dct {keys : List (Option Expr)} {vals : List Expr} {ks : List Key} {fs : List Ex} {pos : Pos} (m : Md) (h : SndD F lw sc keys vals ks fs) (hall : keys.all (·.isSome) = true) (hl : keys.length = vals.length) (h0 : keys ≠ []) (h15 : keys.length ≤ 15)
    (hlk : ks.length = fs.length) (hk15 : ks.length ≤ 15) (nd : ks.Nodup) : Snd F lw sc (.Dict keys vals pos) (dctE m ks fs) := fun W E X c => by
  refine pe_imp (pe_disp (h W E X c pos) hall hl h0 h15) fun σ H Q ⟨g, st, I, q⟩ p hp => ?_
  have o := I.off hp
  have I1 := I.touch (u := .dK []) o
  unfold dctE at q
  have q1 : Post W E σ (RVs W) g (upd H p (.dK [])) (conses fs st) fun vs H2 => vs.length = ks.length → H2 p = some (.dK []) ∧ Q (.ref p) (upd H2 p (.dK (ks.zip vs))) := by
    have e0 : Ext g H g (upd H p (.dK [])) := (Ext.refl _ _).touch hp
    refine Post.bindB I.sok e0 q fun g2 st2 ds vs H2 I2 e2 r2 q2 hv => ?_
    obtain ⟨o2, h2⟩ := o.step (by rw [upd_same]; simp) e2
    rw [upd_same] at h2
    refine ⟨h2, ?_⟩
    have I3 := I2.touch (u := .dK (ks.zip vs)) o2
    have e3 : Ext g H g2 (upd H2 p (.dK (ks.zip vs))) := by
      have := (e0.trans I.sok e2).touch (u := .dK (ks.zip vs)) hp
      exact this
    refine SI.adopt (E := E) (ob0 := .dct ks ds) I3 o2 trivial (by rw [upd_same]; simp) (fun g' fr => ?_) e3 hp (m := m) I.sok ?_
    · exact ⟨ks.zip vs, upd_same, map_fst_zip hv, by rw [map_snd_zip hv]; exact RVs.fr fr _ (RVs.fr o2.fr _ r2)⟩
    · exact q2
  refine tpairs hlk I1 q1 fun vs H2 hv z => ?_
  obtain ⟨z1, z2⟩ := z hv
  refine ⟨z1, ks.zip vs, rfl, by simp; omega, ?_⟩
  rw [mergeK_nd _ _ (by rw [map_fst_zip hv]; exact nd) (by simp)]
  exact z2

theorem ip_mul : PIp X .Mult (fun x y H Q => ∃ i j, x = .int i ∧ y = .int j ∧ mulOk i j ∧ Q (.int (i * j)) H) := by
  intro pins s σ H x y v u Q I r1 r2 h
  obtain ⟨i, j, rfl, rfl, hm, q⟩ := h
  obtain ⟨t, rfl⟩ := r1
  obtain ⟨t', rfl⟩ := r2
  exact imul_int ⟨.int _, H, I.tok _, ⟨_, rfl⟩, q⟩ (mulOk_ok hm)
def iaddF : DV → DV → Option DV
  | .int i, .int j => some (.int (i + j))
  | _, _ => none
def imulF : DV → DV → Option DV
  | .int i, .int j => if mulOk i j then some (.int (i * j)) else none
  | _, _ => none
theorem iadd_ok : ∃ t, PIp X .Add t ∧ Op2T W t iaddF := ⟨_, ip_add, fun g H x y v u d sok nm cx cy hf Q k => by
  cases x <;> cases y <;> simp only [iaddF] at hf <;> cases hf
  rw [cur_int] at cx cy
  exact ⟨_, _, cx, cy, k g _ H (Grow.refl _ _) (rv_int.mpr rfl)⟩⟩
theorem imul_ok : ∃ t, PIp X .Mult t ∧ Op2T W t imulF := ⟨_, ip_mul, fun g H x y v u d sok nm cx cy hf Q k => by
  cases x <;> cases y <;> simp only [imulF] at hf <;> try (cases hf; done)
  split at hf
  · rename_i hz
    cases hf
    rw [cur_int] at cx cy
    exact ⟨_, _, cx, cy, hz, k g _ H (Grow.refl _ _) (rv_int.mpr rfl)⟩
  · cases hf⟩
theorem snd_aug {op : Operator} {r : DV → DV → Option DV} {i : Nat} {x : Str} {e : Expr} {f : Ex} {pos pos' : Pos} (o : ∀ W X, ∃ t, PIp X op t ∧ Op2T W t r) (hN : sc.N[i]? = some x) (hl : locB sc x = true) (h : Snd F lw sc e f) :
    SndS F lw sc (.AugAssign (.Name x pos') op e pos) (augS i r f) := fun W E X c => by
  obtain ⟨t, h1, h2⟩ := o W X
  refine ps_imp (ps_aug c.nd (by rw [c.na]; exact hN) (loc_of c hl).1 (h W E X c) h1 (loc_of c hl).2) fun D σ H ⟨g, st, I, q⟩ => ?_
  unfold augS asgS vw2 var at q
  cases hv : st.env[i]? with
  | none => rw [hv] at q; exact q.elim
  | some od =>
    cases od with
    | none => rw [hv] at q; exact q.elim
    | some d =>
      rw [hv] at q
      simp only [Out.bind_ok] at q
      obtain ⟨v, h3, h4⟩ := I.env i d hv
      refine ⟨v, h3, g, st, I, ?_⟩
      have q' : PostS W E g H ((f st).bind fun b s => (optO (r (look s d) (look s b)) s).bind fun d s => ((Tg.one i).bind d s).bind fun _ s => .ok .nx s) D := by
        revert q
        cases f st <;> exact fun q => q
      refine PostS.bind I.sok q' fun g1 st1 b u H1 I1 e1 r1 q1 => ?_
      cases hr : r (look st1 d) (look st1 b) with
      | none => rw [hr] at q1; exact q1.elim
      | some z =>
        rw [hr] at q1
        simp only [optO_some, Out.bind_ok] at q1
        refine h2 g1 H1 _ _ _ _ z I1.sok I1.there (I1.look (h4.ext e1 I.sok)) (I1.look r1) hr _ fun g2 w H2 gr rw' => ?_
        obtain ⟨I2, e2⟩ := I1.grow gr
        exact (q1.mono I1.sok e2).nx (I2.setE (RVl.of rw'))

theorem seq_walk {d : DV} {v : V} {ds : List DV} {g1 : Gh} {st1 : Sta} {H1 : Hp} (I1 : SI W g1 st1 σ H1) (r1 : RVl W g1 H1 d v) (hi : items (look st1 d) = some ds) :
    ∃ κ a, v = .ref a ∧ (∃ xs, SqV κ W.K H1 a xs) ∧ ∀ g st σ H, SI W g st σ H → Ext g1 H1 g H → stays (guardOf d) st1 st → ∃ vs, SqV κ W.K H a vs ∧ RVs W g H ds vs := by
  cases hl : look st1 d <;> rw [hl] at hi <;> simp only [items] at hi <;> try (cases hi; done)
  · cases hi
    have cu := I1.look r1
    rw [hl, cur_tup] at cu
    obtain ⟨a, vs, rfl, h1, h2⟩ := cu
    exact ⟨false, a, rfl, ⟨vs, h1.sq⟩, fun g st σ H I' e' _ => ⟨vs, (e'.tup I1.sok h1).sq, h2.ext e' I1.sok⟩⟩
  · cases hi
    have cu := I1.look r1
    rw [hl, cur_lst] at cu
    obtain ⟨a, vs, rfl, h1, h2⟩ := cu
    refine ⟨true, a, rfl, ⟨vs, SqL.of h1⟩, fun g st σ H I' e' s' => ?_⟩
    have := cur_stays I1 I' e' r1 s'
    rw [hl, cur_lst] at this
    obtain ⟨a', vs', ea, h3, h4⟩ := this
    cases ea
    exact ⟨vs', SqL.of h3, h4⟩
  · rename_i is
    cases hi
    have cu : RV W g1 H1 (.scr is) v := by
      have := I1.look r1
      rw [hl] at this
      exact this
    simp only [RV] at cu
    obtain ⟨a, rfl, h1⟩ := cu
    exact ⟨true, a, rfl, ⟨_, h1.sq⟩, fun g st σ H I' e' s' => ⟨_, (e'.scr (W := W) I1.sok h1).sq, RVs.map_ints W g H is⟩⟩
def zipL (xs ys : List DV) : List DV := List.zipWith (fun x y => DV.tup [x, y]) xs ys
def zipI (b : Bool) (f k : Ex) : Ite := fun st => (f st).bind fun d s => (k s).bind fun e s => match items (look s d), items (look s e) with
  | some xs, some ys => if b = true → xs.length = ys.length then .ok ⟨zipL xs ys, guardOf d ++ guardOf e⟩ s else .bad
  | _, _ => .bad
theorem stays_l {a b : List DV} {s s' : Sta} (h : stays (a ++ b) s s') : stays a s s' := fun d hd => h d (List.mem_append_left _ hd)
theorem stays_r {a b : List DV} {s s' : Sta} (h : stays (a ++ b) s s') : stays b s s' := fun d hd => h d (List.mem_append_right _ hd)
theorem pair_new {σ : L2.St} {T : Addr} {ds : List DV} {vs : List V} (I : SI W g st σ H) (hT : H T = none) (r : RVs W g H ds vs) : ∃ g', SI W g' st σ (upd H T (.tup vs)) ∧ Ext g H g' (upd H T (.tup vs)) ∧ RV W g' (upd H T (.tup vs)) (.tup ds) (.ref T) := by
  obtain ⟨I', e'⟩ := I.grow (grow_at (o := .tup vs) hT)
  exact ⟨_, I', e', rv_new_tup hT I.sok I.there r⟩
theorem wk_zip {b : Bool} {d e : DV} {v u : V} {xs ys : List DV} {g1 : Gh} {st1 : Sta} {H1 : Hp} (I1 : SI W g1 st1 σ H1) (r1 : RVl W g1 H1 d v) (r2 : RVl W g1 H1 e u) (hx : items (look st1 d) = some xs) (hy : items (look st1 e) = some ys) (hb : b = true → xs.length = ys.length) :
    ∃ κ κ' a c vs us, [v, u] = [V.ref a, V.ref c] ∧ SqV κ W.K H1 a vs ∧ SqV κ' W.K H1 c us ∧ Wk W g1 H1 st1 ⟨zipL xs ys, guardOf d ++ guardOf e⟩ (Itp κ κ' b W.K a c) := by
  obtain ⟨κ, a, rfl, ⟨vs, h1⟩, w1⟩ := seq_walk I1 r1 hx
  obtain ⟨κ', c, rfl, ⟨us, h2⟩, w2⟩ := seq_walk I1 r2 hy
  refine ⟨κ, κ', a, c, vs, us, rfl, h1, h2, ⟨fun i g st σ H I' e' s' hi => ?_, fun i g st σ H x H' I' e' s' y d' hd => ?_, fun g st σ H I' e' s' => ?_⟩⟩
  · obtain ⟨vs, q1, p1⟩ := w1 g st σ H I' e' (stays_l s')
    obtain ⟨us, q2, p2⟩ := w2 g st σ H I' e' (stays_r s')
    have hi : i < min xs.length ys.length := by simpa [zipL] using hi
    have i1 : i < xs.length := by omega
    have i2 : i < ys.length := by omega
    obtain ⟨x, hx, _⟩ := p1.get (List.getElem?_eq_getElem i1)
    obtain ⟨y, hy, _⟩ := p2.get (List.getElem?_eq_getElem i2)
    exact ⟨vs, us, x, y, q1, q2, hx, hy⟩
  · obtain ⟨vs, q1, p1⟩ := w1 g st σ H I' e' (stays_l s')
    obtain ⟨us, q2, p2⟩ := w2 g st σ H I' e' (stays_r s')
    obtain ⟨T, x', y', rfl, hT, rfl, f1, f2⟩ := y
    have hd' : (List.zipWith (fun x y => DV.tup [x, y]) xs ys)[i]? = some d' := hd
    rw [List.getElem?_zipWith] at hd'
    cases hxi : xs[i]? with
    | none => rw [hxi] at hd'; cases hd'
    | some dx =>
      cases hyi : ys[i]? with
      | none => rw [hxi, hyi] at hd'; cases hd'
      | some dy =>
        rw [hxi, hyi] at hd'
        cases hd'
        obtain ⟨x, hx, rx⟩ := p1.get hxi
        obtain ⟨y, hy, ry⟩ := p2.get hyi
        have e1 := f1 vs q1
        have e2 := f2 us q2
        rw [hx] at e1; cases e1
        rw [hy] at e2; cases e2
        exact pair_new I' hT (by simp only [RVs]; exact ⟨x', [y'], rfl, rx, y', [], rfl, ry, rfl⟩)
  · obtain ⟨vs, q1, p1⟩ := w1 g st σ H I' e' (stays_l s')
    obtain ⟨us, q2, p2⟩ := w2 g st σ H I' e' (stays_r s')
    refine ⟨vs, us, q1, q2, ?_⟩
    have hl : (zipL xs ys).length = min xs.length ys.length := by simp [zipL]
    have l1 := p1.length
    have l2 := p2.length
    show if b = true then vs.length ≤ (zipL xs ys).length ∧ us.length ≤ (zipL xs ys).length else vs.length ≤ (zipL xs ys).length ∨ us.length ≤ (zipL xs ys).length
    cases b with
    | true =>
      have := hb rfl
      rw [if_pos rfl]
      omega
    | false =>
      rw [if_neg Bool.false_ne_true]
      omega
theorem tiv_zip {b : Bool} {f k : Ex} {R : It → Hp → Prop} (h : TIv W E (zipI b f k) σ H R) : iZp b W.K (tCons (TEv W E f) (tCons (TEv W E k) tNil)) σ H R := by
  obtain ⟨g, st, I, q⟩ := h
  refine ⟨g, st, I, PostI.bind I.sok q fun g1 st1 d v H1 I1 e1 r1 q1 => ⟨g1, st1, I1, PostI.bind I1.sok q1 fun g2 st2 e u H2 I2 e2 r2 q2 => ?_⟩⟩
  revert q2
  cases hx : items (look st2 d) with
  | none => exact fun q2 => q2.elim
  | some xs =>
    cases hy : items (look st2 e) with
    | none => exact fun q2 => q2.elim
    | some ys =>
      simp only
      split
      · rename_i hb
        intro q2
        obtain ⟨κ, κ', a, c, vs, us, ee, s1, s2, wk⟩ := wk_zip I2 (r1.ext e2 I1.sok) r2 hx hy hb
        exact ⟨κ, κ', a, c, vs, us, ee, s1, s2, q2 g2 H2 _ I2 (Ext.refl _ _) wk⟩
      · exact fun q2 => q2.elim
theorem sndI_zip {a b : Expr} {f k : Ex} {p pos tpos : Pos} {elts : List Expr} {kk : Nat} (hg : glbB sc "zip" = true) (hb : ("zip" : Str) ∈ lw.blts) (hs : noStar a = true) (hs2 : noStar b = true) (h : Snd F lw sc a f) (hk : Snd F lw sc b k) :
    SndI F lw sc (.Tuple elts kk tpos) (.Call (.Name "zip" p) [a, b] [] pos) (zipI false f k) := fun W E X c =>
  pi_imp (pi_zp (gl_of c hg) (by rw [c.gm]; exact c.gb.bl _ hb) (pa_cons (h W E X c) (pa_cons (hk W E X c) pa_nil (starEach_cons hs2)) (starEach_cons hs)) (by rw [starEach_cons hs, starEach_cons hs2]) (star_any (by simp [hs2]))) fun σ H R q => by rw [c.ka]; exact tiv_zip q
theorem sndI_zipk {a b : Expr} {f k : Ex} {p pos tpos cp kp : Pos} {cj : Nat} {elts : List Expr} {kk : Nat} (hg : glbB sc "zip" = true) (hb : ("zip" : Str) ∈ lw.blts) (hs : noStar a = true) (hs2 : noStar b = true) (h : Snd F lw sc a f) (hk : Snd F lw sc b k) :
    SndI F lw sc (.Tuple elts kk tpos) (.Call (.Name "zip" p) [a, b] [⟨some "strict", .Constant (.bool true) cj cp, kp⟩] pos) (zipI true f k) := fun W E X c =>
  pi_imp (pi_zpk (gl_of c hg) (by rw [c.gm]; exact c.gb.bl _ hb) (pa_cons (h W E X c) (pa_cons (hk W E X c) pa_nil (starEach_cons hs2)) (starEach_cons hs)) (by rw [starEach_cons hs, starEach_cons hs2]) (star_any (by simp [hs2]))) fun σ H R q => by rw [c.ka]; exact tiv_zip q
def enuL : Nat → List DV → List DV
  | _, [] => []
  | i, d :: ds => .tup [.int i, d] :: enuL (i + 1) ds
theorem enuL_get : ∀ (ds : List DV) (k i : Nat), (enuL k ds)[i]? = ds[i]?.map fun d => .tup [.int ((k + i : Nat) : Int), d]
  | [], k, i => by simp [enuL]
  | d :: ds, k, 0 => by simp [enuL]
  | d :: ds, k, i + 1 => by
    simp only [enuL, List.getElem?_cons_succ]
    rw [enuL_get ds (k + 1) i]
    congr 1
    funext d
    have : k + 1 + i = k + (i + 1) := by omega
    rw [this]
theorem enuL_len : ∀ (ds : List DV) (k : Nat), (enuL k ds).length = ds.length
  | [], _ => rfl
  | d :: ds, k => by simp [enuL, enuL_len ds]
def enuI (f : Ex) : Ite := fun st => (f st).bind fun d s => (optO (items (look s d)) s).bind fun ds s => .ok ⟨enuL 0 ds, guardOf d⟩ s
theorem sndI_enum {a : Expr} {f : Ex} {p pos tpos : Pos} {elts : List Expr} {kk : Nat} (hg : glbB sc "enumerate" = true) (hb : ("enumerate" : Str) ∈ lw.blts) (hs : noStar a = true) (h : Snd F lw sc a f) :
    SndI F lw sc (.Tuple elts kk tpos) (.Call (.Name "enumerate" p) [a] [] pos) (enuI f) := fun W E X c =>
  pi_imp (pi_en (gl_of c hg) (by rw [c.gm]; exact c.gb.bl _ hb) (pa_cons (h W E X c) pa_nil (starEach_cons hs)) (starEach_cons hs)) fun σ H R ⟨g, st, I, q⟩ => ⟨g, st, I, PostI.bind I.sok q fun g1 st1 d v H1 I1 e1 r1 q1 => by
    cases hx : items (look st1 d) with
    | none => rw [hx] at q1; exact q1.elim
    | some ds =>
      rw [hx] at q1
      simp only [optO_some, Out.bind_ok] at q1
      obtain ⟨κ, a, rfl, ⟨vs, h1⟩, w1⟩ := seq_walk I1 r1 hx
      rw [c.ka]
      refine ⟨κ, a, vs, rfl, h1, q1 g1 H1 _ I1 (Ext.refl _ _) ⟨fun i g st σ H I' e' s' hi => ?_, fun i g st σ H x H' I' e' s' y d' hd => ?_, fun g st σ H I' e' s' => ?_⟩⟩
      · obtain ⟨vs, q1, p1⟩ := w1 g st σ H I' e' s'
        have hi : i < ds.length := by simpa [enuL_len] using hi
        obtain ⟨x, hx, _⟩ := p1.get (List.getElem?_eq_getElem hi)
        exact ⟨vs, x, q1, hx⟩
      · obtain ⟨vs, q1, p1⟩ := w1 g st σ H I' e' s'
        obtain ⟨T, x', rfl, hT, rfl, f1⟩ := y
        have hd' : (enuL 0 ds)[i]? = some d' := hd
        rw [enuL_get] at hd'
        cases hxi : ds[i]? with
        | none => rw [hxi] at hd'; cases hd'
        | some dx =>
          rw [hxi] at hd'
          cases hd'
          obtain ⟨x, hx, rx⟩ := p1.get hxi
          have e1 := f1 vs q1
          rw [hx] at e1; cases e1
          refine pair_new I' hT ?_
          simp only [RVs, Nat.zero_add]
          exact ⟨.int (i : Nat), [x'], rfl, by simp [RV], x', [], rfl, rx, rfl⟩
      · obtain ⟨vs, q1, p1⟩ := w1 g st σ H I' e' s'
        refine ⟨vs, q1, ?_⟩
        have := p1.length
        show vs.length ≤ (enuL 0 ds).length
        rw [enuL_len]
        omega⟩
end
end Cv
end
section
set_option Elab.async false
set_option linter.all false
set_option maxRecDepth 100000
set_option maxHeartbeats 1000000
set_option exponentiation.threshold 40000
namespace Cv
open PySem PySem.Spec PyProof.Rows L2 CvZ
section
variable {W : Wd} {F : Cal} {lw : Lw} {sc : Sc} {E : WX} {X : Cx} {σ : L2.St} {H : Hp} {g : Gh} {st : Sta} {D : Ends} {tg : Expr}
def rInA (K : PySem.W.Frag) (neg : Bool) : R2 := fun x y H Q => ∃ d ds, Dp K H x d ∧ (Dp K H y (.list ds) ∨ Dp K H y (.tuple ds)) ∧ SeqAt.shaped d = true ∧ SeqAt.shaped (.list ds) = true ∧ Q (.bl ((ds.any fun z => PyData.eqv z d) != neg)) H
theorem shaped_lt {ds : List PyData} : SeqAt.shaped (.tuple ds) = SeqAt.shaped (.list ds) := by first | rfl | (unfold SeqAt.shaped; rfl)
theorem op_inA (hu : X.A.units + 65 < cLine) : OpR X (compareOp .In) (rInA X.K false) := by
  intro pins s σ H x y v u Q I rx ry h
  obtain ⟨d, ds, hd, he, sd, se, q⟩ := h
  rw [Bool.bne_false] at q
  obtain ⟨as, r1⟩ := Dp.reads I d x v hd rx
  rcases he with he | he
  · obtain ⟨bs, r2⟩ := Dp.reads I (.list ds) y u he ry
    exact SeqAt.in_list_reads r2 r1 (SeqAt.canLay_of_shaped se) (SeqAt.canLay_of_shaped sd) (room_in_shaped sd hu) ⟨.bl _, H, I, rfl, q⟩
  · obtain ⟨bs, r2⟩ := Dp.reads I (.tuple ds) y u he ry
    exact SeqAt.in_tuple_reads r2 r1 (SeqAt.canLay_of_shaped se) (SeqAt.canLay_of_shaped sd) (room_in_shaped sd hu) ⟨.bl _, H, I, rfl, q⟩
theorem op_notInA (hu : X.A.units + 65 < cLine) : OpR X (compareOp .NotIn) (rInA X.K true) := by
  intro pins s σ H x y v u Q I rx ry h
  obtain ⟨d, ds, hd, he, sd, se, q⟩ := h
  rw [Bool.bne_true] at q
  obtain ⟨as, r1⟩ := Dp.reads I d x v hd rx
  rcases he with he | he
  · obtain ⟨bs, r2⟩ := Dp.reads I (.list ds) y u he ry
    exact SeqAt.notIn_list_reads r2 r1 (SeqAt.canLay_of_shaped se) (SeqAt.canLay_of_shaped sd) (room_in_shaped sd hu) ⟨.bl _, H, I, rfl, q⟩
  · obtain ⟨bs, r2⟩ := Dp.reads I (.tuple ds) y u he ry
    exact SeqAt.notIn_tuple_reads r2 r1 (SeqAt.canLay_of_shaped se) (SeqAt.canLay_of_shaped sd) (room_in_shaped sd hu) ⟨.bl _, H, I, rfl, q⟩
def rDin (neg : Bool) : R2 := fun y x H Q => ∃ a o, x = .ref a ∧ DGet H a y o ∧ Q (.bl (o.isSome != neg)) H
theorem op_din (hu : X.A.units + 1 < cLine) : OpR X (compareOp .In) (rDin false) := by
  intro pins s σ H y x v u Q I ry rx h
  obtain ⟨a, o, rfl, g, q⟩ := h
  rw [Bool.bne_false] at q
  cases rx
  exact d_in hu I g ry fun s3 I3 => ⟨.bl _, H, I3, rfl, q⟩
theorem op_dnin (hu : X.A.units + 1 < cLine) : OpR X (compareOp .NotIn) (rDin true) := by
  intro pins s σ H y x v u Q I ry rx h
  obtain ⟨a, o, rfl, g, q⟩ := h
  rw [Bool.bne_true] at q
  cases rx
  exact d_notIn hu I g ry fun s3 I3 => ⟨.bl _, H, I3, rfl, q⟩
def inS (y x : Str) : Bool := !(Builtin.Str.occurrences y x 0 y.length 1).isEmpty
def inB (x y : DV) : Option Bool := match y with
  | .lst ds => match toPy x, toPys ds with
    | some p, some ps => if SeqAt.shaped p = true ∧ SeqAt.shaped (.list ps) = true then some (ps.any fun z => PyData.eqv z p) else none
    | _, _ => none
  | .tup ds => match toPy x, toPys ds with
    | some p, some ps => if SeqAt.shaped p = true ∧ SeqAt.shaped (.list ps) = true then some (ps.any fun z => PyData.eqv z p) else none
    | _, _ => none
  | .dct ks ds => (keyOf x).map fun k => (dGet ks ds k).isSome
  | .str y => match x with
    | .str x => some (inS y x)
    | _ => none
  | _ => none
def inF (x y : DV) : Option DV := (inB x y).map .bl
def ninF (x y : DV) : Option DV := (inB x y).map fun b => .bl (!b)
theorem cur_dct {ks : List Key} {ds : List DV} {v : V} : Cur W g H (.dct ks ds) v ↔ ∃ a kvs, v = .ref a ∧ H a = some (.dK kvs) ∧ kvs.map (·.1) = ks ∧ RVs W g H ds (kvs.map (·.2)) := Iff.rfl
theorem dget_cur {ks : List Key} {ds : List DV} {kvs : List (Key × V)} {k : Key} (e : kvs.map (·.1) = ks) (r : RVs W g H ds (kvs.map (·.2))) : (valV kvs k).isSome = (dGet ks ds k).isSome := by
  obtain ⟨h1, h2⟩ := dGet_val (q := k) e r
  cases hd : dGet ks ds k with
  | none => rw [h2 hd]; rfl
  | some d =>
    obtain ⟨v, hv, _⟩ := h1 d hd
    rw [hv]; rfl
theorem in_cases {x y : DV} {v u : V} {b : Bool} (cx : Cur W g H x v) (cy : Cur W g H y u) (h : inB x y = some b) {Q : VK} {neg : Bool} (q : Q (.bl (b != neg)) H) :
    rInA W.K neg v u H Q ∨ rDin neg v u H Q ∨ ∃ i j, v = .str i ∧ u = .str j ∧ b = inS j i := by
  unfold inB at h
  split at h
  · rename_i ds
    cases h1 : toPy x with
    | none => rw [h1] at h; cases h
    | some p =>
      cases h2 : toPys ds with
      | none => rw [h1, h2] at h; cases h
      | some ps =>
        rw [h1, h2] at h
        simp only at h
        split at h
        · rename_i hz
          cases h
          exact .inl ⟨p, ps, dp_cur cx h1, .inl (dp_cur cy (by simp only [toPy, h2]; rfl)), hz.1, hz.2, q⟩
        · cases h
  · rename_i ds
    cases h1 : toPy x with
    | none => rw [h1] at h; cases h
    | some p =>
      cases h2 : toPys ds with
      | none => rw [h1, h2] at h; cases h
      | some ps =>
        rw [h1, h2] at h
        simp only at h
        split at h
        · rename_i hz
          cases h
          exact .inl ⟨p, ps, dp_cur cx h1, .inr (dp_cur cy (by simp only [toPy, h2]; rfl)), hz.1, hz.2, q⟩
        · cases h
  · rename_i ks ds
    obtain ⟨k, h1, rfl⟩ := Option.map_eq_some_iff.mp h
    rw [cur_dct] at cy
    obtain ⟨a, kvs, rfl, h2, h3, h4⟩ := cy
    rw [key_cur cx h1]
    exact .inr (.inl ⟨a, _, rfl, DGet.k h2, by rw [dget_cur h3 h4]; exact q⟩)
  · rename_i y
    split at h
    · cases h
      rw [cur_str] at cx cy
      exact .inr (.inr ⟨_, _, cx, cy, rfl⟩)
    · cases h
  · cases h
theorem in_ok (c : Cok W F lw sc E X) : ∃ r, OpR X (compareOp .In) r ∧ Op2T W r inF := by
  have cu := c.ro.un
  refine ⟨_, (op_inA (by omega)).or ((op_din (by omega)).or op_in_str), fun g H x y v u d sok nm cx cy hf Q k => ?_⟩
  rw [c.ka]
  obtain ⟨b, hb, rfl⟩ := Option.map_eq_some_iff.mp hf
  have q := k g _ H (Grow.refl _ _) (rv_bl.mpr rfl)
  rcases in_cases (neg := false) cx cy hb (by rw [Bool.bne_false]; exact q) with h | h | ⟨i, j, h1, h2, rfl⟩
  · exact .inl h
  · exact .inr (.inl h)
  · exact .inr (.inr ⟨i, j, h1, h2, q⟩)
theorem nin_ok (c : Cok W F lw sc E X) : ∃ r, OpR X (compareOp .NotIn) r ∧ Op2T W r ninF := by
  have cu := c.ro.un
  refine ⟨_, (op_notInA (by omega)).or ((op_dnin (by omega)).or op_notin_str), fun g H x y v u d sok nm cx cy hf Q k => ?_⟩
  rw [c.ka]
  obtain ⟨b, hb, rfl⟩ := Option.map_eq_some_iff.mp hf
  have q := k g _ H (Grow.refl _ _) (rv_bl.mpr rfl)
  rcases in_cases (neg := true) cx cy hb (by rw [Bool.bne_true]; exact q) with h | h | ⟨i, j, h1, h2, rfl⟩
  · exact .inl h
  · exact .inr (.inl h)
  · exact .inr (.inr ⟨i, j, h1, h2, q⟩)

def rLcm : List V → Hp → VK → Prop := fun vs H Q => ∃ a b : Int, vs = [.int a, .int b] ∧ a.natAbs.log2 < 13000 ∧ b.natAbs.log2 < 13000 ∧ Q (.int ((Nat.lcm a.natAbs b.natAbs : Nat) : Int)) H
theorem log2_mono {a b : Nat} (h : a ≤ b) : a.log2 ≤ b.log2 := by
  by_cases h0 : a = 0
  · subst h0; simp
  · exact (Nat.le_log2 (by omega)).mpr (Nat.le_trans (Nat.log2_self_le h0) h)
theorem log2_max {a b k : Nat} (ha : a.log2 < k) (hb : b.log2 < k) : (max a b).log2 < k := by
  rcases Nat.le_total a b with h | h
  · rw [Nat.max_eq_right h]; exact hb
  · rw [Nat.max_eq_left h]; exact ha
theorem lcm_log {a b : Nat} (ha : a.log2 < 13000) (hb : b.log2 < 13000) : (Nat.lcm a b).log2 < 30000 := by
  by_cases h0 : Nat.lcm a b = 0
  · rw [h0]; decide
  · have h1 : Nat.lcm a b ≤ a * b := Nat.le_of_dvd (by
      rcases Nat.eq_zero_or_pos a with z | z
      · subst z; simp at h0
      · rcases Nat.eq_zero_or_pos b with y | y
        · subst y; simp at h0
        · exact Nat.mul_pos z y) (Nat.lcm_dvd_mul a b)
    have h2 : a < 2 ^ 13000 := Nat.lt_of_lt_of_le (Nat.lt_log2_self (n := a)) (Nat.pow_le_pow_right (by decide) (by omega))
    have h3 : b < 2 ^ 13000 := Nat.lt_of_lt_of_le (Nat.lt_log2_self (n := b)) (Nat.pow_le_pow_right (by decide) (by omega))
    have h4 : a * b < 2 ^ 30000 := by
      calc a * b < 2 ^ 13000 * 2 ^ 13000 := Nat.mul_lt_mul'' h2 h3
        _ = 2 ^ 26000 := by rw [← Nat.pow_add]
        _ ≤ 2 ^ 30000 := Nat.pow_le_pow_right (by decide) (by decide)
    exact (Nat.log2_lt h0).mpr (Nat.lt_of_le_of_lt h1 h4)
theorem cr_lcm : CallR X (.builtin "math.lcm") rLcm := by
  intro pins s σ H vs us Q I r h
  obtain ⟨a, b, rfl, ha, hb, q⟩ := h
  obtain ⟨t, u, rfl⟩ := Vals.int2 r
  have e1 : Nat.lcm 1 a.natAbs = a.natAbs := Nat.lcm_one_left _
  have h1 : (max 1 a.natAbs).log2 < 13000 := log2_max (by decide) ha
  have h2 := log2_max ha hb
  have hsz : ((((Nat.lcm 1 a.natAbs).lcm b.natAbs : Nat) : Int)).natAbs.log2 < bitsLine := by
    rw [e1, Int.natAbs_natCast]
    have := lcm_log ha hb
    have e : bitsLine = 134217728 := by decide
    omega
  refine call_function_meets PySem.W.MGF.kind_lcm PySem.W.MGF.plain_lcm PySem.W.MGF.entry_lcm (PySem.W.MGF.args_lcm _ _) (PySem.W.mg_run_lcm a t b u (by omega) (by omega) hsz).meets ?_
  rw [e1]
  exact ⟨.int _, H, I.tok _, ⟨_, rfl⟩, q⟩
def lcmF : List DV → Option DV
  | [.int i, .int j] => if i.natAbs.log2 < 13000 ∧ j.natAbs.log2 < 13000 then some (.int (Nat.lcm i.natAbs j.natAbs : Nat)) else none
  | _ => none
theorem lcm_ok : ∃ r, CallR X (.builtin "math.lcm") r ∧ CalT W r lcmF := ⟨_, cr_lcm, fun g H ds vs d sok nm cx hf Q k => by
  unfold lcmF at hf
  split at hf
  · split at hf
    · rename_i hz
      cases hf
      obtain ⟨v, u, rfl, h, h'⟩ := cur2 cx
      rw [cur_int] at h h'; subst h h'
      exact ⟨_, _, rfl, hz.1, hz.2, k g _ H (Grow.refl _ _) (rv_int.mpr rfl)⟩
    · cases hf
  · cases hf⟩

mutual
theorem toPy_plain : ∀ (d : DV) {p : PyData}, toPy d = some p → PyData.hasDict p = false
  | .non, p, e => by simp only [toPy] at e; cases e; rfl
  | .bl b, p, e => by simp only [toPy] at e; cases e; rfl
  | .int i, p, e => by simp only [toPy] at e; cases e; rfl
  | .str x, p, e => by simp only [toPy] at e; cases e; rfl
  | .tup ds, p, e => by
    simp only [toPy] at e
    obtain ⟨ps, h, rfl⟩ := Option.map_eq_some_iff.mp e
    simp only [PyData.hasDict]
    exact toPys_plain ds h
  | .lst ds, p, e => by
    simp only [toPy] at e
    obtain ⟨ps, h, rfl⟩ := Option.map_eq_some_iff.mp e
    simp only [PyData.hasDict]
    exact toPys_plain ds h
  | .dct _ _, _, e => by simp only [toPy] at e; cases e
  | .loc _, _, e => by simp only [toPy] at e; cases e
  | .glb _, _, e => by simp only [toPy] at e; cases e
  | .scr _, _, e => by simp only [toPy] at e; cases e
  | .xc _ _ _, _, e => by simp only [toPy] at e; cases e
theorem toPys_plain : ∀ (ds : List DV) {ps : List PyData}, toPys ds = some ps → PyData.hasDictAll ps = false
  | [], ps, e => by simp only [toPys] at e; cases e; rfl
  | d :: ds, ps, e => by
    simp only [toPys] at e
    cases h3 : toPy d with
    | none => rw [h3] at e; cases e
    | some p =>
      cases h4 : toPys ds with
      | none => rw [h3, h4] at e; cases e
      | some qs =>
        rw [h3, h4] at e; cases e
        simp only [PyData.hasDictAll, toPy_plain d h3, toPys_plain ds h4, Bool.or_false]
end
def rRepr (K : PySem.W.Frag) : List V → Hp → VK → Prop := fun vs H Q => ∃ x p, vs = [x] ∧ Dp K H x p ∧ p.showable = true ∧ p.hasDict = false ∧ p.depth ≤ 60 ∧ p.shown.length ≤ sizeLine ∧ Q (.str p.shown) H
theorem cr_repr (hg : X.A.guards = some []) (hu : X.A.units + 64 < cLine) : CallR X (.builtin "repr") (rRepr X.K) := by
  intro pins s σ H vs us Q I r h
  obtain ⟨x, p, rfl, hd, hs, hn, hp, hl, q⟩ := h
  cases r with
  | cons rx rr =>
    cases rr
    obtain ⟨as, rd⟩ := Dp.reads I p x _ hd rx
    have fin : ∀ h' u tk, (∀ b o, s.heap.get? b = some o → h'.get? b = some o) → EP X pins σ Q (.str p.shown u) { s with heap := h', toks := tk } := fun h' u tk hk => ⟨.str p.shown, H, I.kept hk, ⟨_, rfl⟩, q⟩
    cases rd with
    | none => exact PySem.P.repr_of_none (fin _ _ _ fun _ _ e => e)
    | bool b => exact PySem.P.repr_of_bool (fin _ _ _ fun _ _ e => e)
    | int i t => exact PySem.P.repr_of_int (by simpa [PyData.showable] using hs) (fin _ _ _ fun _ _ e => e)
    | str y t => exact PySem.P.repr_of_str (fin _ _ _ fun _ _ e => e) hl
    | list h1 h2 h3 h4 => exact repr_of_reads' (.list h1 h2 h3 h4) hs (fun z => by rw [hn] at z; cases z) hg (by omega) (fun _ _ e => e) fin hl
    | tuple h1 h2 h3 h4 => exact repr_of_reads' (.tuple h1 h2 h3 h4) hs (fun z => by rw [hn] at z; cases z) hg (by omega) (fun _ _ e => e) fin hl
    | dict h1 h2 h3 h4 h5 => exact Bool.noConfusion (show true = false from hn)
def reprF : List DV → Option DV
  | [d] => match toPy d with
    | some p => if p.showable = true ∧ p.depth ≤ 60 ∧ p.shown.length ≤ sizeLine then some (.str p.shown) else none
    | none => none
  | _ => none
theorem repr_ok (c : Cok W F lw sc E X) : ∃ r, CallR X (.builtin "repr") r ∧ CalT W r reprF := ⟨_, cr_repr c.gu c.units, fun g H ds vs d sok nm cx hf Q k => by
  rw [c.ka]
  unfold reprF at hf
  split at hf
  · split at hf
    · rename_i p hp
      split at hf
      · rename_i hz
        cases hf
        obtain ⟨v, rfl, h⟩ := cur1 cx
        exact ⟨v, p, rfl, dp_cur h hp, hz.1, toPy_plain _ hp, hz.2.1, hz.2.2, k g _ H (Grow.refl _ _) (rv_str.mpr rfl)⟩
      · cases hf
    · cases hf
  · cases hf⟩
end
end Cv
end
section
set_option Elab.async false
set_option linter.all false
set_option maxRecDepth 100000
set_option maxHeartbeats 1000000
namespace Cv
open PySem PySem.Spec PyProof.Rows L2
section
variable {W : Wd} {F : Cal} {lw : Lw} {sc : Sc} {E : WX} {X : Cx} {σ : L2.St} {H : Hp} {g : Gh} {st : Sta} {D : Ends}
theorem fGet_val : ∀ {fs : List Str} {ds : List DV} {fvs : List (Str × V)} {q : Str}, fvs.map (·.1) = fs → RVs W g H ds (fvs.map (·.2)) → (∀ d, fGet fs ds q = some d → ∃ v, fvs.lookup q = some v ∧ RV W g H d v) ∧ (fGet fs ds q = none → fvs.lookup q = none)
  | [], ds, fvs, q, e, r => by
    have : fvs = [] := List.map_eq_nil_iff.mp e
    subst this
    exact ⟨fun d h => by simp [fGet] at h, fun _ => rfl⟩
  | k :: fs, [], fvs, q, e, r => by
    simp only [RVs] at r
    have := List.map_eq_nil_iff.mp r
    subst this
    cases e
  | k :: fs, d :: ds, [], q, e, r => by cases e
  | k :: fs, d :: ds, p :: fvs, q, e, r => by
    rw [List.map_cons] at e r
    injection e with e1 e2
    simp only [RVs] at r
    obtain ⟨v, r', e3, h1, h2⟩ := r
    injection e3 with e3 e4
    subst e3 e4
    have ih := fGet_val (q := q) e2 h2
    obtain ⟨pk, pv⟩ := p
    simp only at e1
    subst e1
    by_cases hq : pk = q
    · simp only [fGet, if_pos hq]
      have hb : (q == pk) = true := beq_iff_eq.mpr hq.symm
      simp only [List.lookup, hb]
      exact ⟨fun d' h => ⟨_, rfl, by cases h; exact h1⟩, fun h => by cases h⟩
    · simp only [fGet, if_neg hq]
      have hb : (q == pk) = false := beq_eq_false_iff_ne.mpr fun z => hq z.symm
      simp only [List.lookup, hb]
      exact ih
theorem fPut_val : ∀ {fs : List Str} {ds : List DV} {fvs : List (Str × V)} {q : Str} {y : DV} {v : V}, fvs.map (·.1) = fs → RVs W g H ds (fvs.map (·.2)) → RV W g H y v →
    (putF q v fvs).map (·.1) = (fPut fs ds q y).1 ∧ RVs W g H (fPut fs ds q y).2 ((putF q v fvs).map (·.2))
  | [], ds, fvs, q, y, v, e, r, ry => by
    have : fvs = [] := List.map_eq_nil_iff.mp e
    subst this
    cases ds <;> exact ⟨rfl, RVs.one ry⟩
  | k :: fs, [], fvs, q, y, v, e, r, ry => by
    simp only [RVs] at r
    have := List.map_eq_nil_iff.mp r
    subst this
    cases e
  | k :: fs, d :: ds, [], q, y, v, e, r, ry => by cases e
  | k :: fs, d :: ds, p :: fvs, q, y, v, e, r, ry => by
    rw [List.map_cons] at e r
    injection e with e1 e2
    simp only [RVs] at r
    obtain ⟨u, r', e3, h1, h2⟩ := r
    injection e3 with e3 e4
    subst e3 e4
    have ih := fPut_val (q := q) e2 h2 ry
    obtain ⟨pk, pv⟩ := p
    simp only at e1
    subst e1
    show (if pk = q then (pk, v) :: fvs else (pk, pv) :: putF q v fvs).map (·.1) = _ ∧ RVs W g H _ ((if pk = q then (pk, v) :: fvs else (pk, pv) :: putF q v fvs).map (·.2))
    by_cases hq : pk = q
    · simp only [fPut, if_pos hq, List.map_cons, e2, RVs]
      exact ⟨trivial, v, _, rfl, ry, h2⟩
    · simp only [fPut, if_neg hq, List.map_cons, RVs]
      exact ⟨by rw [ih.1], pv, _, rfl, h1, ih.2⟩
theorem fs_len {fs : List Str} {fvs : List (Str × V)} (e : fvs.map (·.1) = fs) : fvs.length = fs.length := by rw [← e, List.length_map]
theorem snd_fld {o : Expr} {x : Str} {f : Ex} {cs : List String} {pos : Pos} (hcs : ∀ c ∈ cs, (c, x) ∈ lw.flds) (hb : ∀ env, attributeBase o x env (eval o env) = eval o env) (h : Snd F lw sc o f) : Snd F lw sc (.Attribute o x pos) (fldE cs x f) := fun W E X c =>
  pe_imp (pe_fld (h W E X c) (hb _)) fun σ H Q ⟨g, st, I, q⟩ => ⟨g, st, I, Post.bind I.sok q fun g1 st1 d v H1 I1 e1 r1 q1 => by
    cases d <;> try exact q1.elim
    rename_i n
    simp only at q1
    have r' : RV W g1 H1 (.glb n) v := r1
    simp only [RV] at r'
    obtain ⟨a, rfl, ha⟩ := r'
    cases hn : st1.gh[n]? with
    | none => rw [hn] at q1; exact q1.elim
    | some ob =>
      rw [hn] at q1
      cases ob <;> try exact q1.elim
      rename_i c' fs ds
      simp only at q1
      split at q1
      · rename_i hc
        obtain ⟨d, hd, q2⟩ := optO_post q1
        obtain ⟨hcl, hna⟩ := c.gb.fl _ (hcs c' hc)
        obtain ⟨a', h1, h2, _⟩ := I1.go n _ hn
        rw [ha] at h1; cases h1
        obtain ⟨dx, fvs, h3, h4, h5⟩ := h2
        obtain ⟨v, h6, h7⟩ := (fGet_val h4 h5).1 d hd
        rw [c.ka]
        exact ⟨a, _, dx, fvs, v, rfl, h3, hcl, hna, h6, q2.ok I1 (RVl.of h7)⟩
      · exact q1.elim⟩
theorem snd_setFld {o e : Expr} {x : Str} {f v : Ex} {cs : List String} {pos pos' : Pos} (hcs : ∀ c ∈ cs, (c, x) ∈ lw.flds) (hn : noLc e = true) (h : Snd F lw sc o f) (hv : Snd F lw sc e v) : SndS F lw sc (.Assign [.Attribute o x pos'] e pos) (fldS cs x f v) := fun W E X c =>
  ps_imp (ps_fld (h W E X c) (hv W E X c) (swaps_no hn _ _ _)) fun D σ H ⟨g, st, I, q⟩ => ⟨g, st, I, PostS.out I.sok q fun g1 st1 y u H1 I1 e1 r1 q1 => ⟨g1, st1, I1, PostS.bind I1.sok q1 fun g2 st2 d v H2 I2 e2 r2 q2 => by
    cases d <;> try exact q2.elim
    rename_i n
    simp only at q2
    have r' : RV W g2 H2 (.glb n) v := r2
    simp only [RV] at r'
    obtain ⟨a, rfl, ha⟩ := r'
    cases hn : st2.gh[n]? with
    | none => rw [hn] at q2; exact q2.elim
    | some ob =>
      rw [hn] at q2
      cases ob <;> try exact q2.elim
      rename_i c' fs ds
      simp only at q2
      split at q2
      · rename_i hc
        obtain ⟨hcl, hna⟩ := c.gb.fl _ (hcs c' hc.1)
        obtain ⟨a', h1, h2, _⟩ := I2.go n _ hn
        rw [ha] at h1; cases h1
        obtain ⟨dx, fvs, h3, h4, h5⟩ := h2
        rw [c.ka]
        refine ⟨a, _, dx, fvs, rfl, h3, hcl, hna, by rw [fs_len h4]; exact hc.2, ?_⟩
        obtain ⟨I3, e3⟩ := I2.setGlb (o' := .ins c' (fPut fs ds x y).1 (fPut fs ds x y).2) (u := .ins (W.cl c') dx (putF x u fvs)) hn ha fun H' ex hu => by
          obtain ⟨z1, z2⟩ := fPut_val (q := x) h4 h5 (r1.ext e2 I1.sok)
          exact ⟨dx, _, hu, z1, z2.ext ex I2.sok⟩
        exact (q2.mono I2.sok e3).nx I3
      · exact q2.elim⟩⟩
theorem inst_at (I : SI W g st σ H) {n : Nat} {c : String} {fs : List Str} {ds : List DV} {v : V} (r : RVl W g H (.glb n) v) (hn : st.gh[n]? = some (.ins c fs ds)) : ∃ a dx fvs, v = .ref a ∧ H a = some (.ins (W.cl c) dx fvs) ∧ fvs.map (·.1) = fs ∧ RVs W g H ds (fvs.map (·.2)) := by
  have r' : RV W g H (.glb n) v := r
  simp only [RV] at r'
  obtain ⟨a, rfl, ha⟩ := r'
  obtain ⟨a', h1, h2, _⟩ := I.go n _ hn
  rw [ha] at h1; cases h1
  obtain ⟨dx, fvs, h3, h4, h5⟩ := h2
  exact ⟨a, dx, fvs, rfl, h3, h4, h5⟩
theorem snd_met {e : Expr} {es : List Expr} {o : Expr} {m : Str} {c : String} {i : Nat} {f : Ex} {fs : Exs} {apos pos : Pos} (hm : (c, m, i) ∈ lw.mets) (hs : (e :: es).all noStar = true) (h : Snd F lw sc o f) (ha : SndA F lw sc (e :: es) fs)
    (ht : ∀ env, ∃ pl : Sem Bool, eval (.Call (.Attribute o m apos) (e :: es) [] pos) env = (do
      let ov ← eval o env
      standAt apos.atName
      let (f, first) ← holding [ov] (getMethod ov m pl)
      callWith pos f first (backTo pos (starEach (e :: es) env)) (backToKw pos (keywordEach [] env)))) : Snd F lw sc (.Call (.Attribute o m apos) (e :: es) [] pos) (metE c m (F i) f fs) := by
  intro W E X c0
  obtain ⟨a, fd, ps, k, hcl, hme, G, hb, hr, hbad⟩ := c0.gb.me _ hm
  obtain ⟨pl, ht⟩ := ht X.env
  rw [List.all_cons, Bool.and_eq_true] at hs
  refine ⟨fun pins s σ H Q I h0 => ?_⟩
  obtain ⟨g, st, J, q⟩ := h0
  unfold metE at q
  refine PySem.W.methodCall_KW (pl := pl) (thn ((h W E X c0).run pins s σ H (fun x H1 => ∃ g1 st1 n, SI W g1 st1 σ H1 ∧ RVl W g1 H1 (.glb n) x ∧ (∃ a' dx fvs, x = .ref a' ∧ H1 a' = some (.ins (W.cl c) dx fvs) ∧ fvs.lookup m = none) ∧ Post W E σ (RVl W) g1 H1 ((fs st1).bind fun as s => metO (F i) n as s) Q) I
    ⟨g, st, J, Post.bind J.sok q fun g1 st1 d x H1 I1 e1 r1 q1 => ?_⟩) fun u s1 ⟨x, H1, I1, rx, g1, st1, n, J1, r1, ⟨a', dx, fvs, ex, ea, l⟩, q1⟩ => ?_) ht
  · cases d <;> try exact q1.elim
    rename_i n
    simp only at q1
    cases hn : st1.gh[n]? with
    | none => rw [hn] at q1; exact q1.elim
    | some ob =>
      rw [hn] at q1
      cases ob <;> try exact q1.elim
      rename_i c' fs' ds
      simp only at q1
      split at q1
      · rename_i hc
        obtain ⟨a', dx, fvs, ex, h3, h4, h5⟩ := inst_at I1 r1 hn
        exact ⟨g1, st1, n, I1, r1, ⟨a', dx, fvs, ex, by rw [← hc.1]; exact h3, (fGet_val h4 h5).2 hc.2⟩, q1⟩
      · exact q1.elim
  · subst ex
    obtain rfl : u = Value.ref a' := rx
    refine getmeth_ok I1 ea (by rw [c0.ka]; exact hcl) (by rw [c0.ka]; exact hme) l ?_
    refine PySem.W.callWith_K (first := [.ref a']) (h₀ := X.base) I1.ok.mod.kin (by rw [c0.ka]; exact hme.kp) (thn ((ha W E X c0).run pos pins s1 σ H1 (fun vs H2 => ∃ g2 st2 ds, SI W g2 st2 σ H2 ∧ RVs W g2 H2 (.glb n :: ds) (.ref a' :: vs) ∧ Post W E σ (RVl W) g2 H2 (metO (F i) n ds st2) Q) I1
      ⟨g1, st1, J1, Post.bind J1.sok q1 fun g2 st2 ds vs H2 J2 e2 r2 q2 => ⟨g2, st2, ds, J2, by simp only [RVs]; exact ⟨.ref a', vs, rfl, RV.ext e2 J1.sok _ (show RV W g1 H1 (.glb n) (.ref a') from r1), r2⟩, q2⟩⟩) fun us s2 ⟨vs, H2, I2, rv, g2, st2, ds, J2, r2, q2⟩ => ⟨I2.kIn, ?_⟩) (starEach_cons hs.1) (star_any hs.2)
    exact go_call (x := m) (us := .ref a' :: us) (vs := .ref a' :: vs) c0 G hb hr hbad I2 (.cons rfl rv) J2 r2 q2
theorem snd_met0 {o : Expr} {m : Str} {c : String} {i : Nat} {f : Ex} {apos pos : Pos} (hm : (c, m, i) ∈ lw.mets) (h : Snd F lw sc o f)
    (ht : ∀ env, ∃ pl : Sem Bool, eval (.Call (.Attribute o m apos) [] [] pos) env = (do
      let ov ← eval o env
      standAt apos.atName
      let (f, first) ← holding [ov] (getMethod ov m pl)
      callWith pos f first (backTo pos (starEach [] env)) (backToKw pos (keywordEach [] env)))) : Snd F lw sc (.Call (.Attribute o m apos) [] [] pos) (metE c m (F i) f nilE) := by
  intro W E X c0
  obtain ⟨a, fd, ps, k, hcl, hme, G, hb, hr, hbad⟩ := c0.gb.me _ hm
  obtain ⟨pl, ht⟩ := ht X.env
  refine ⟨fun pins s σ H Q I h0 => ?_⟩
  obtain ⟨g, st, J, q⟩ := h0
  unfold metE at q
  refine PySem.W.methodCall_KW (pl := pl) (thn ((h W E X c0).run pins s σ H (fun x H1 => ∃ g1 st1 n, SI W g1 st1 σ H1 ∧ RVl W g1 H1 (.glb n) x ∧ (∃ a' dx fvs, x = .ref a' ∧ H1 a' = some (.ins (W.cl c) dx fvs) ∧ fvs.lookup m = none) ∧ Post W E σ (RVl W) g1 H1 (metO (F i) n [] st1) Q) I
    ⟨g, st, J, Post.bind J.sok q fun g1 st1 d x H1 I1 e1 r1 q1 => ?_⟩) fun u s1 ⟨x, H1, I1, rx, g1, st1, n, J1, r1, ⟨a', dx, fvs, ex, ea, l⟩, q1⟩ => ?_) ht
  · cases d <;> try exact q1.elim
    rename_i n
    simp only at q1
    cases hn : st1.gh[n]? with
    | none => rw [hn] at q1; exact q1.elim
    | some ob =>
      rw [hn] at q1
      cases ob <;> try exact q1.elim
      rename_i c' fs' ds
      simp only at q1
      split at q1
      · rename_i hc
        obtain ⟨a', dx, fvs, ex, h3, h4, h5⟩ := inst_at I1 r1 hn
        exact ⟨g1, st1, n, I1, r1, ⟨a', dx, fvs, ex, by rw [← hc.1]; exact h3, (fGet_val h4 h5).2 hc.2⟩, q1⟩
      · exact q1.elim
  · subst ex
    obtain rfl : u = Value.ref a' := rx
    refine getmeth_ok I1 ea (by rw [c0.ka]; exact hcl) (by rw [c0.ka]; exact hme) l ?_
    refine PySem.W.callWith_K0 (first := [.ref a']) I1.kIn (by rw [c0.ka]; exact hme.kp) ?_
    refine go_call (x := m) (us := [.ref a']) (vs := [.ref a']) c0 G hb hr hbad I1 (.cons rfl .nil) J1 ?_ q1
    simp only [RVs]
    exact ⟨.ref a', [], rfl, r1, rfl⟩

theorem guards_make {A : Around} {C : Addr} {us : List Value} {kw : List (Str × Value)} (h : A.guards = some []) : (A.under (.builtin "type.__call__" ⟨.ref C :: us, kw⟩)).guards = some [] := by
  first | exact h | simpa [Around.under, Code.isGuard, guardIds] using h
theorem go_make {x : Str} {i : Nat} {cn : String} (c : Cok W F lw sc E X) {a : Addr} {fd : FuncData} {ps : List Str} {k : Nat} (M : Mk W.K (W.cl cn) a) (G : FnG W k a fd ps (spOf W F i)) (hb : Binds W.K fd ps []) (hr : Room (k + 1) X.A) (hbad : ∀ ds gh, ds.length ≠ ps.length → F i ds gh = .bad)
    {pins : List (Addr × Obj)} {us : List Value} {vs : List V} {s : Shared} {H : Hp} {Q : VK} (I : Inv X pins σ H s) (rv : Vals vs us) {g : Gh} {st : Sta} {ds : List DV} (J : SI W g st σ H) (r : RVs W g H ds vs)
    (q : Post W E σ (RVl W) g H (match F i (.glb st.gh.length :: ds) (st.gh ++ [.ins cn [] []]) with
      | .ok .non gh => .ok (.glb st.gh.length) { st with gh := gh }
      | .ok _ _ => .bad
      | .ex x gh => .ex x { st with gh := gh }
      | .bad => .bad) Q) : wpAny (model X.prog X.w) X.A (call (.ref (W.cl cn)) us) (EP X pins σ Q) X.xe s := by
  have hx := I.hok.fresh (Nat.le_succ s.heap.objs.size)
  have hdx := I.hok.fresh (Nat.le_refl s.heap.objs.size)
  have hne : s.heap.objs.size ≠ s.heap.objs.size + 1 := Nat.ne_of_lt (Nat.lt_succ_self _)
  have I2 := Inv.made (C := W.cl cn) I
  have J1 := J.touch (u := .own (s.heap.objs.size + 1)) (J.off hdx)
  have e1 : Ext g H g (upd H s.heap.objs.size (.own (s.heap.objs.size + 1))) := (Ext.refl _ _).touch hdx
  have hx1 : (upd H s.heap.objs.size (.own (s.heap.objs.size + 1))) (s.heap.objs.size + 1) = none := by rw [upd_ne (Ne.symm hne)]; exact hx
  obtain ⟨J2, e2⟩ := J1.newGlb (u := .ins (W.cl cn) s.heap.objs.size []) (o := .ins cn [] []) hx1 fun g' H' e h => ⟨s.heap.objs.size, [], h, rfl, by simp [RVs]⟩
  have e12 := e1.trans J.sok e2
  have hself : RV W { g with mg := g.mg ++ [s.heap.objs.size + 1] } (upd (upd H s.heap.objs.size (.own (s.heap.objs.size + 1))) (s.heap.objs.size + 1) (.ins (W.cl cn) s.heap.objs.size [])) (.glb st.gh.length) (.ref (s.heap.objs.size + 1)) := by
    simp only [RV]
    refine ⟨_, rfl, ?_⟩
    show (g.mg ++ [s.heap.objs.size + 1])[st.gh.length]? = _
    rw [← J.gl, List.getElem?_append_right (Nat.le_refl _), Nat.sub_self]; rfl
  have q := q.mono J.sok e12
  have hlen : (DV.glb st.gh.length :: ds).length = ps.length := Classical.byContradiction fun z => by
    rw [hbad _ (st.gh ++ [Ob.ins cn [] []]) z] at q; exact q
  have r2 : Vals (V.ref (s.heap.objs.size + 1) :: vs) (Value.ref (s.heap.objs.size + 1) :: us) := .cons rfl rv
  have hl : (Value.ref (s.heap.objs.size + 1) :: us).length = ps.length := by rw [← r2.length, ← hlen, List.length_cons, List.length_cons, r.length]
  have e0 := I2.env0
  rw [c.pr, c.wo, c.ka, c.gm, c.ba] at e0
  have hsp : spOf W F i (V.ref (s.heap.objs.size + 1) :: vs) (upd (upd H s.heap.objs.size (.own (s.heap.objs.size + 1))) (s.heap.objs.size + 1) (.ins (W.cl cn) s.heap.objs.size [])) (fun v H2 => v = .non ∧ Q (.ref (s.heap.objs.size + 1)) H2) (fun c d H' => E c d σ H') := by
    refine ⟨{ g with ml := [], mg := g.mg ++ [s.heap.objs.size + 1] }, .glb st.gh.length :: ds, st.gh ++ [.ins cn [] []], J2.toCallee, ?_, ?_⟩
    · simp only [RVs]
      exact ⟨_, vs, rfl, RV.ml (l := []) _ hself, RVs.ml (l := []) _ (r.ext e12 J.sok)⟩
    · cases hF : F i (.glb st.gh.length :: ds) (st.gh ++ [Ob.ins cn [] []]) with
      | ok d gh' =>
        rw [hF] at q
        cases d <;> try exact q.elim
        intro g' v H' J' e' r'
        rw [rv_non] at r'
        refine ⟨r', q _ _ _ (J2.ofCallee J' e') (e'.callee J2) ?_⟩
        have e3 := e'.callee J2
        exact RV.ext e3 J2.sok (.glb st.gh.length) hself
      | ex xx gh' =>
        rw [hF] at q
        intro g' cc dd H' J' e' r'
        refine q _ _ _ _ (J2.ofCallee J' e') (e'.callee J2) ?_
        cases xx with
        | xc n fs' ds' =>
          obtain ⟨h1, h2⟩ := r'
          exact ⟨h1, h2.imp id fun ⟨a', fvs, z1, z2, z3, z4⟩ => ⟨a', fvs, z1, z2, z3, RVs.ml (l := g.ml) _ z4⟩⟩
        | _ => exact r'
      | bad => rw [hF] at q; exact q
  have kIn : W.K.In s.heap := by rw [← c.ka]; exact I.kIn
  have kIn2 := I2.kIn
  rw [c.ka] at kIn2
  have hb2 := hb _ (Value.ref (s.heap.objs.size + 1) :: us) kIn2 (by rw [List.append_nil]; exact hl)
  rw [List.append_nil] at hb2
  have run := G.run _ X.stack _ _ ⟨Value.ref (s.heap.objs.size + 1) :: us, []⟩ (Value.ref (s.heap.objs.size + 1) :: us) _ _ _ (hr.make (W.cl cn) us []) (guards_make c.gu) (e0.make (W.cl cn) us []) hb2 r2 (by rw [← r2.length] at hl; exact hl) hsp
  rw [← c.pr, ← c.wo] at run
  refine wpAny_call (make_map (f := a) kIn M.makes M.init (beq_iff_eq.mp M.fn) (codeAny_mono run fun r s' hq' => ?_))
  cases r with
  | error e => exact c.tk e s' (XE.of_call I2 (fun _ _ _ z => z) hq')
  | ok fl =>
    cases fl with
    | ret u =>
      obtain ⟨v, H', I3, rv, ev, q3⟩ := I2.after hq'
      subst ev
      exact ⟨rv, ⟨V.ref (s.heap.objs.size + 1), H', I3, rfl, q3⟩⟩
    | next => exact False.elim hq'
    | brk => exact False.elim hq'
    | cont => exact False.elim hq'
theorem snd_mak {e : Expr} {es : List Expr} {fs : Exs} {x : Str} {cn : String} {i : Nat} {p pos : Pos} (hg : glbB sc x = true) (hf : (x, cn, i) ∈ lw.mks) (hs : (e :: es).all noStar = true) (hdb : (x == ("__debug__" : Str)) = false) (ha : SndA F lw sc (e :: es) fs) :
    Snd F lw sc (.Call (.Name x p) (e :: es) [] pos) (makE cn (F i) fs) := by
  intro W E X c
  obtain ⟨a, fd, ps, k, hm, M, G, hb, hr, hbad⟩ := c.gb.mak _ hf
  refine ⟨fun pins s σ H Q I h => ?_⟩
  obtain ⟨g, st, J, q⟩ := h
  rw [List.all_cons, Bool.and_eq_true] at hs
  refine wpAny_Call_Name_kw (ld_glob I (gl_of c hg) (by rw [c.gm]; exact hm) ?_ hdb)
  refine PySem.W.callWith_K (h₀ := X.base) I.ok.mod.kin (by rw [c.ka]; exact M.kp) (thn ((ha W E X c).run pos pins s σ H (fun vs H1 => ∃ g1 st1 ds, SI W g1 st1 σ H1 ∧ RVs W g1 H1 ds vs ∧ Post W E σ (RVl W) g1 H1 (match F i (.glb st1.gh.length :: ds) (st1.gh ++ [.ins cn [] []]) with
      | .ok .non gh => .ok (.glb st1.gh.length) { st1 with gh := gh }
      | .ok _ _ => .bad
      | .ex x gh => .ex x { st1 with gh := gh }
      | .bad => .bad) Q)
    I ⟨g, st, J, Post.bind J.sok q fun g1 st1 ds vs H1 J1 e1 r1 q1 => ⟨g1, st1, ds, J1, r1, q1⟩⟩) fun us s1 ⟨vs, H1, I1, rv, g1, st1, ds, J1, r1, q1⟩ => ⟨I1.kIn, go_make (x := x) c M G hb hr hbad I1 rv J1 r1 q1⟩) (starEach_cons hs.1) (star_any hs.2)
theorem snd_mak0 {x : Str} {cn : String} {i : Nat} {p pos : Pos} (hg : glbB sc x = true) (hf : (x, cn, i) ∈ lw.mks) (hdb : (x == ("__debug__" : Str)) = false) : Snd F lw sc (.Call (.Name x p) [] [] pos) (makE cn (F i) nilE) := by
  intro W E X c
  obtain ⟨a, fd, ps, k, hm, M, G, hb, hr, hbad⟩ := c.gb.mak _ hf
  refine ⟨fun pins s σ H Q I h => ?_⟩
  obtain ⟨g, st, J, q⟩ := h
  refine wpAny_Call_Name_kw (ld_glob I (gl_of c hg) (by rw [c.gm]; exact hm) ?_ hdb)
  exact PySem.W.callWith_K0 I.kIn (by rw [c.ka]; exact M.kp) (go_make (x := x) c M G hb hr hbad I .nil J (by simp [RVs]) q)
end
end Cv
end
section
set_option Elab.async false
set_option linter.all false
set_option maxRecDepth 100000
set_option maxHeartbeats 1000000
namespace Cv
open PySem PySem.Spec PyProof.Rows L2
def entry (n : Nat) (ds : List DV) (gh : List Ob) : Sta := ⟨ds.map some ++ List.replicate (n - ds.length) none, [], gh⟩
def leave : Out Sta Fl → Out (List Ob) DV
  | .ok (.rt d) s => .ok d s.gh
  | .ok .nx s => .ok .non s.gh
  | .ex x s => .ex x s.gh
  | _ => .bad
def runF (n np : Nat) (b : Sm) : Fn := fun ds gh => if ds.length = np then leave (b (entry n ds gh)) else .bad
section
variable {W : Wd} {T : Cal} {lw : Lw} {sc : Sc} {E : WX} {X : Cx} {σ : L2.St} {H : Hp} {g : Gh} {st : Sta} {D : Ends}
theorem RVs.get' : ∀ {ds : List DV} {vs : List V} {i : Nat} {d : DV}, RVs W g H ds vs → ds[i]? = some d → ∃ v, vs[i]? = some v ∧ RV W g H d v := fun h e => RVs.get h e
theorem entry_si {n : Nat} {N : List Str} {ds : List DV} {vs : List V} {gh : List Ob} (hN : N.length = n) (I : SI W g ⟨[], [], gh⟩ [] H) (r : RVs W g H ds vs) : SI W g (entry n ds gh) (start N vs) H where
  len := by
    have := r.length
    unfold entry L2.start
    simp [hN, this]
  env := fun i d hi => by
    unfold entry at hi
    have hl := r.length
    by_cases h : i < ds.length
    · rw [List.getElem?_append_left (by simpa using h), List.getElem?_map] at hi
      cases hd : ds[i]? with
      | none => rw [hd] at hi; cases hi
      | some d' =>
        rw [hd] at hi
        cases hi
        obtain ⟨v, h1, h2⟩ := r.get hd
        refine ⟨v, ?_, RVl.of h2⟩
        unfold L2.start
        rw [List.getElem?_append_left (by rw [List.length_map, hl]; exact h), List.getElem?_map, h1]
        rfl
    · rw [List.getElem?_append_right (by simpa using h), List.getElem?_replicate] at hi
      split at hi <;> cases hi
  ll := I.ll
  lo := I.lo
  gl := I.gl
  go := I.go
  nd := I.nd
  sok := I.sok
theorem Ext.drop {g' : Gh} {H' : Hp} (h0 : g.ml = []) (e : Ext g H g' H') : Ext g H { g' with ml := [] } H' where
  s := e.s
  l := ⟨[], by rw [h0]; rfl⟩
  m := e.m
  kp := e.kp
  ns := e.ns
  nl := fun a h => absurd h List.not_mem_nil
  nm := e.nm
  al := e.al
theorem PostS_leave {o : Out Sta Fl} {Q : VK} {E : XK} (h0 : g.ml = [])
    (q : match leave o with
      | .ok d gh' => ∀ g' v H', SI W g' ⟨[], [], gh'⟩ [] H' → Ext g H g' H' → RV W g' H' d v → Q v H'
      | .ex x gh' => ∀ g' c dd H', SI W g' ⟨[], [], gh'⟩ [] H' → Ext g H g' H' → RX W g' H' x c dd → E c dd H'
      | .bad => False) : PostS W (fun c d _ H => E c d H) g H o { nx := fun _ H' => Q .non H', rt := Q } := by
  cases o with
  | bad => exact q
  | ex x s' =>
    intro g' σ' c dd H' I' e' r'
    refine q { g' with ml := [] } c dd H' I'.toCallee (e'.drop h0) ?_
    cases x with
    | xc n fs' ds' =>
      obtain ⟨h1, h2⟩ := r'
      exact ⟨h1, h2.imp id fun ⟨a', fvs, z1, z2, z3, z4⟩ => ⟨a', fvs, z1, z2, z3, RVs.ml (l := []) _ z4⟩⟩
    | _ => exact r'
  | ok fl s' =>
    cases fl with
    | nx => exact fun g' σ' H' I' e' => q { g' with ml := [] } .non H' I'.toCallee (e'.drop h0) (by simp [RV])
    | bk => exact q.elim
    | ct => exact q.elim
    | rt d => exact fun g' σ' v H' I' e' r => q { g' with ml := [] } v H' I'.toCallee (e'.drop h0) (RV.ml (l := []) _ r)
theorem guards_deeper {A : Around} {env : Env} (h : A.guards = some []) : (A.deeper env).guards = some [] := by
  first | exact h | simpa [Around.deeper] using h
theorem fng_of {lw : Lw} {k i : Nat} {f : Addr} {name qual : Str} {params : Arguments} {body : List Stmt} {scope : Scope} {dV kV doc pm cdv ct oc : Value} {an od : Option Addr} {osl : Array (Option Value)} {N ps : List Str} {b : Sm}
    (lk : W.K.lookup f = some ⟨oc, od, .func (PySem.W.fnOf name qual params body scope dV kV doc pm an cdv ct), osl⟩) (hcd : PySem.W.codeIn W.K cdv qual = true) (S : FnScope N ps scope) (hT : T i = runF N.length ps.length b)
    (hs : SndB' T lw ⟨scope.names, N, true⟩ body b) (gb : ∀ A : Around, Room k A → Glb W T lw A) : FnG W (k + 1) f (PySem.W.fnOf name qual params body scope dV kV doc pm an cdv ct) ps (spOf W T i) := by
  refine ⟨fun A outer s H args us vs Q E hr hg e0 hb r hl hsp => ?_⟩
  have KX : W.K.In s.heap := e0.mod.kin.keeps fun b o e => (e0.bs b o e).1
  have lim : s.heap.NoLimit := e0.mod.nolimit.keeps fun b o e => (e0.bs b o e).1
  have hkind : ∀ y ∈ ps.zip us, scope.names.lookup y.1 = some .local ∨ (scope.names.lookup y.1 = some .cell ∧ ((cellsFrom (s.heap.objs.size + 1) scope.names []).lookup y.1).isSome = true) := fun ⟨n, v⟩ hy => by
    rcases S.par n (List.of_mem_zip hy).1 with q | q
    · exact .inl q
    · exact .inr ⟨q, PySem.W.cellsFrom_some _ _ _ (.inl q)⟩
  refine codeAny_call_function hr.depth (KX _ _ lk) rfl S.co S.gen rfl (PySem.W.codeRec_of KX hcd) (hb _ _ _ _ ?_)
  refine wpAny_newFunctionEnv_cells S.kind hkind fun env he s1 x => ?_
  subst he
  refine ⟨lim.keeps x.toInCall.keep, codeAny_func ?_⟩
  have I : Inv (cxOf (CX W.P W.w) W.P W.w W.K W.mg W.base N qual scope f cdv A outer s H E) [] (start N vs) H s1 := inv_start S hr.hd e0 hl r x
  have ck : Cok W T lw ⟨scope.names, N, true⟩ (fun c d _ H => E c d H) (cxOf (CX W.P W.w) W.P W.w W.K W.mg W.base N qual scope f cdv A outer s H E) :=
    ⟨rfl, rfl, rfl, rfl, rfl, rfl, S.nd, fun x k h => ⟨fun _ => h, fun z => .inl (z ▸ h)⟩, rfl, guards_deeper hg, (hr.deeper _).mono (Nat.zero_le _), takes_of rfl rfl rfl rfl, fun x _ => rfl, gb _ (hr.deeper _), fun _ => passes_of rfl, fun _ => S.kind, fun _ => rfl, fun _ => rfl⟩
  obtain ⟨g, ds, gh, I0, r0, q0⟩ := hsp
  have hds : ds.length = ps.length := by rw [← r0.length]; exact hl
  rw [hT] at q0
  unfold runF at q0
  rw [if_pos hds] at q0
  have h0 : g.ml = [] := List.length_eq_zero_iff.mp I0.ll
  have hq : TSv W (fun c d _ H => E c d H) b { nx := fun _ H' => Q .non H', rt := Q } (start N vs) H := ⟨g, entry N.length ds gh, entry_si rfl I0 r0, PostS_leave h0 q0⟩
  refine wpAny_mono ((hs W _ _ ck).run [] s1 (start N vs) H _ I hq) (fun fl s' hs => ?_) fun e s' hs => hs
  have fin : ∀ {σ' : L2.St} {H' : Hp} {v : V} {u : Value}, Inv (cxOf (CX W.P W.w) W.P W.w W.K W.mg W.base N qual scope f cdv A outer s H E) [] σ' H' s' → RelV v u → Q v H' → CE outer W.P W.w H s Q u s' :=
    fun {σ' H' v u} J rv q => ⟨v, H', J.os, J.bare, J.base, J.hok, rv, q⟩
  cases fl with
  | ret u =>
    obtain ⟨v, σ', H', J, rv, q⟩ := hs
    exact fin J rv q
  | next =>
    obtain ⟨σ', H', J, q⟩ := hs
    exact fin (v := V.non) (u := Value.none) J rfl q
  | brk =>
    obtain ⟨_, _, _, q⟩ := hs
    exact False.elim q
  | cont =>
    obtain ⟨_, _, _, q⟩ := hs
    exact False.elim q
end

theorem law_sp {W : Wd} {T : Cal} {i : Nat} {H : Hp} {a : Addr} {ns : List Int} {gh : List Ob} (hS : SqL W.K H a (ns.map V.int)) (ht : T i [.scr ns] [] = .ok (.bl true) gh) : spOf W T i [.ref a] H (fun v _ => v = .bl true) (fun _ _ _ => False) := by
  refine ⟨⟨fun b => H b ≠ none, [], []⟩, [.scr ns], [], ⟨rfl, fun i d h => by simp at h, rfl, fun n b o h => by simp at h, rfl, fun n o h => by simp at h, by simp, fun b h => h⟩, ?_, ?_⟩
  · refine RVs.one ?_
    simp only [RV]
    refine ⟨a, rfl, ?_⟩
    rcases hS with h | h
    · refine .inl ⟨?_, h⟩
      rcases h with h | ⟨o, h⟩
      · show H a ≠ none
        rw [h]; simp
      · show H a ≠ none
        rw [h]; simp
    · exact .inr (.inr h)
  · rw [ht]
    intro g' v H' _ _ r
    exact rv_bl.mp r
theorem law_callG {P : Program} {w : World} {K : PySem.W.Frag} {mg mb : Str → Option Value} {cl : String → Addr} {k i : Nat} {T : Cal} {fa a : Addr} {fd : FuncData} {x : Str} {s₁ : Shared} {vs : List Value} {ns : List Int} {gh : List Ob}
    (KX : K.In s₁.heap) (hns : s₁.heap.Ns mainGlobals mg) (hb : s₁.heap.Ns builtinsNs mb) (hbb : ∀ x : Str, x ≠ "__name__" → mb x = bootBuiltins x) (hlim : s₁.heap.NoLimit) (hg : s₁.gens = #[])
    (ha : s₁.heap.get? a = some { cls := .type "list", data := .seq vs.toArray }) (hi : IntsAre vs ns) (hl : ns.length ≤ sizeLine) (hr : Room k callerA)
    (F : ∀ base : Heap, K.In base → base.Ns mainGlobals mg → FnG ⟨P, w, K, mg, base, cl⟩ k fa fd [x] (spOf ⟨P, w, K, mg, base, cl⟩ T i)) (hbind : ∀ (s : Shared) (u : Value), BindsTo s fd ⟨[u], []⟩ [(x, u)]) (ht : T i [.scr ns] [] = .ok (.bl true) gh) :
    codeAny (model P w) callerA (.call (.ref fa) ⟨[.ref a], []⟩) (fun r s' => r = .ok (.ret (.bool true)) ∧ OldK s₁.heap s'.heap ∧ s'.os = s₁.os ∧ AllBare s'.gens) s₁ := by
  have rv := vals_ints hi
  have lenV := hi.length
  have core : ∀ H : Hp, Only H → SqL K H a (ns.map V.int) → HOk P w H s₁.heap → (∀ b, H b ≠ none → b = a) → (H a ≠ none → K.lookup a = none) →
      codeAny (model P w) callerA (.call (.ref fa) ⟨[.ref a], []⟩) (fun r s' => r = .ok (.ret (.bool true)) ∧ OldK s₁.heap s'.heap ∧ s'.os = s₁.os ∧ AllBare s'.gens) s₁ := by
    intro H hO hS hok hA hK
    have noA : ∀ {b : Addr} {o : Obj} {es : Array DictEntry} {ep : Nat}, s₁.heap.get? b = some o → o.data = .dict es ep → H b = none := fun {b o es ep} e d => by
      cases q : H b with
      | none => rfl
      | some u =>
        have e' : b = a := hA b (by rw [q]; simp)
        subst e'
        rw [ha] at e; cases e
        have d' : Data.seq vs.toArray _ = Data.dict es ep := d
        cases d'
    have nsK : ∀ {b : Addr} {m : Str → Option Value}, s₁.heap.Ns b m → (hidT s₁.heap H).Ns b m := fun {b m} ⟨o, es, ep, e, d, r⟩ => ⟨o, es, ep, hidT_get e (noA e d), d, r⟩
    have hKb : K.In (hidT s₁.heap H) := fun b o e => hidT_get (KX b o e) (by
      cases q : H b with
      | none => rfl
      | some u =>
        have e' : b = a := hA b (by rw [q]; simp)
        subst e'
        rw [hK (by rw [q]; simp)] at e; cases e)
    have hM : Mod K mg (hidT s₁.heap H) := ⟨hKb, nsK hns, ⟨mb, nsK hb, hbb⟩, let ⟨mc, h1, h2⟩ := hlim; ⟨mc, nsK h1, h2⟩⟩
    have e0 : Env0 P w K mg (hidT s₁.heap H) callerA [] s₁ H := ⟨rfl, hM, fun b o e => of_hidT e, Nat.le_of_eq (hidT_size _ _), trivial, fun b hb => absurd (show b ∈ ([] : List Addr) from hb) (by simp), hok, .of_eq hg⟩
    have G := F _ hKb (nsK hns)
    refine codeAny_mono (G.run callerA [] s₁ H ⟨[.ref a], []⟩ [.ref a] [.ref a] (fun v _ => v = .bl true) (fun _ _ _ => False) hr rfl e0 (hbind s₁ (.ref a)) (.cons rfl .nil) rfl (law_sp (W := ⟨P, w, K, mg, hidT s₁.heap H, cl⟩) hS ht)) fun r s' h => ?_
    cases r with
    | error e =>
      obtain ⟨_, _, _, _, _, _, _, _, _, _, _, _, z⟩ := (show CX P w [] H s₁ (fun _ _ _ => False) e s' from h)
      exact z.elim
    | ok fl =>
      cases fl with
      | next => exact False.elim h
      | brk => exact False.elim h
      | cont => exact False.elim h
      | ret u =>
        obtain ⟨v, H', os, bare, un, hok', r', q⟩ := h
        have q' : v = .bl true := q
        subst q'
        obtain rfl : u = Value.bool true := r'
        refine ⟨rfl, OldK.of_keep fun b o e => ?_, os, bare⟩
        cases q : H b with
        | none => exact un.keep b o e q (fun z => absurd (show b ∈ ([] : List Addr) from z) (by simp)) (by simp)
        | some u =>
          rcases hO b with z | ⟨ob, xs, z⟩
          · rw [q] at z; cases z
          · obtain ⟨e1, _⟩ := hok b _ z
            obtain ⟨e2, _⟩ := hok' b _ (un.frzs b ob _ z)
            rw [e] at e1; cases e1
            exact e2
  cases hk : K.lookup a with
  | some o =>
    have e := KX a o hk
    rw [ha] at e
    cases e
    exact core (fun _ => none) (fun _ => .inl rfl) (.inr ⟨_, vs.toArray, _, hk, rfl, rfl, rfl, by rw [List.size_toArray, lenV]; exact hl, by simpa using rv⟩) (fun b u z => by have z' : (none : Option HO) = some u := z; cases z') (fun b z => absurd rfl z) fun z => absurd rfl z
  | none =>
    refine core (fun b => if b = a then some (.frz { cls := .type "list", data := .seq vs.toArray } (.lst (ns.map V.int))) else none) (fun b => ?_) (.inl (.inr ⟨{ cls := .type "list", data := .seq vs.toArray }, if_pos rfl⟩)) (fun b u z => ?_) (fun b z => ?_) fun _ => hk
    · by_cases hb : b = a
      · exact .inr ⟨_, _, if_pos hb⟩
      · exact .inl (if_neg hb)
    · by_cases hb : b = a
      · have z' := (if_pos hb).symm.trans z
        cases z'
        subst hb
        exact ⟨ha, by rw [List.length_map]; exact hl, vs, _, rv, ha⟩
      · have z' := (if_neg hb).symm.trans z
        cases z'
    · by_cases hb : b = a
      · exact hb
      · exact absurd (if_neg hb) z
theorem walk_G {l : PySem.W.OpenLaw} {n k i : Nat} {q : Program} {loose : List Str} {XP : (Str → Option Value) → Heap → Prop} {YP : World → Heap → Prop} {d : DefRec} {x : Str} {T : Cal} {cl : PySem.W.Frag → String → Addr}
    (hn : l.most = some n) (hn2 : n ≤ sizeLine) (hdf : d.params.defaults = []) (hr : Room k callerA)
    (F : ∀ (w : World) (mg : Str → Option Value) (fa : Addr) (h : Heap), YP w h → h.Ns mainGlobals mg → mg d.name = some (.ref fa) →
      ∃ (K : PySem.W.Frag) (fd : FuncData), K.In h ∧ (∀ (s : Shared) (u : Value), BindsTo s fd ⟨[u], []⟩ [(x, u)]) ∧
        ∀ base : Heap, K.In base → base.Ns mainGlobals mg → FnG ⟨l.prog, w, K, mg, base, cl K⟩ k fa fd [x] (spOf ⟨l.prog, w, K, mg, base, cl K⟩ T i))
    (ht : ∀ ns : List Int, ns.length ≤ n → (∀ k ∈ ns, Builtin.Int.intBits k ≤ 1048576) → ∃ gh, T i [.scr ns] [] = .ok (.bl true) gh) :
    PySem.W.WalkO q loose XP YP l.row.toRowW d [] (fun f vs => PySem.call f vs) := by
  refine Att.attach_callB hn hdf fun w s₀ s₁ mg mb fa o pm cd doc a vs ns G Y ho hd hcd hmg hobj hints hlen hbits hg => ?_
  obtain ⟨K, fd, KX, hb, hF⟩ := F w mg fa _ Y G.T.g hmg
  obtain ⟨gh, hgh⟩ := ht ns hlen hbits
  exact law_callG KX G.T.g G.T.b G.T.builtins G.T.nolimit hg hobj hints (Nat.le_trans hlen hn2) hr hF hb hgh
end Cv
end
section
set_option Elab.async false
set_option linter.all false
set_option maxRecDepth 100000
set_option maxHeartbeats 1000000
namespace Cv
abbrev ltF : DV → DV → Option DV := icmp fun i j => decide (i < j)
abbrev leF : DV → DV → Option DV := icmp fun i j => decide (i ≤ j)
abbrev gtF : DV → DV → Option DV := icmp fun i j => decide (j < i)
abbrev geF : DV → DV → Option DV := icmp fun i j => decide (j ≤ i)
open PySem PySem.Spec PyProof.Rows L2
section
variable {W : Wd} {F : Cal} {lw : Lw} {sc : Sc} {E : WX} {X : Cx} {σ : L2.St} {H : Hp} {g : Gh} {st : Sta} {D : Ends}
theorem swapped_const {ts vs : List Expr} {k k2 : Nat} {p p2 : Pos} {env : Env} (h : vs.all (foldedForSure 8) = true) : swappedStores [.Tuple ts k p] (.Tuple vs k2 p2) env = pure none := by
  unfold swappedStores
  simp only [h, if_true]
  repeat' split
  all_goals rfl
theorem swapped_cell {ts vs : List Expr} {k k2 : Nat} {p p2 : Pos} {env : Env} (h : (ts.any fun | .Name id _ => !(env.kindOf id == some .local) | _ => false) = true) : swappedStores [.Tuple ts k p] (.Tuple vs k2 p2) env = pure none := by
  have hl : ∀ (line : Nat) (ts : List Expr), (ts.any fun | .Name id _ => !(env.kindOf id == some .local) | _ => false) = true → (ts.filterMap fun
      | .Name id pos => if env.kindOf id == some .local && pos.line == line then some id else none
      | _ => none).length < ts.length := by
    intro line ts
    induction ts with
    | nil => intro h; cases h
    | cons e es ih =>
      intro h
      rw [List.any_cons, Bool.or_eq_true] at h
      have le : ∀ es : List Expr, (es.filterMap fun
          | .Name id pos => if env.kindOf id == some .local && pos.line == line then some id else none
          | _ => none).length ≤ es.length := fun es => List.length_filterMap_le _ _
      rw [List.filterMap_cons, List.length_cons]
      rcases h with h | h
      · have : (match e with
          | .Name id pos => if env.kindOf id == some .local && pos.line == line then some id else none
          | _ => none) = none := by
          cases e <;> try rfl
          rename_i id pos
          have h' : (!(env.kindOf id == some .local)) = true := h
          have h2 : (env.kindOf id == some NameKind.local) = false := by simpa using h'
          simp only [h2, Bool.false_and]
          rfl
        rw [this]
        exact Nat.lt_succ_of_le (le es)
      · have := ih h
        split
        · omega
        · rw [List.length_cons]; omega
  unfold swappedStores
  simp only
  split
  · rfl
  · split
    · rfl
    · split
      · rfl
      · rename_i hx
        exfalso
        apply hx
        have := hl ((ts.head?.map (·.pos.line)).getD 0) ts h
        rw [Bool.or_eq_true]
        left
        exact bne_iff_ne.mpr (Nat.ne_of_lt this)
theorem cell_any (c : Cok W F lw sc E X) {ts : List Expr} (h : (ts.any fun | .Name id _ => decide (sc.names.lookup id = some .cell) | _ => false) = true) : (ts.any fun | .Name id _ => !(X.env.kindOf id == some .local) | _ => false) = true := by
  obtain ⟨e, he, h⟩ := List.any_eq_true.mp h
  refine List.any_eq_true.mpr ⟨e, he, ?_⟩
  cases e <;> try (cases h; done)
  rename_i id pos
  have h' : sc.names.lookup id = some .cell := of_decide_eq_true h
  have h2 := (c.so id _ h').1 (by decide)
  show (!(X.env.scope.names.lookup id == some NameKind.local)) = true
  rw [h2]; rfl
theorem snd_parC {ts es : List Expr} {is : List Nat} {fs : List Ex} {k k2 : Nat} {p p2 pos : Pos} (h : namesOk sc ts is = true) (hw : es.all (foldedForSure 8) = true) (hz : is.length ≤ 1000) (ha : SndL F lw sc es (evs fs)) :
    SndS F lw sc (.Assign [.Tuple ts k p] (.Tuple es k2 p2) pos) (parS is fs) := snd_parT h (fun _ _ _ _ => swapped_const hw) hz ha
theorem snd_parK {ts es : List Expr} {is : List Nat} {fs : List Ex} {k k2 : Nat} {p p2 pos : Pos} (h : namesOk sc ts is = true) (hw : (ts.any fun | .Name id _ => decide (sc.names.lookup id = some .cell) | _ => false) = true) (hz : is.length ≤ 1000) (ha : SndL F lw sc es (evs fs)) :
    SndS F lw sc (.Assign [.Tuple ts k p] (.Tuple es k2 p2) pos) (parS is fs) := snd_parT h (fun _ _ _ c => swapped_cell (cell_any c hw)) hz ha
def revM (m : Md) (f : Ex) : Ex := fun st => (f st).bind fun d s => match look s d with
  | .lst ds => keep m ds.reverse s
  | _ => .bad
theorem snd_revM {a : Expr} {fa : Ex} {k : Nat} {p1 p2 p3 pos : Pos} (m : Md) (ha : Snd F lw sc a fa) : Snd F lw sc (.Subscript a (.Slice none none (some (.UnaryOp .USub (.Constant (.int 1) k p1) p2)) p3) pos) (revM m fa) := fun W E X c => by
  refine pe_imp (pe_revL (ha W E X c)) fun σ H Q ⟨g, st, I, q⟩ => ⟨g, st, I, Post.bind I.sok q fun g1 st1 d v H1 I1 e1 r1 q1 => ?_⟩
  have cu := I1.look r1
  cases hl : look st1 d <;> rw [hl] at q1 cu <;> try exact q1.elim
  rename_i ds
  rw [cur_lst] at cu
  obtain ⟨a, vs, rfl, h1, r⟩ := cu
  exact ⟨a, vs, rfl, SqL.of h1, post_keep I1 r.reverse q1⟩
end
end Cv
end
section
set_option Elab.async false
set_option linter.all false
set_option maxRecDepth 100000
set_option maxHeartbeats 1000000
namespace Cv
open PySem PySem.Spec PyProof.Rows L2
def raiS (c : String) (fs : List Str) (k : Exs) : Sm := fun st => (k st).bind fun ds s => if ds.length = fs.length ∧ fs.length ≤ 1000 then .ex (.xc c fs.reverse ds.reverse) s else .bad
def badS : Sm := fun _ => .bad
abbrev XF := List Str → List DV → Sta → Option DV
def tryS (b : Sm) (cat : List (String × Bool)) (i : Nat) (f : XF) : Sm := fun st => match b st with
  | .ex (.xc c fs ds) s => (match cat.lookup c with
    | some true => if i < s.env.length then (match f fs ds { s with env := s.env.set i none } with
      | some d => .ok (.rt d) { s with env := s.env.set i none }
      | none => .bad) else .bad
    | some false => .ex (.xc c fs ds) s
    | none => .bad)
  | o => o
section
variable {W : Wd} {F : Cal} {lw : Lw} {sc : Sc} {E : WX} {X : Cx} {σ : L2.St} {H : Hp} {g : Gh} {st : Sta} {D : Ends}
theorem snd_bad {s : Stmt} (h : ∀ X : Cx, PS X s (fun _ _ _ => False)) : SndS F lw sc s badS := fun W E X c => ps_imp (h X) fun D σ H ⟨g, st, I, q⟩ => q.elim
theorem PSs_never {e : Option Expr} {c : Option Expr} {pos : Pos} (X : Cx) : PS X (.Raise e c pos) (fun _ _ _ => False) := ⟨fun _ _ _ _ _ _ h => h.elim⟩
theorem snd_raiseBad {e : Option Expr} {c : Option Expr} {pos : Pos} : SndS F lw sc (.Raise e c pos) badS := snd_bad PSs_never
theorem snd_raise {e : Expr} {es : List Expr} {k : Exs} {x : Str} {c : String} {fs : List Str} {p pos pos' : Pos} (hx : x = .ofString c) (hf : (c, fs) ∈ lw.exs) (hg : glbB sc x = true) (hdb : (x == ("__debug__" : Str)) = false) (hs : (e :: es).all noStar = true) (ha : SndA F lw sc (e :: es) k) :
    SndS F lw sc (.Raise (some (.Call (.Name x p) (e :: es) [] pos)) none pos') (raiS c fs k) := by
  intro W E X ck
  obtain ⟨⟨glo, oex, _, _, f, fd, ps, ini, isf, F1, hb⟩, room⟩ := ck.gb.xc _ hf
  rw [List.all_cons, Bool.and_eq_true] at hs
  have F1' : FnOk X.prog X.w X.K X.mg X.base (L2.CX X.prog X.w) 0 f fd ps (spX (W.cl c) fs) := by
    rw [ck.pr, ck.wo, ck.ka, ck.gm, ck.ba]; exact F1
  have hm : X.mg x = some (.ref (W.cl c)) := by rw [ck.gm, hx]; exact glo
  have mk := pmk_oex (X := X) (x := x) (p := p) (pos := pos) (e := e) (es := es) (by rw [ck.ka]; exact oex) (by rw [ck.ka]; exact ini) (by rw [ck.ka]; exact isf) F1' room (by rw [ck.ka]; exact hb) .nil (passes_call ck.tk fun _ _ _ _ z => z.elim) (gl_of ck hg) hm (ha W E X ck) hdb (starEach_cons hs.1) (star_any hs.2)
  refine ps_imp (ps_raise ck.calm ck.tk mk) fun D σ H ⟨g, st, I, q⟩ => ⟨g, st, I, ?_⟩
  unfold raiS at q
  cases hk : k st with
  | bad => rw [hk] at q; exact q.elim
  | ex y s' => rw [hk] at q; exact fun g' c' dd H' I' e' r' => q g' σ c' dd H' I' e' r'
  | ok ds s' =>
    rw [hk] at q
    simp only [Out.bind_ok] at q
    intro g1 vs H1 I1 e1 r1
    split at q
    · rename_i hl
      have hvl : vs.length = fs.length := by rw [r1.length]; exact hl.1
      refine ⟨by omega, fun a ha0 => ⟨a, vs, by simp, hvl, upd_same, fun dx hd hne => ?_⟩⟩
      have hd1 : H1 dx = none := by rw [upd_ne hne] at hd; exact hd
      refine ⟨rfl, dx, (fs.zip vs).reverse, upd_same, by rw [upd_ne hne, upd_same], hd1, ?_⟩
      have eh : upd (del (upd (upd (upd H1 a (exo a (W.cl c) none)) dx (exd dx (fs.zip vs).reverse)) a (exo a (W.cl c) (some dx))) a) dx (.xd (fs.zip vs).reverse) = upd H1 dx (.xd (fs.zip vs).reverse) := by
        funext b
        by_cases h1 : b = dx
        · rw [h1, upd_same, upd_same]
        · rw [upd_ne h1, upd_ne h1]
          by_cases h2 : b = a
          · rw [h2, del_same, ha0]
          · rw [del_ne h2, upd_ne h2, upd_ne h1, upd_ne h2]
      show E (.ref (W.cl c)) (some dx) σ (upd (del (upd (upd (upd H1 a (exo a (W.cl c) none)) dx (exd dx (fs.zip vs).reverse)) a (exo a (W.cl c) (some dx))) a) dx (.xd (fs.zip vs).reverse))
      rw [eh]
      obtain ⟨I2, e2⟩ := I1.newVal (u := .xd (fs.zip vs).reverse) hd1
      refine q _ σ _ _ _ I2 (e1.trans I.sok e2) ⟨rfl, .inr ⟨dx, (fs.zip vs).reverse, rfl, upd_same, ?_, ?_⟩⟩
      · rw [List.map_reverse, List.map_fst_zip (by omega)]
      · rw [List.map_reverse, List.map_snd_zip (by omega)]
        exact RVs.reverse (RVs.ext e2 I1.sok _ r1)
    · exact q.elim
end
end Cv
end
section
set_option Elab.async false
set_option linter.all false
set_option maxRecDepth 100000
set_option maxHeartbeats 1000000
namespace Cv
open PySem PySem.Spec PyProof.Rows L2
section
variable {W : Wd} {F : Cal} {lw : Lw} {sc : Sc} {E : WX} {X : Cx} {σ : L2.St} {H : Hp} {g : Gh} {st : Sta} {D : Ends}
theorem RX.ext {g' : Gh} {H' : Hp} {x : DV} {c : Value} {dd : Option Addr} (I : SI W g st σ H) (e : Ext g H g' H') (r : RX W g H x c dd) : RX W g' H' x c dd := by
  cases x with
  | xc n fs ds =>
    obtain ⟨h1, h2⟩ := r
    refine ⟨h1, h2.imp id fun ⟨a, fvs, z1, z2, z3, z4⟩ => ⟨a, fvs, z1, ?_, z3, RVs.ext e I.sok _ z4⟩⟩
    rw [e.kp a (by rw [z2]; simp) (.inr ⟨fun hm => ?_, fun hm => ?_⟩)]
    · exact z2
    · obtain ⟨k, hk⟩ := List.mem_iff_getElem?.mp hm
      have hl : k < st.lh.length := by rw [← I.ll]; exact (List.getElem?_eq_some_iff.mp hk).1
      obtain ⟨a', e', r', _, pl⟩ := I.lo k _ _ (List.getElem?_eq_getElem hl)
      rw [hk] at e'; cases e'
      revert r' pl
      cases (st.lh[k]).2 with
      | lst ds => rintro _ ⟨vs, hq, _⟩; rw [z2] at hq; cases hq
      | dct ks ds => rintro _ ⟨vs, hq, _⟩; rw [z2] at hq; cases hq
      | ins c fs ds => rintro hpl _; exact hpl.elim
    · obtain ⟨k, hk⟩ := List.mem_iff_getElem?.mp hm
      have hl : k < st.gh.length := by rw [← I.gl]; exact (List.getElem?_eq_some_iff.mp hk).1
      obtain ⟨a', e', r', _⟩ := I.go k _ (List.getElem?_eq_getElem hl)
      rw [hk] at e'; cases e'
      revert r'
      cases st.gh[k] with
      | lst ds => rintro ⟨vs, hq, _⟩; rw [z2] at hq; cases hq
      | dct ks ds => rintro ⟨vs, hq, _⟩; rw [z2] at hq; cases hq
      | ins c fs ds => rintro ⟨dx, fvs, hq, _⟩; rw [z2] at hq; cases hq
  | _ => exact r
def TXg {β : Type} (W : Wd) (i : Nat) (a : Addr) (cls : Value) (d : Option Addr) (c0 : String) (rel : Gh → Hp → β → V → Prop) (f : List Str → List DV → Sta → Option β) : TE := fun σ H Q => ∃ g st fs ds y, SI W g st σ H ∧ σ[i]? = some (some (.ref a)) ∧ RX W g H (.xc c0 fs ds) cls d ∧ f fs ds st = some y ∧
  ∀ g' v H', SI W g' st σ H' → Ext g H g' H' → rel g' H' y v → Q v H'
def TXv (W : Wd) (i : Nat) (a : Addr) (cls : Value) (d : Option Addr) (c0 : String) (f : XF) : TE := fun σ H Q => ∃ g st fs ds y, SI W g st σ H ∧ σ[i]? = some (some (.ref a)) ∧ RX W g H (.xc c0 fs ds) cls d ∧ f fs ds st = some y ∧
  ∀ g' v H', SI W g' st σ H' → Ext g H g' H' → RV W g' H' y v → Q v H'
abbrev XFs := List Str → List DV → Sta → Option (List DV)
def TXs (W : Wd) (i : Nat) (a : Addr) (cls : Value) (d : Option Addr) (c0 : String) (f : XFs) : TA := fun σ H Q => ∃ g st fs ds ys, SI W g st σ H ∧ σ[i]? = some (some (.ref a)) ∧ RX W g H (.xc c0 fs ds) cls d ∧ f fs ds st = some ys ∧
  ∀ g' vs H', SI W g' st σ H' → Ext g H g' H' → RVs W g' H' ys vs → Q vs H'
def SX (lw : Lw) (sc : Sc) (i : Nat) (c0 : String) (e : Expr) (f : XF) : Prop := ∀ F W E X, Cok W F lw sc E X → ∀ a oe cls d pn, Zc cls d oe → (∃ vs, oe.data = .fields vs) → PE (X.suite a ((a, oe) :: pn)) e (TXv W i a cls d c0 f)
def SXA (lw : Lw) (sc : Sc) (i : Nat) (c0 : String) (es : List Expr) (f : XFs) : Prop := ∀ F W E X, Cok W F lw sc E X → ∀ a oe cls d pn, Zc cls d oe → (∃ vs, oe.data = .fields vs) → PA (X.suite a ((a, oe) :: pn)) es (TXs W i a cls d c0 f)
def xCon (d : DV) : XF := fun _ _ _ => some d
def xFld (n : Str) : XF := fun fs ds _ => fGet fs ds n
def xVar (j : Nat) : XF := fun _ _ st => match st.env[j]? with
  | some (some (.loc _)) => none
  | some (some d) => some d
  | _ => none
def xNil : XFs := fun _ _ _ => some []
def xCons (f : XF) (k : XFs) : XFs := fun fs ds st => (f fs ds st).bind fun y => (k fs ds st).map fun ys => y :: ys
def xTup (k : XFs) : XF := fun fs ds st => (k fs ds st).bind fun ys => if ys.length ≤ sizeLine then some (.tup ys) else none
def xOp (r : DV → DV → Option DV) (f k : XF) : XF := fun fs ds st => (f fs ds st).bind fun y => (k fs ds st).bind fun z => if isRef y || isRef z then none else r y z
def xAnd (f k : XF) : XF := fun fs ds st => (f fs ds st).bind fun y => match y with
  | .bl true => k fs ds st
  | .bl false => some (.bl false)
  | _ => none
def SXB (lw : Lw) (sc : Sc) (i : Nat) (c0 : String) (op : BoolOp) (es : List Expr) (f : XF) : Prop := ∀ pos F W E X, Cok W F lw sc E X → ∀ a oe cls d pn, Zc cls d oe → (∃ vs, oe.data = .fields vs) → PE (X.suite a ((a, oe) :: pn)) (.BoolOp op es pos) (TXv W i a cls d c0 f)
variable {i : Nat} {c0 : String}
theorem txc {a : Addr} {cls : Value} {d : Option Addr} {y : DV} {v : V} (h : ∀ g H, RV W g H y v) {Q : VK} (q : TXv W i a cls d c0 (xCon y) σ H Q) : tC v σ H Q := by
  obtain ⟨g, st, fs, ds, z, I, _, _, e, q⟩ := q
  cases e
  exact q g v H I (Ext.refl _ _) (h g H)
theorem sx_int {j : Int} {k pos} : SX lw sc i c0 (.Constant (.int j) k pos) (xCon (.int j)) := fun F W E X c a oe cls d pn _ _ => pe_imp pe_int fun σ H Q q => txc (fun _ _ => by simp [RV]) q
theorem sx_str {j : Str} {k pos} : SX lw sc i c0 (.Constant (.str j) k pos) (xCon (.str j)) := fun F W E X c a oe cls d pn _ _ => pe_imp pe_str fun σ H Q q => txc (fun _ _ => by simp [RV]) q
theorem sx_var {j : Nat} {x : Str} {pos : Pos} (hN : sc.N[j]? = some x) (hv : visB sc x = true) (hd : (x == ("__debug__" : Str)) = false) (hc : (x == ("__classdict__" : Str)) = false) : SX lw sc i c0 (.Name x pos) (xVar j) := fun F W E X c a oe cls d pn _ _ =>
  pe_imp (pe_var (X := X.suite a ((a, oe) :: pn)) (i := j) (by show X.N[j]? = _; rw [c.na]; exact hN) (show Vis X.env.scope x from vis_of c hv) hd hc) fun σ H Q ⟨g, st, fs, ds, y, I, _, _, e, q⟩ => by
    unfold xVar at e
    split at e
    · cases e
    · rename_i z hz hn
      cases e
      obtain ⟨v, h1, h2⟩ := I.env j _ hn
      refine ⟨v, h1, q g v H I (Ext.refl _ _) ?_⟩
      cases y with
      | loc n => exact absurd rfl (hz n)
      | _ => exact h2
    · cases e
theorem fGet_look : ∀ {fs : List Str} {ds : List DV} {fvs : List (Str × V)} {n : Str} {y : DV}, fvs.map (·.1) = fs → RVs W g H ds (fvs.map (·.2)) → fGet fs ds n = some y → ∃ v, fvs.lookup n = some v ∧ RV W g H y v
  | [], ds, fvs, n, y, _, _, h => by cases ds <;> cases h
  | f :: fs, [], fvs, n, y, _, _, h => by cases h
  | f :: fs, d :: ds, [], n, y, h1, _, _ => by cases h1
  | f :: fs, d :: ds, (f', v) :: fvs, n, y, h1, h2, h3 => by
    rw [List.map_cons] at h1 h2
    injection h1 with e1 e2
    have e1 : f' = f := e1
    subst e1
    simp only [RVs] at h2
    obtain ⟨v', r, e3, r1, r2⟩ := h2
    injection e3 with e3 e4
    have e3 : v = v' := e3
    subst e3 e4
    unfold fGet at h3
    split at h3
    · rename_i hn
      cases h3
      subst hn
      exact ⟨v, by simp [List.lookup], r1⟩
    · rename_i hn
      obtain ⟨w, h4, h5⟩ := fGet_look e2 r2 h3
      refine ⟨w, ?_, h5⟩
      have hb : (n == f') = false := beq_eq_false_iff_ne.mpr fun z => hn z.symm
      simp [List.lookup, hb, h4]
theorem sx_fld {x n : Str} {fl : List Str} {p pos : Pos} (hf : (c0, fl) ∈ lw.exs) (hn : n ∈ fl) (hN : sc.N[i]? = some x) (hv : visB sc x = true) (hd : (x == ("__debug__" : Str)) = false) (hc : (x == ("__classdict__" : Str)) = false) (hb : ∀ env : Env, attributeBase (.Name x p) n env (eval (.Name x p) env) = eval (.Name x p) env) :
    SX lw sc i c0 (.Attribute (.Name x p) n pos) (xFld n) := fun F W E X c a oe cls d pn hz hfl => by
  obtain ⟨⟨_, _, xf, no, _⟩, _⟩ := c.gb.xc _ hf
  refine pe_imp (pe_xf (C := W.cl c0) (by rw [c.ka]; exact xf) (by rw [c.ka]; exact no n hn) hz hfl (pe_var (X := X.suite a ((a, oe) :: pn)) (i := i) (by show X.N[i]? = _; rw [c.na]; exact hN) (show Vis X.env.scope x from vis_of c hv) hd hc) (hb _)) fun σ H Q ⟨g, st, fs, ds, y, I, hs, r, e, q⟩ => ?_
  obtain ⟨rc, rf⟩ := r
  refine ⟨.ref a, hs, rfl, rc, ?_⟩
  rcases rf with ⟨rfl, rfl, _⟩ | ⟨a', fvs, z1, z2, z3, z4⟩
  · cases e
  · obtain ⟨v, h1, h2⟩ := fGet_look z3 z4 e
    exact ⟨a', fvs, v, z1, z2, h1, q g v H I (Ext.refl _ _) h2⟩
theorem sxa_nil : SXA lw sc i c0 [] xNil := fun F W E X c a oe cls d pn _ _ => pa_imp pa_nil fun σ H Q ⟨g, st, fs, ds, y, I, hs, r, e, q⟩ => by
  cases e
  exact q g [] H I (Ext.refl _ _) (by simp [RVs])
theorem sxa_cons {e : Expr} {es : List Expr} {f : XF} {k : XFs} (hs : noStar e = true) (h : SX lw sc i c0 e f) (hk : SXA lw sc i c0 es k) : SXA lw sc i c0 (e :: es) (xCons f k) := fun F W E X c a oe cls d pn hz hf =>
  pa_imp (pa_cons (h F W E X c a oe cls d pn hz hf) (hk F W E X c a oe cls d pn hz hf) (starEach_cons hs)) fun σ H Q ⟨g, st, fs, ds, y, I, hs, r, e, q⟩ => by
    unfold xCons at e
    obtain ⟨y1, e1, e2⟩ := Option.bind_eq_some_iff.mp e
    obtain ⟨ys, e3, e4⟩ := Option.map_eq_some_iff.mp e2
    subst e4
    refine ⟨g, st, fs, ds, y1, I, hs, r, e1, fun g1 v1 H1 I1 x1 r1 => ⟨g1, st, fs, ds, ys, I1, hs, RX.ext I x1 r, e3, fun g2 vs H2 I2 x2 r2 => q g2 (v1 :: vs) H2 I2 (x1.trans I.sok x2) ?_⟩⟩
    simp only [RVs]
    exact ⟨v1, vs, rfl, RV.ext x2 I1.sok _ r1, r2⟩
theorem sx_tup {es : List Expr} {k : XFs} {n : Nat} {pos : Pos} (h : SXA lw sc i c0 es k) : SX lw sc i c0 (.Tuple es n pos) (xTup k) := fun F W E X c a oe cls d pn hz hf =>
  pe_imp (pe_tup (h F W E X c a oe cls d pn hz hf)) fun σ H Q ⟨g, st, fs, ds, y, I, hs, r, e, q⟩ => by
    unfold xTup at e
    obtain ⟨ys, e1, e2⟩ := Option.bind_eq_some_iff.mp e
    split at e2
    · rename_i hl
      cases e2
      refine ⟨g, st, fs, ds, ys, I, hs, r, e1, fun g1 vs H1 I1 x1 r1 => ⟨by rw [r1.length]; exact hl, fun p hp => ?_⟩⟩
      obtain ⟨I2, e2⟩ := I1.newVal (u := .tup vs) hp
      exact q _ _ _ I2 (x1.trans I.sok e2) (rv_new_tup hp I1.sok I1.there r1)
    · cases e2
theorem sx_op {op : CmpOp} {r : DV → DV → Option DV} {x y : Expr} {f k : XF} {pos : Pos} (o : ∀ F W E X, Cok W F lw sc E X → ∀ a pn, ∃ rr, OpR (Cx.suite X a pn) (compareOp op) rr ∧ Op2T W rr r) (hm : behindInMarks op y = false) (h : SX lw sc i c0 x f) (hk : SX lw sc i c0 y k) :
    SX lw sc i c0 (.Compare x [op] [y] pos) (xOp r f k) := fun F W E X c a oe cls d pn hz hf => by
  obtain ⟨rr, h1, h2⟩ := o F W E X c a ((a, oe) :: pn)
  refine pe_imp (pe_cmpR h1 (h F W E X c a oe cls d pn hz hf) (hk F W E X c a oe cls d pn hz hf) hm) fun σ H Q ⟨g, st, fs, ds, y, I, hs, r, e, q⟩ => ?_
  unfold xOp at e
  obtain ⟨y1, e1, e⟩ := Option.bind_eq_some_iff.mp e
  obtain ⟨y2, e2, e⟩ := Option.bind_eq_some_iff.mp e
  split at e
  · cases e
  · rename_i hr
    have hr1 : isRef y1 = false := by cases z : isRef y1 with
      | false => rfl
      | true => rw [z] at hr; exact absurd rfl hr
    have hr2 : isRef y2 = false := by cases z : isRef y2 with
      | false => rfl
      | true => rw [z, Bool.or_true] at hr; exact absurd rfl hr
    refine ⟨g, st, fs, ds, y1, I, hs, r, e1, fun g1 v1 H1 I1 x1 r1 => ⟨g1, st, fs, ds, y2, I1, hs, RX.ext I x1 r, e2, fun g2 v2 H2 I2 x2 r2 => ?_⟩⟩
    refine h2 g2 H2 _ _ _ _ y I2.sok I2.there (Cur.of (RV.ext x2 I1.sok _ r1)) (Cur.of r2) e Q fun g3 w H3 gr rw => ?_
    obtain ⟨I3, x3⟩ := I2.grow gr
    exact q g3 w H3 I3 ((x1.trans I.sok x2).trans I.sok x3) rw
theorem sxb_one {op : BoolOp} {x : Expr} {f : XF} (h : SX lw sc i c0 x f) : SXB lw sc i c0 op [x] f := fun pos F W E X c a oe cls d pn hz hf => pe_one (h F W E X c a oe cls d pn hz hf)
theorem sxb_and {x y : Expr} {es : List Expr} {f k : XF} (h : SX lw sc i c0 x f) (hk : SXB lw sc i c0 .And (y :: es) k) : SXB lw sc i c0 .And (x :: y :: es) (xAnd f k) := fun pos F W E X c a oe cls d pn hz hf =>
  pe_imp (pe_and (h F W E X c a oe cls d pn hz hf) (hk pos F W E X c a oe cls d pn hz hf)) fun σ H Q ⟨g, st, fs, ds, y, I, hs, r, e, q⟩ => by
    unfold xAnd at e
    obtain ⟨y1, e1, e⟩ := Option.bind_eq_some_iff.mp e
    refine ⟨g, st, fs, ds, y1, I, hs, r, e1, fun g1 v1 H1 I1 x1 r1 => ?_⟩
    cases y1 with
    | bl b =>
      refine ⟨b, by simpa [RV] using r1, ?_⟩
      cases b with
      | true =>
        rw [if_pos rfl]
        exact ⟨g1, st, fs, ds, y, I1, hs, RX.ext I x1 r, e, fun g2 v2 H2 I2 x2 r2 => q g2 v2 H2 I2 (x1.trans I.sok x2) r2⟩
      | false =>
        rw [if_neg Bool.false_ne_true]
        cases e
        exact q g1 _ H1 I1 x1 (by simp [RV])
    | _ => cases e
theorem sx_bool {op : BoolOp} {es : List Expr} {f : XF} {pos : Pos} (h : SXB lw sc i c0 op es f) : SX lw sc i c0 (.BoolOp op es pos) f := fun F W E X c => h pos F W E X c
theorem eqS_ok (c : Cok W F lw sc E X) (a : Addr) (pn : List (Addr × Obj)) : ∃ r, OpR (Cx.suite X a pn) (compareOp .Eq) r ∧ Op2T W r eqF := by
  refine ⟨_, (op_eqD (X := Cx.suite X a pn) c.units).or op_eq, fun g H x y v u d sok nm cx cy hf Q k => ?_⟩
  rw [show (Cx.suite X a pn).K = W.K from c.ka]
  obtain ⟨b, hb, rfl⟩ := Option.map_eq_some_iff.mp hf
  have q := k g _ H (Grow.refl _ _) (rv_bl.mpr rfl)
  rcases eqB_some hb with ⟨i, j, rfl, rfl, rfl⟩ | ⟨p, q', h1, h2, h3, h4, rfl⟩
  · rw [cur_str] at cx cy
    subst cx cy
    exact .inr ⟨rfl, by rw [dec_str]; exact q⟩
  · exact .inl ⟨p, q', dp_cur cx h1, dp_cur cy h2, h3, h4, q⟩
theorem snd_asgTL {es : List Expr} {k : Nat} {p pos pos2 : Pos} {elt : Expr} {gs : List Comprehension} {scope : Scope} {f : Ex} {t : Tg} (hg : SndG F lw sc (.Tuple es k p) t) (hw : ∀ env, swappedStores [.Tuple es k p] (.ListComp elt gs scope pos2) env = pure none) (h : Snd F lw sc (.ListComp elt gs scope pos2) f) : SndS F lw sc (.Assign [.Tuple es k p] (.ListComp elt gs scope pos2) pos) (asgS t f) := fun W E X c =>
  ps_imp (ps_asg (h W E X c) (hg W E X c) (by rfl) (hw _) rfl) fun D σ H q => tasg (fun _ _ _ z => z) q
theorem look_mem {α : Type} : ∀ {l : List (String × α)} {x : String} {b : α}, l.lookup x = some b → (x, b) ∈ l
  | [], _, _, h => by cases h
  | (y, c) :: l, x, b, h => by
    simp only [List.lookup] at h
    split at h
    · rename_i hb
      rw [eq_of_beq hb]
      cases h
      exact List.mem_cons_self
    · exact List.mem_cons_of_mem _ (look_mem h)
theorem Cok.tr {E' : WX} {pn : List (Addr × Obj)} {xe : Value → Shared → Prop} (c : Cok W F lw sc E X) (tk : Takes (X.tr pn xe) E') (po : PassesOwn (model X.prog X.w) X.A X.env xe) : Cok W F lw sc E' (X.tr pn xe) :=
  ⟨c.pr, c.wo, c.ka, c.gm, c.ba, c.na, c.nd, c.so, c.calm, c.gu, c.ro, tk, c.ce, c.gb, fun _ => po, c.kd, c.stk, c.frm⟩
theorem si_off {j : Nat} {v : V} (I : SI W g st σ H) : SI W g { st with env := st.env.set j none } (σ.set j (some v)) H where
  len := by rw [List.length_set, List.length_set]; exact I.len
  env := fun k d hk => by
    by_cases h : k = j
    · subst h
      rw [List.getElem?_set] at hk
      rw [if_pos rfl] at hk
      split at hk <;> cases hk
    · simp only at hk
      rw [List.getElem?_set_ne (fun z => h z.symm)] at hk
      obtain ⟨v', h1, h2⟩ := I.env k d hk
      exact ⟨v', by rw [List.getElem?_set_ne (fun z => h z.symm)]; exact h1, h2⟩
  ll := I.ll
  lo := I.lo
  gl := I.gl
  go := I.go
  nd := I.nd
  sok := I.sok
theorem snd_try {b : List Stmt} {fb : Sm} {x n : Str} {cn : String} {fl : List Str} {cat : List (String × Bool)} {e : Expr} {f : XF} {np p2 pos' pos : Pos} (hb : SndB' F lw sc b fb) (hx : x = .ofString cn) (hg : glbB sc x = true) (hdb : (x == ("__debug__" : Str)) = false) (hf : (cn, fl) ∈ lw.exs)
    (hN : sc.N[i]? = some n) (hl : (sc.names.lookup n == some .local) = true) (hbo : sc.body = true) (hc : ∀ p ∈ cat, (p.1, cn, p.2) ∈ lw.exms) (hc0 : ∀ p ∈ cat, p.2 = true → p.1 = cn) (he : SX lw sc i cn e f) :
    SndS F lw sc (.Try b [.ExceptHandler (some (.Name x np)) (some n) [.Return (some e) p2] pos'] [] [] pos) (tryS fb cat i f) := by
  intro W E X ck
  obtain ⟨⟨glo, _, _, _, _⟩, _⟩ := ck.gb.xc _ hf
  have hm : X.mg x = some (.ref (W.cl cn)) := by rw [ck.gm, hx]; exact glo
  have hln : X.env.kindOf n = some .local := (ck.so n .local (eq_of_beq hl)).1 (by decide)
  refine ps_imp (ps_try_as (i := i) (tb := fun W' => TSv W W' fb) (ts := fun a cls d D σ H => TXv W i a cls d cn f σ H D.rt) (Wout := E) (c := .ref (W.cl cn)) (ck.stk hbo) (ck.frm hbo) ck.nd (by rw [ck.na]; exact hN) hln ⟨gl_of ck hg, hdb, .inl hm⟩ ck.tk
    (fun W' pn xe tk po => hb W W' _ (ck.tr tk po)) (fun a oe cls d pn hz hfl => pss_one (ps_ret (he F W E X ck a oe cls d pn hz hfl)))) fun D σ H ⟨g, st, I, q⟩ => ⟨g, st, I, ?_⟩
  unfold tryS at q
  cases hfb : fb st with
  | bad => rw [hfb] at q; exact q.elim
  | ok fl' s' =>
    rw [hfb] at q
    cases fl' <;> exact q
  | ex y s' =>
    rw [hfb] at q
    intro g' σ' c dd H' I' e' r'
    cases y with
    | xc c1 fs ds =>
      simp only at q
      have hcls : c = .ref (W.cl c1) := r'.1
      cases hcat : cat.lookup c1 with
      | none => rw [hcat] at q; exact q.elim
      | some bb =>
        rw [hcat] at q
        have hmem : (c1, bb) ∈ cat := look_mem hcat
        have hex := ck.gb.em _ (hc _ hmem)
        rw [← ck.ka] at hex
        refine ⟨bb, by rw [hcls]; exact hex, fun hbb a ha => ?_, fun hbb => ?_⟩
        · subst hbb
          simp only at q
          have h1 : c1 = cn := hc0 _ hmem rfl
          subst h1
          split at q
          · rename_i hlt
            cases hfv : f fs ds { s' with env := s'.env.set i none } with
            | none => rw [hfv] at q; exact q.elim
            | some dv =>
              rw [hfv] at q
              refine ⟨g', { s' with env := s'.env.set i none }, fs, ds, dv, si_off I', ?_, r', hfv, fun g2 v H2 I2 e2 r2 => q g2 _ v H2 I2 (e'.trans I.sok e2) r2⟩
              rw [List.getElem?_set_self (by rw [← I'.len]; exact hlt)]
          · exact q.elim
        · subst hbb
          exact q g' σ' c dd H' I' e' r'
    | _ => exact r'.elim
end
end Cv
end
section
set_option Elab.async false
set_option linter.all false
set_option maxRecDepth 100000
set_option maxHeartbeats 1000000
namespace Cv
open PySem PySem.Spec PyProof.Rows L2
def tyN : DV → Option String
  | .non => some "NoneType"
  | .bl _ => some "bool"
  | .int _ => some "int"
  | .str _ => some "str"
  | .tup _ => some "tuple"
  | .lst _ => some "list"
  | .dct _ _ => some "dict"
  | .scr _ => some "list"
  | _ => none
def isiTs : List String := ["bool", "int", "str", "tuple", "list", "dict"]
def isiB (t T : String) : Bool := t == T || (t == "bool" && T == "int")
def isiF (T : String) (d : DV) : Option DV := if T ∈ isiTs then (tyN d).map fun t => .bl (isiB t T) else none
section
variable {W : Wd} {F : Cal} {lw : Lw} {sc : Sc} {E : WX} {X : Cx} {σ : L2.St} {H : Hp} {g : Gh} {st : Sta}
theorem kit_ty {K : PySem.W.Frag} {t T : String} (ht : t ∈ ["NoneType", "bool", "int", "str", "tuple", "list", "dict"]) (hT : T ∈ isiTs) : PySem.W.kitOne K (.type t) (.type T) = some (isiB t T) := by
  simp only [isiTs, List.mem_cons, List.not_mem_nil, or_false] at ht hT
  rcases ht with rfl | rfl | rfl | rfl | rfl | rfl | rfl <;> rcases hT with rfl | rfl | rfl | rfl | rfl | rfl <;> kernel_rfl
theorem tyx_of {d : DV} {v : V} {t : String} (h : Cur W g H d v) (e : tyN d = some t) : TyX W.K H v (.type t) := by
  cases d with
  | non => cases e; cases (show v = .non from h); exact .base .non
  | bl b => cases e; cases (show v = .bl b from h); exact .base (.bl b)
  | int i => cases e; cases (show v = .int i from h); exact .base (.int i)
  | str x => cases e; cases (show v = .str x from h); exact .base (.str x)
  | tup ds =>
    cases e
    obtain ⟨a, vs, rfl, h1, _⟩ := (show ∃ a vs, v = .ref a ∧ TupA W g H a vs ∧ RVs W g H ds vs by simpa [Cur, RVl, RV] using h)
    rcases h1 with ⟨_, h1 | ⟨o, h1⟩⟩ | h1
    · exact .base (.tup h1)
    · exact .fTuple h1
    · rcases h1 with h1 | ⟨o, its, n, h1, h2, _⟩
      · exact (rd_noH h1).elim
      · exact .kTuple h1 h2
  | lst ds =>
    cases e
    obtain ⟨a, vs, rfl, h1, _⟩ := h
    exact .base (.lst h1)
  | dct ks ds =>
    cases e
    obtain ⟨a, kvs, rfl, h1, _⟩ := h
    exact .base (.dK h1)
  | scr is =>
    cases e
    obtain ⟨a, rfl, h1⟩ := (show ∃ a, v = .ref a ∧ ScrA W g H a (is.map V.int) by simpa [Cur, RVl, RV] using h)
    rcases h1 with ⟨_, h1 | ⟨o, h1⟩⟩ | h1
    · exact .base (.lst h1)
    · exact .base (.frz h1)
    · rcases h1 with h1 | ⟨o, its, n, h1, h2, _⟩
      · exact (rd_noH h1).elim
      · exact .kList h1 h2
  | loc n => cases e
  | glb n => cases e
  | xc _ _ _ => cases e
theorem snd_isi {e : Expr} {fe : Ex} {T : String} {x y : Str} {p p2 pos : Pos} (hT : T ∈ isiTs) (hx : x = ("isinstance" : Str)) (hy : y = .ofString T) (hg : glbB sc x = true) (hb : x ∈ lw.blts) (hg2 : glbB sc y = true) (hb2 : y ∈ lw.blts) (hv : bootBuiltins x = some (.builtin "isinstance")) (hv2 : bootBuiltins y = some (.type T))
    (hn : x ≠ "__name__") (hdb : (x == ("__debug__" : Str)) = false) (hn2 : y ≠ "__name__") (hdb2 : (y == ("__debug__" : Str)) = false) (hs : noStar e = true) (he : Snd F lw sc e fe) :
    Snd F lw sc (.Call (.Name x p) [e, .Name y p2] [] pos) (vw1 (isiF T) fe) := fun W E X c => by
  have hpe : PE X (.Name y p2) (tC (.ty T)) := pe_bltn (gl_of c hg2) (by rw [c.gm]; exact c.gb.bl y hb2) hv2 rfl hn2 hdb2
  refine pe_imp (pe_callB call_isi (gl_of c hg) (by rw [c.gm]; exact c.gb.bl x hb) hv (pa_cons (he W E X c) (pa_cons hpe pa_nil (starEach_cons rfl)) (starEach_cons hs)) hn hdb (starEach_cons hs) (star_any (by rfl))) fun σ H Q q => ?_
  refine tev_vw1 (r := fun v H Q => rIsi X.K [v, .ty T] H Q) (fun g H y v d sok nm cy hf Q k => ?_) q
  unfold isiF at hf
  rw [if_pos hT] at hf
  obtain ⟨t, ht, rfl⟩ := Option.map_eq_some_iff.mp hf
  have hmem : t ∈ ["NoneType", "bool", "int", "str", "tuple", "list", "dict"] := by
    cases y <;> simp only [tyN] at ht <;> first | cases ht; done | (cases ht; simp)
  refine ⟨v, .ty T, .type t, .type T, isiB t T, rfl, .ty T, by rw [c.ka]; exact tyx_of cy ht, kit_ty hmem hT, k g _ H (Grow.refl _ _) (rv_bl.mpr rfl)⟩
end
end Cv
end
section
set_option Elab.async false
set_option linter.all false
set_option maxRecDepth 100000
set_option maxHeartbeats 1000000
namespace Cv
open PySem PySem.Spec PyProof.Rows L2
mutual
def dvB (K : PySem.W.Frag) : DV → Value → Bool
  | .non, .none => true
  | .bl b, .bool c => b == c
  | .int i, .int j _ => decide (i = j)
  | .str x, .str y _ => decide (x = y)
  | .tup ds, .ref a => (match K.lookup a with
    | some ⟨.type c, _, .seq its _, _⟩ => decide (c = "tuple") && (decide (its.size ≤ sizeLine) && dvsB K ds its.toList)
    | _ => false)
  | _, _ => false
def dvsB (K : PySem.W.Frag) : List DV → List Value → Bool
  | [], [] => true
  | d :: ds, u :: us => dvB K d u && dvsB K ds us
  | _, _ => false
end
theorem dvB_tup {K : PySem.W.Frag} {ds : List DV} {u : Value} (h : dvB K (.tup ds) u = true) : ∃ a od its n sl, u = .ref a ∧ K.lookup a = some ⟨.type "tuple", od, .seq its n, sl⟩ ∧ its.size ≤ sizeLine ∧ dvsB K ds its.toList = true := by
  cases u <;> simp only [dvB] at h <;> try (cases h; done)
  rename_i a
  cases q : K.lookup a with
  | none => rw [q] at h; cases h
  | some o =>
    obtain ⟨oc, od, dt, osl⟩ := o
    rw [q] at h
    cases oc with
    | type c =>
      cases dt with
      | seq its n =>
        have h' : (decide (c = "tuple") && (decide (its.size ≤ sizeLine) && dvsB K ds its.toList)) = true := h
        rw [Bool.and_eq_true, Bool.and_eq_true, decide_eq_true_eq, decide_eq_true_eq] at h'
        obtain ⟨rfl, h2, h3⟩ := h'
        exact ⟨a, od, its, n, osl, rfl, q, h2, h3⟩
      | _ => cases h
    | _ => cases dt <;> cases h
mutual
theorem dvB_ok {W : Wd} : ∀ (d : DV) (u : Value), dvB W.K d u = true → ∃ v, RelV v u ∧ ∀ g H, RV W g H d v
  | .non, u, h => by
    cases u <;> simp only [dvB] at h <;> try (cases h; done)
    exact ⟨.non, rfl, fun g H => by simp [RV]⟩
  | .bl b, u, h => by
    cases u <;> simp only [dvB] at h <;> try (cases h; done)
    rw [beq_iff_eq] at h; subst h
    exact ⟨.bl b, rfl, fun g H => by simp [RV]⟩
  | .int i, u, h => by
    cases u <;> simp only [dvB] at h <;> try (cases h; done)
    rw [decide_eq_true_eq] at h; subst h
    exact ⟨.int i, ⟨_, rfl⟩, fun g H => by simp [RV]⟩
  | .str i, u, h => by
    cases u <;> simp only [dvB] at h <;> try (cases h; done)
    rw [decide_eq_true_eq] at h; subst h
    exact ⟨.str i, ⟨_, rfl⟩, fun g H => by simp [RV]⟩
  | .tup ds, u, h => by
    obtain ⟨a, od, its, n, sl, rfl, hk, hz, hs⟩ := dvB_tup h
    obtain ⟨vs, rv, hr⟩ := dvsB_ok ds its.toList hs
    refine ⟨.ref a, rfl, fun g H => ?_⟩
    simp only [RV]
    exact ⟨a, vs, rfl, .inr (.inr ⟨_, its, n, hk, rfl, rfl, hz, by simpa using rv⟩), hr g H⟩
  | .lst _, u, h => by cases u <;> simp only [dvB] at h <;> cases h
  | .dct _ _, u, h => by cases u <;> simp only [dvB] at h <;> cases h
  | .loc _, u, h => by cases u <;> simp only [dvB] at h <;> cases h
  | .glb _, u, h => by cases u <;> simp only [dvB] at h <;> cases h
  | .scr _, u, h => by cases u <;> simp only [dvB] at h <;> cases h
  | .xc _ _ _, u, h => by cases u <;> simp only [dvB] at h <;> cases h
theorem dvsB_ok {W : Wd} : ∀ (ds : List DV) (us : List Value), dvsB W.K ds us = true → ∃ vs, Vals vs us ∧ ∀ g H, RVs W g H ds vs
  | [], us, h => by
    cases us with
    | nil => exact ⟨[], .nil, fun g H => by simp [RVs]⟩
    | cons u us => simp only [dvsB] at h; cases h
  | d :: ds, us, h => by
    cases us with
    | nil => simp only [dvsB] at h; cases h
    | cons u us =>
      simp only [dvsB, Bool.and_eq_true] at h
      obtain ⟨v, h1, h2⟩ := dvB_ok d u h.1
      obtain ⟨vs, h3, h4⟩ := dvsB_ok ds us h.2
      exact ⟨v :: vs, .cons h1 h3, fun g H => by simp only [RVs]; exact ⟨v, vs, rfl, h2 g H, h4 g H⟩⟩
end

structure LawD where
  fn : List He.DefD
  gl : List Str
  bl : List Str
  cs : List (Str × DV) := []
  bs : List (Str × String) := []
  cl : List Str := []
  na : List (Str × Str) := []
  me : List (Str × Str) := []
  ma : List Str := []
  xc : List XcD := []
  em : List (Str × Str × Bool) := []
  file : Str := ""
def LawD.xs (D : LawD) (K : PySem.W.Frag) : Bool :=
  (D.gl.all fun x => (He.Fa.glo x).ok K) && ((D.bl.all fun x => (He.Fa.free x).ok K) && ((D.cs.all fun p => match PySem.W.nsIn K mainGlobals p.1 with
    | some (some u) => dvB K p.2 u
    | _ => false) && ((D.bs.all fun p => He.eqO (PySem.W.nsIn K mainGlobals p.1) (some (some (.builtin p.2)))) &&
  ((D.cl.all fun x => (He.Fa.cls x).ok K) && ((D.na.all fun p => (He.Fa.noat p.1 p.2).ok K) && ((D.me.all fun p => (He.Fa.meth p.1 p.2).ok K) && D.ma.all fun x => (He.Fa.mkr x).ok K))))))
abbrev AlL : Type := (He.AlD × Bool) × (List XV × Bool)
def LawD.ys (D : LawD) (K : PySem.W.Frag) : Bool := (D.xc.all fun d => xB K D.file d) && D.em.all fun p => decide (PySem.W.exmOne K (.ref (He.ga K p.1)) (.ref (He.ga K p.2.1)) = some p.2.2)
def LawD.obs (D : LawD) (K : PySem.W.Frag) : AlL := ((He.obsD [] D.fn K, D.xs K), (D.xc.map fun d => xObs K d, D.ys K))
def asX (D : LawD) (g : Addr → Option Obj) (as : List Addr) : List Addr := match D.xc with
  | [] => as
  | _ => as ++ (as.flatMap fun a => match g a with
    | some ⟨_, _, .func fd, _⟩ => fd.closure.map (·.2)
    | _ => []) ++ [cStatics]
def LawD.obsG (n : Nat) (D : LawD) (g : Addr → Option Obj) : AlL := D.obs (He.frG g (asX D g (He.asD g n)))
def LawD.vals (D : LawD) : AlL := ((He.valD D.fn, true), (D.xc.map XcD.val, true))
def LawD.Says (D : LawD) (K : PySem.W.Frag) : Prop := D.obs K = D.vals
def LawD.hook (n : Nat) (D : LawD) : PySem.W.Hook where
  α := AlL
  obs := fun s => D.obsG n s.heap.get?
  val := fun _ => D.vals
  says := fun _ h => ∃ K : PySem.W.Frag, K.In h ∧ D.Says K
  of := fun _ _ e => ⟨_, He.frG_in, e⟩
  keeps := fun _ _ _ ⟨K, hK, c⟩ k => ⟨K, PySem.W.Frag.In.keeps hK k, c⟩
theorem LawD.obsG_eq {n : Nat} {D : LawD} {g : Addr → Option Obj} {s : Shared} (h : ∀ a, g a = s.heap.get? a) : D.obsG n g = (D.hook n).obs s := by
  have e : g = s.heap.get? := funext h
  rw [e] <;> rfl

structure Ctx0 (W : Wd) (D : LawD) : Prop where
  says : D.Says W.K
  kin : W.K.In W.base
  ns : W.base.Ns mainGlobals W.mg
  cl : ∀ c : String, W.cl c = He.ga W.K (.ofString c)
  fil : D.xc ≠ [] → W.P.main.file = D.file ∧ (W.P.main.scope.names.lookup ("super" : Str)).isSome = false
section
variable {W : Wd} {D : LawD} {T : Cal} {lw : Lw} {A : Around}
theorem Ctx0.xs (c : Ctx0 W D) : D.xs W.K = true := congrArg (fun z : AlL => z.1.2) c.says
theorem Ctx0.sd (c : Ctx0 W D) : He.SaysD [] D.fn W.K := congrArg (fun z : AlL => z.1.1) c.says
theorem Ctx0.ys (c : Ctx0 W D) : D.ys W.K = true := congrArg (fun z : AlL => z.2.2) c.says
theorem map_at {α β : Type} {f g : α → β} : ∀ {l : List α}, l.map f = l.map g → ∀ a ∈ l, f a = g a
  | [], _, a, h => absurd h List.not_mem_nil
  | b :: l, e, a, h => by
    rw [List.map_cons, List.map_cons] at e
    injection e with e1 e2
    rcases List.mem_cons.mp h with z | z
    · rw [z]; exact e1
    · exact map_at e2 a z
theorem Ctx0.xis (c : Ctx0 W D) {d : XcD} (hd : d ∈ D.xc) : XIs W.P W.K W.mg d := by
  obtain ⟨hP, htop⟩ := c.fil (fun z => by rw [z] at hd; exact absurd hd List.not_mem_nil)
  have h1 : D.xc.map (fun d => xObs W.K d) = D.xc.map XcD.val := congrArg (fun z : AlL => z.2.1) c.says
  have h2 := c.ys
  unfold LawD.ys at h2
  exact xIs c.kin c.ns hP htop (map_at h1 d hd) (List.all_eq_true.mp (Bool.and_eq_true_iff.mp h2).1 d hd)
theorem Ctx0.exm (c : Ctx0 W D) {x y : String} {b : Bool} (h : (Str.ofString x, Str.ofString y, b) ∈ D.em) : PySem.W.exmOne W.K (.ref (W.cl x)) (.ref (W.cl y)) = some b := by
  have h2 := c.ys
  unfold LawD.ys at h2
  rw [c.cl, c.cl]
  exact of_decide_eq_true (List.all_eq_true.mp (Bool.and_eq_true_iff.mp h2).2 _ h)
theorem xcAt (c : Ctx0 W D) {k : Nat} {x : String} {fs : List Str} (ok : XOk W.P W.w W.K W.mg W.base x (He.ga W.K (.ofString x)) fs) (hr : Room k A) (hk : 1 ≤ k) : XOk W.P W.w W.K W.mg W.base x (W.cl x) fs ∧ Room 1 A := by
  rw [c.cl]
  exact ⟨ok, hr.mono hk⟩
theorem xs_all (c : Ctx0 W D) : (∀ x ∈ D.gl, (He.Fa.glo x).ok W.K = true) ∧ (∀ x ∈ D.bl, (He.Fa.free x).ok W.K = true) ∧ (∀ p ∈ D.cs, ∃ u, W.mg p.1 = some u ∧ dvB W.K p.2 u = true) ∧ (∀ p ∈ D.bs, W.mg p.1 = some (.builtin p.2)) ∧
    (∀ x ∈ D.cl, (He.Fa.cls x).ok W.K = true) ∧ (∀ p ∈ D.na, (He.Fa.noat p.1 p.2).ok W.K = true) ∧ (∀ p ∈ D.me, (He.Fa.meth p.1 p.2).ok W.K = true) ∧ ∀ x ∈ D.ma, (He.Fa.mkr x).ok W.K = true := by
  have h := c.xs
  unfold LawD.xs at h
  simp only [Bool.and_eq_true, List.all_eq_true] at h
  obtain ⟨h1, h2, h3, h4, h5, h6, h7, h8⟩ := h
  refine ⟨h1, h2, fun p hp => ?_, fun p hp => PySem.W.mg_of c.kin c.ns (He.eqO_ok (h4 p hp)), h5, h6, h7, h8⟩
  have q := h3 p hp
  cases e : PySem.W.nsIn W.K mainGlobals p.1 with
  | none => rw [e] at q; cases q
  | some o =>
    rw [e] at q
    cases o with
    | none => cases q
    | some u => exact ⟨u, PySem.W.mg_of c.kin c.ns e, q⟩
def OkFn (W : Wd) (T : Cal) (k i : Nat) (f : Addr) (ps : List Str) : Prop := ∃ fd, FnG W k f fd ps (spOf W T i) ∧ Binds W.K fd ps [] ∧ PySem.W.keepIn W.K (.ref f) = true ∧ (∀ ds gh, ds.length ≠ ps.length → T i ds gh = .bad) ∧
  (∀ (s : Shared) (us : List Value), us.length = ps.length → BindsTo s fd ⟨us, []⟩ (ps.zip us)) ∧ ∃ oc od osl, W.K.lookup f = some ⟨oc, od, .func fd, osl⟩
theorem okfn (c : Ctx0 W D) {k i j : Nat} {N ps : List Str} {b : Sm} {d : He.DefD} (hd : D.fn[j]? = some d) (h1 : d.dfl = []) (h2 : d.kwd = []) (S : FnScope N ps d.scope) (hT : T i = runF N.length ps.length b) (hs : SndB' T lw ⟨d.scope.names, N, true⟩ d.body b)
    (hb : ∀ (kV doc pm : Value) (an : Option Addr) (cdv ct : Value) (us : List Value), us.length = ps.length → bindArgs (PySem.W.fnOf d.name d.qual d.params d.body d.scope .none kV doc pm an cdv ct) ⟨us, []⟩ = pure (ps.zip us))
    (gb : ∀ A : Around, Room k A → Glb W T lw A) : OkFn W T (k + 1) i (He.fAd W.K d.at_) ps := by
  obtain ⟨fd, F⟩ := c.sd.def_ j hd
  have e1 : d.dvs W.K = [] := by unfold He.DefD.dvs; rw [h1]; rfl
  have e2 : d.kws W.K = [] := by unfold He.DefD.kws; rw [h2]; rfl
  rw [e1, e2] at F
  obtain ⟨oc, od, dV, kV, doc, pm, an, cdv, ct, osl, rfl, lk, hcd, _, _⟩ := id F.ex
  refine ⟨_, fng_of lk hcd S hT hs gb, F.bindsN hb, F.kp, fun ds gh z => ?_, fun s us hl => F.bindsA hb s us hl, oc, od, osl, lk⟩
  rw [hT]
  unfold runF
  rw [if_neg z]
theorem fnAt (c : Ctx0 W D) {x : Str} {k j : Nat} {ps : List Str} (hg : x ∈ D.gl) (ok : OkFn W T k j (He.ga W.K x) ps) (hr : Room k A) :
    ∃ a fd ps k, W.mg x = some (.ref a) ∧ PySem.W.keepIn W.K (.ref a) = true ∧ FnG W k a fd ps (spOf W T j) ∧ Binds W.K fd ps [] ∧ Room k A ∧ ∀ ds gh, ds.length ≠ ps.length → T j ds gh = .bad := by
  obtain ⟨fd, h1, h2, h3, h4, _⟩ := ok
  exact ⟨_, fd, ps, k, He.glo_ok c.kin c.ns ((xs_all c).1 x hg), h3, h1, h2, hr, h4⟩
theorem metAt (c : Ctx0 W D) {cn : String} {m : Str} {k j : Nat} {ps : List Str} (hc : Str.ofString cn ∈ D.cl) (hm : (Str.ofString cn, m) ∈ D.me) (ok : OkFn W T k j (He.ma W.K (He.ga W.K (.ofString cn)) m) ps) (hr : Room k A) :
    ∃ a fd ps k, Cls W.K (W.cl cn) ∧ Meth W.K (W.cl cn) m a ∧ FnG W k a fd ps (spOf W T j) ∧ Binds W.K fd ps [] ∧ Room k A ∧ ∀ ds gh, ds.length ≠ ps.length → T j ds gh = .bad := by
  obtain ⟨fd, h1, h2, h3, h4, _⟩ := ok
  obtain ⟨_, _, _, _, x5, _, x7, _⟩ := xs_all c
  rw [c.cl]
  exact ⟨_, fd, ps, k, He.cls_ok (x5 _ hc), He.meth_ok (x7 _ hm), h1, h2, hr, h4⟩
theorem mkAt (c : Ctx0 W D) {cn : String} {x : Str} {k j : Nat} {ps : List Str} (hx : x = .ofString cn) (hg : x ∈ D.gl) (hm : x ∈ D.ma) (ok : OkFn W T k j (He.ma W.K (He.ga W.K x) "__init__") ps) (hr : Room (k + 1) A) :
    ∃ a fd ps k, W.mg x = some (.ref (W.cl cn)) ∧ Mk W.K (W.cl cn) a ∧ FnG W k a fd ps (spOf W T j) ∧ Binds W.K fd ps [] ∧ Room (k + 1) A ∧ ∀ ds gh, ds.length ≠ ps.length → T j ds gh = .bad := by
  obtain ⟨fd, h1, h2, h3, h4, _⟩ := ok
  obtain ⟨x1, _, _, _, _, _, _, x8⟩ := xs_all c
  rw [c.cl, ← hx]
  exact ⟨_, fd, ps, k, He.glo_ok c.kin c.ns (x1 x hg), He.mkr_ok (x8 x hm), h1, h2, hr, h4⟩
theorem glb_of (c : Ctx0 W D) (h1 : lw.blts = D.bl) (h2 : lw.cons = D.cs) (h3 : lw.bfs = D.bs) (hxc : ∀ p ∈ lw.exs, XOk W.P W.w W.K W.mg W.base p.1 (W.cl p.1) p.2 ∧ Room 1 A) (hem : ∀ p ∈ lw.exms, PySem.W.exmOne W.K (.ref (W.cl p.1)) (.ref (W.cl p.2.1)) = some p.2.2) (hf : ∀ p ∈ lw.flds, Str.ofString p.1 ∈ D.cl ∧ (Str.ofString p.1, p.2) ∈ D.na)
    (fn : ∀ p ∈ lw.fns, ∃ a fd ps k, W.mg p.1 = some (.ref a) ∧ PySem.W.keepIn W.K (.ref a) = true ∧ FnG W k a fd ps (spOf W T p.2) ∧ Binds W.K fd ps [] ∧ Room k A ∧ ∀ ds gh, ds.length ≠ ps.length → T p.2 ds gh = .bad)
    (me : ∀ p ∈ lw.mets, ∃ a fd ps k, Cls W.K (W.cl p.1) ∧ Meth W.K (W.cl p.1) p.2.1 a ∧ FnG W k a fd ps (spOf W T p.2.2) ∧ Binds W.K fd ps [] ∧ Room k A ∧ ∀ ds gh, ds.length ≠ ps.length → T p.2.2 ds gh = .bad)
    (mk : ∀ p ∈ lw.mks, ∃ a fd ps k, W.mg p.1 = some (.ref (W.cl p.2.1)) ∧ Mk W.K (W.cl p.2.1) a ∧ FnG W k a fd ps (spOf W T p.2.2) ∧ Binds W.K fd ps [] ∧ Room (k + 1) A ∧ ∀ ds gh, ds.length ≠ ps.length → T p.2.2 ds gh = .bad) : Glb W T lw A := by
  obtain ⟨x1, x2, x3, x4, x5, x6, x7, x8⟩ := xs_all c
  refine ⟨fn, fun x hx => He.free_ok c.kin c.ns (x2 x (h1 ▸ hx)), fun p hp => x4 p (h3 ▸ hp), fun p hp => ?_, me, mk, fun p hp => ?_, hxc, hem⟩
  · obtain ⟨y1, y2⟩ := hf p hp
    rw [c.cl]
    exact ⟨He.cls_ok (x5 _ y1), He.noat_ok (x6 _ y2)⟩
  · obtain ⟨u, h5, h6⟩ := x3 p (h2 ▸ hp)
    obtain ⟨v, h7, h8⟩ := dvB_ok p.2 u h6
    exact ⟨u, v, h5, h7, h8⟩
theorem all_nil {α : Type} {p : α → Prop} : ∀ x ∈ ([] : List α), p x := fun _ h => absurd h List.not_mem_nil
theorem all_cons {α : Type} {p : α → Prop} {a : α} {l : List α} (h : p a) (t : ∀ x ∈ l, p x) : ∀ x ∈ a :: l, p x := fun x hx => by
  rcases List.mem_cons.mp hx with z | z
  · rw [z]; exact h
  · exact t x z
end
end Cv
end
section
set_option Elab.async false
set_option linter.all false
set_option maxRecDepth 100000
set_option maxHeartbeats 0
namespace K07
open PySem L2 Cv
noncomputable section
abbrev c_MOST_FIGURES : DV := (.int 400)
abbrev c_LONG_NUMBER : DV := (.int 1)
abbrev c_NONE : DV := (.tup [(.int 0), (.int 1)])
abbrev c_ONE : DV := (.tup [(.int 1), (.int 1)])
def b_is_whole : Sm := (retS (andE (vw1 (isiF "int") (var 0)) (notE (vw1 (isiF "bool") (var 0)))))
def f_is_whole : Fn := runF 1 1 b_is_whole
def b_ratio_of : Sm := (seqS (asgS (.one 2) (ife (vw2 gtF (var 1) (cst (.int 0))) (bltE gcdF [(var 0), (var 1)]) (vw1 negF (bltE gcdF [(var 0), (var 1)]))))
  (retS (tupE (consE (vw2 fdvF (var 0) (var 2)) (consE (vw2 fdvF (var 1) (var 2)) nilE)))))
def f_ratio_of : Fn := runF 3 2 b_ratio_of
def b_is_ratio : Sm := (seqS (ifS (orE (notE (vw1 (isiF "tuple") (var 0))) (orE (vw2 neF (bltE lenF [(var 0)]) (cst (.int 2))) (orE (notE (calD f_is_whole (consE (vw2 ixF (var 0) (cst (.int 0))) nilE))) (notE (calD f_is_whole (consE (vw2 ixF (var 0) (cst (.int 1))) nilE))))))
 (retS (cst (.bl false)))
 pasS)
  (retS (andE (vw2 gtF (vw2 ixF (var 0) (cst (.int 1))) (cst (.int 0))) (vw2 eqF (bltE gcdF [(vw2 ixF (var 0) (cst (.int 0))), (vw2 ixF (var 0) (cst (.int 1)))]) (cst (.int 1))))))
def f_is_ratio : Fn := runF 1 1 b_is_ratio
def b_ratio_sum : Sm := (retS (calD f_ratio_of (consE (vw2 addF (vw2 mulF (vw2 ixF (var 0) (cst (.int 0))) (vw2 ixF (var 1) (cst (.int 1)))) (vw2 mulF (vw2 ixF (var 1) (cst (.int 0))) (vw2 ixF (var 0) (cst (.int 1))))) (consE (vw2 mulF (vw2 ixF (var 0) (cst (.int 1))) (vw2 ixF (var 1) (cst (.int 1)))) nilE))))
def f_ratio_sum : Fn := runF 2 2 b_ratio_sum
def b_ratio_less : Sm := (retS (calD f_ratio_of (consE (vw2 subF (vw2 mulF (vw2 ixF (var 0) (cst (.int 0))) (vw2 ixF (var 1) (cst (.int 1)))) (vw2 mulF (vw2 ixF (var 1) (cst (.int 0))) (vw2 ixF (var 0) (cst (.int 1))))) (consE (vw2 mulF (vw2 ixF (var 0) (cst (.int 1))) (vw2 ixF (var 1) (cst (.int 1)))) nilE))))
def f_ratio_less : Fn := runF 2 2 b_ratio_less
def b_ratio_product : Sm := (retS (calD f_ratio_of (consE (vw2 mulF (vw2 ixF (var 0) (cst (.int 0))) (vw2 ixF (var 1) (cst (.int 0)))) (consE (vw2 mulF (vw2 ixF (var 0) (cst (.int 1))) (vw2 ixF (var 1) (cst (.int 1)))) nilE))))
def f_ratio_product : Fn := runF 2 2 b_ratio_product
def b_ratio_quotient : Sm := (retS (calD f_ratio_of (consE (vw2 mulF (vw2 ixF (var 0) (cst (.int 0))) (vw2 ixF (var 1) (cst (.int 1)))) (consE (vw2 mulF (vw2 ixF (var 0) (cst (.int 1))) (vw2 ixF (var 1) (cst (.int 0)))) nilE))))
def f_ratio_quotient : Fn := runF 2 2 b_ratio_quotient
def b_not_long : Sm := (seqS (asgS (.one 1) (bltE intF [(vw2 addF (cst (.str "1")) (vw2 mulF (cst (.str "0")) (cst c_MOST_FIGURES)))]))
  (seqS (ifS (orE (vw2 geF (bltE absF [(vw2 ixF (var 0) (cst (.int 0)))]) (var 1)) (vw2 geF (vw2 ixF (var 0) (cst (.int 1))) (var 1)))
 (raiS "TooGreat" ["number"] (consE (cst c_LONG_NUMBER) nilE))
 pasS)
  (retS (var 0))))
def f_not_long : Fn := runF 2 1 b_not_long
def b_whole_row : Sm := (seqS (asgS (.one 1) (cst (.int 1)))
  (seqS (forS (.one 2) (seqI (var 0))
 (asgS (.one 1) (bltE lcmF [(var 1), (vw2 ixF (var 2) (cst (.int 1)))])))
  (retS (tupE (consE (lcE .val (.one 2) [2] (seqI (var 0)) (cst (.bl true)) (vw2 mulF (vw2 ixF (var 2) (cst (.int 0))) (vw2 fdvF (var 1) (vw2 ixF (var 2) (cst (.int 1)))))) (consE (var 1) nilE))))))
def f_whole_row : Fn := runF 3 1 b_whole_row
def b_made_small : Sm := (seqS (asgS (.one 1) (cst (.int 0)))
  (seqS (forS (.one 2) (seqI (var 0))
 (asgS (.one 1) (bltE gcdF [(var 1), (var 2)])))
  (retS (ife (vw2 gtF (var 1) (cst (.int 1))) (lcE .val (.one 2) [2] (seqI (var 0)) (cst (.bl true)) (vw2 fdvF (var 2) (var 1))) (var 0)))))
def f_made_small : Fn := runF 3 1 b_made_small
def b_RowBasis_init : Sm := (seqS (fldS ["RowBasis"] "bottoms" (var 0) (lstE .glb nilE))
  (fldS ["RowBasis"] "echelon" (var 0) (lstE .glb nilE)))
def f_RowBasis_init : Fn := runF 1 1 b_RowBasis_init
def b_RowBasis_many : Sm := (retS (bltE lenF [(fldE ["RowBasis"] "bottoms" (var 0))]))
def f_RowBasis_many : Fn := runF 1 1 b_RowBasis_many
def b_RowBasis_led_down : Sm := (seqS (asgS (.one 2) (bltE lenF [(var 1)]))
  (seqS (asgS (.one 3) (vw2 addF (vw2 addF (var 1) (vw2 mulF (lstE .val (consE (cst (.int 0)) nilE)) (metE "RowBasis" "many" f_RowBasis_many (var 0) nilE))) (lstE .val (consE (cst (.int 1)) nilE))))
  (seqS (forS (.many [4, 5]) (seqI (fldE ["RowBasis"] "echelon" (var 0)))
 (ifS (vw2 neF (vw2 ixF (var 3) (var 4)) (cst (.int 0)))
 (seqS (asgS (.one 6) (bltE gcdF [(vw2 ixF (var 3) (var 4)), (vw2 ixF (var 5) (var 4))]))
  (seqS (parS [7, 8] [(vw2 fdvF (vw2 ixF (var 5) (var 4)) (var 6)), (vw2 fdvF (vw2 ixF (var 3) (var 4)) (var 6))])
  (seqS (asgS (.one 5) (vw2 addF (var 5) (vw2 mulF (lstE .val (consE (cst (.int 0)) nilE)) (vw2 subF (bltE lenF [(var 3)]) (bltE lenF [(var 5)])))))
  (asgS (.one 3) (calD f_made_small (consE (lcE .val (.many [9, 10]) [9, 10] (zipI true (var 3) (var 5)) (cst (.bl true)) (vw2 subF (vw2 mulF (var 9) (var 7)) (vw2 mulF (var 10) (var 8)))) nilE))))))
 pasS))
  (retS (tupE (consE (slE (var 3) none (some (var 2))) (consE (slE (var 3) (some (var 2)) none) nilE)))))))
def f_RowBasis_led_down : Fn := runF 11 2 b_RowBasis_led_down
def b_RowBasis_factors : Sm := (seqS (asgS (.many [2, 3]) (calD f_whole_row (consE (var 1) nilE)))
  (seqS (asgS (.many [4, 5]) (metE "RowBasis" "led_down" f_RowBasis_led_down (var 0) (consE (var 2) nilE)))
  (seqS (ifS (bltE anyF [(var 4)])
 (retS (cst .non))
 pasS)
  (seqS (asgS (.one 6) (vw2 mulF (vw1 negF (vw2 ixF (var 5) (vw1 negF (cst (.int 1))))) (var 3)))
  (retS (bltE tupF [(lcE .val (.many [7, 8]) [7, 8] (zipI true (slE (var 5) none (some (vw1 negF (cst (.int 1))))) (fldE ["RowBasis"] "bottoms" (var 0))) (cst (.bl true)) (calD f_ratio_of (consE (vw2 mulF (var 7) (var 8)) (consE (var 6) nilE))))]))))))
def f_RowBasis_factors : Fn := runF 9 2 b_RowBasis_factors
def b_RowBasis_put : Sm := (seqS (asgS (.many [2, 3]) (calD f_whole_row (consE (var 1) nilE)))
  (seqS (asgS (.many [4, 5]) (metE "RowBasis" "led_down" f_RowBasis_led_down (var 0) (consE (var 2) nilE)))
  (seqS (ifS (notE (bltE anyF [(var 4)]))
 (retS (cst (.bl false)))
 pasS)
  (seqS (asgS (.one 6) (vw2 ixF (lcE .val (.many [7, 8]) [7, 8] (enuI (var 4)) (vw2 neF (var 8) (cst (.int 0))) (var 7)) (cst (.int 0))))
  (seqS (expS (appE (fldE ["RowBasis"] "echelon" (var 0)) (tupE (consE (var 6) (consE (vw2 addF (var 4) (var 5)) nilE)))))
  (seqS (expS (appE (fldE ["RowBasis"] "bottoms" (var 0)) (var 3)))
  (retS (cst (.bl true)))))))))
def f_RowBasis_put : Fn := runF 9 2 b_RowBasis_put
def b_row_sum : Sm := (retS (bltE tupF [(lcE .val (.many [2, 3]) [2, 3] (zipI true (var 0) (var 1)) (cst (.bl true)) (calD f_ratio_sum (consE (var 2) (consE (var 3) nilE))))]))
def f_row_sum : Fn := runF 4 2 b_row_sum
def b_row_scaled : Sm := (retS (bltE tupF [(lcE .val (.one 2) [2] (seqI (var 0)) (cst (.bl true)) (calD f_ratio_product (consE (var 2) (consE (var 1) nilE))))]))
def f_row_scaled : Fn := runF 3 2 b_row_scaled
def b_unit_rows : Sm := (retS (bltE tupF [(lcE .val (.one 1) [1] (rng1 (var 0)) (cst (.bl true)) (bltE tupF [(lcE .val (.one 2) [2] (rng1 (var 0)) (cst (.bl true)) (ife (vw2 eqF (var 2) (var 1)) (cst c_ONE) (cst c_NONE)))]))]))
def f_unit_rows : Fn := runF 3 1 b_unit_rows
def b_row_led : Sm := (seqS (ifS (vw2 eqF (var 0) (tupE nilE))
 (retS (tupE nilE))
 pasS)
  (seqS (asgS (.one 2) (lcE .val (.one 7) [7] (seqI (var 1)) (cst (.bl true)) (calD f_whole_row (consE (var 7) nilE))))
  (seqS (asgS (.many [3, 4]) (calD f_whole_row (consE (lcE .val (.many [8, 7]) [8, 7] (zipI true (var 0) (var 2)) (cst (.bl true)) (calD f_ratio_of (consE (vw2 ixF (var 8) (cst (.int 0))) (consE (vw2 mulF (vw2 ixF (var 8) (cst (.int 1))) (vw2 ixF (var 7) (cst (.int 1)))) nilE)))) nilE)))
  (seqS (asgS (.one 5) (lstE .loc nilE))
  (seqS (forS (.one 6) (rng1 (bltE lenF [(vw2 ixF (var 1) (cst (.int 0)))]))
 (expS (appE (var 5) (calD f_ratio_of (consE (bltE sumF [(lcE .val (.many [9, 7]) [9, 7] (zipI true (var 3) (var 2)) (cst (.bl true)) (vw2 mulF (var 9) (vw2 ixF (vw2 ixF (var 7) (cst (.int 0))) (var 6))))]) (consE (var 4) nilE))))))
  (retS (bltE tupF [(var 5)])))))))
def f_row_led : Fn := runF 10 2 b_row_led
def b_across : Sm := (retS (ife (vw2 neF (var 0) (tupE nilE)) (bltE tupF [(lcE .val (.one 1) [1] (rng1 (bltE lenF [(vw2 ixF (var 0) (cst (.int 0)))])) (cst (.bl true)) (bltE tupF [(lcE .val (.one 2) [2] (seqI (var 0)) (cst (.bl true)) (vw2 ixF (var 2) (var 1)))]))]) (tupE nilE)))
def f_across : Fn := runF 3 1 b_across
def b_column_led : Sm := (retS (calD f_row_led (consE (var 1) (consE (calD f_across (consE (var 0) nilE)) nilE))))
def f_column_led : Fn := runF 2 2 b_column_led
def b_tables_led : Sm := (retS (bltE tupF [(lcE .val (.one 2) [2] (seqI (var 0)) (cst (.bl true)) (calD f_row_led (consE (var 2) (consE (var 1) nilE))))]))
def f_tables_led : Fn := runF 3 2 b_tables_led
def b_one_solution : Sm := (seqS (asgS (.one 2) (makE "RowBasis" f_RowBasis_init nilE))
  (seqS (forS (.one 3) (seqI (calD f_across (consE (var 0) nilE)))
 (ifS (notE (metE "RowBasis" "put" f_RowBasis_put (var 2) (consE (var 3) nilE)))
 (retS (cst .non))
 pasS))
  (retS (metE "RowBasis" "factors" f_RowBasis_factors (var 2) (consE (var 1) nilE)))))
def f_one_solution : Fn := runF 4 2 b_one_solution
def b__law_source : Sm := (seqS (asgS (.one 1) (cst (.int 11)))
  (seqS (forS (.one 2) (seqI (var 0))
 (asgS (.one 1) (vw2 modF (bltE intF [(vw2 addF (vw2 addF (vw2 mulF (var 1) (cst (.int 69069))) (vw2 mulF (var 2) (cst (.int 31)))) (cst (.int 5)))]) (cst (.int 2147483629)))))
  (retS (dctE .glb [.inr "cells", .inr "left", .inr "mixed", .inr "turn"] [(revM .glb (lcE .val (.one 2) [2] (seqI (var 0)) (cst (.bl true)) (bltE absF [(var 2)]))), (cst (.int 1)), (var 1), (cst (.int 0))]))))
def f__law_source : Fn := runF 3 1 b__law_source
def b__law_pick : Sm := (seqS (whlS (andE (vw2 gtF (var 1) (cst (.int 1))) (andE (vw2 ltF (vw2 ixF (var 0) (cst (.str "left"))) (cst (.int 2))) (vw2 gtF (bltE lenF [(vw2 ixF (var 0) (cst (.str "cells")))]) (cst (.int 0)))))
 (setS (var 0) (cst (.str "left")) (popE (vw2 ixF (var 0) (cst (.str "cells"))))))
  (seqS (asgS (.one 2) (vw2 ixF (var 0) (cst (.str "left"))))
  (seqS (ifS (orE (vw2 ltF (var 1) (cst (.int 2))) (vw2 gtF (var 2) (cst (.int 1))))
 (seqS (setS (var 0) (cst (.str "left")) (vw2 fdvF (var 2) (bltE maxF [(cst (.int 1)), (var 1)])))
  (retS (vw2 modF (bltE intF [(var 2)]) (bltE maxF [(cst (.int 1)), (var 1)]))))
 pasS)
  (seqS (setS (var 0) (cst (.str "turn")) (vw2 addF (vw2 ixF (var 0) (cst (.str "turn"))) (cst (.int 1))))
  (seqS (asgS (.one 3) (vw2 modF (bltE intF [(vw2 addF (vw2 ixF (var 0) (cst (.str "mixed"))) (vw2 mulF (vw2 ixF (var 0) (cst (.str "turn"))) (cst (.int 104729))))]) (cst (.int 998244353))))
  (seqS (asgS (.one 3) (vw2 modF (bltE intF [(vw2 addF (vw2 mulF (var 3) (var 3)) (vw2 mulF (vw2 ixF (var 0) (cst (.str "turn"))) (cst (.int 17))))]) (cst (.int 2147483647))))
  (seqS (setS (var 0) (cst (.str "mixed")) (var 3))
  (retS (vw2 modF (bltE intF [(vw2 fdvF (var 3) (cst (.int 16)))]) (var 1))))))))))
def f__law_pick : Fn := runF 4 2 b__law_pick
def b__law_of : Sm := (retS (vw2 ixF (var 1) (calD f__law_pick (consE (var 0) (consE (bltE lenF [(var 1)]) nilE)))))
def f__law_of : Fn := runF 2 2 b__law_of
def b__law_part : Sm := (seqS (parS [0, 2] [(bltE absF [(var 0)]), (bltE absF [(var 1)])])
  (seqS (whlS (vw2 gtF (var 2) (cst (.int 0)))
 (parS [0, 2] [(var 2), (vw2 modF (bltE intF [(var 0)]) (var 2))]))
  (retS (var 0))))
def f__law_part : Fn := runF 3 2 b__law_part
def b__law_num : Sm := (seqS (asgS (.one 2) (ife (vw2 gtF (var 1) (cst (.int 0))) (calD f__law_part (consE (var 0) (consE (var 1) nilE))) (vw2 subF (cst (.int 0)) (calD f__law_part (consE (var 0) (consE (var 1) nilE))))))
  (retS (tupE (consE (vw2 fdvF (var 0) (var 2)) (consE (vw2 fdvF (var 1) (var 2)) nilE)))))
def f__law_num : Fn := runF 3 2 b__law_num
def b__law_add : Sm := (retS (calD f__law_num (consE (vw2 addF (vw2 mulF (vw2 ixF (var 0) (cst (.int 0))) (vw2 ixF (var 1) (cst (.int 1)))) (vw2 mulF (vw2 ixF (var 1) (cst (.int 0))) (vw2 ixF (var 0) (cst (.int 1))))) (consE (vw2 mulF (vw2 ixF (var 0) (cst (.int 1))) (vw2 ixF (var 1) (cst (.int 1)))) nilE))))
def f__law_add : Fn := runF 2 2 b__law_add
def b__law_mul : Sm := (retS (calD f__law_num (consE (vw2 mulF (vw2 ixF (var 0) (cst (.int 0))) (vw2 ixF (var 1) (cst (.int 0)))) (consE (vw2 mulF (vw2 ixF (var 0) (cst (.int 1))) (vw2 ixF (var 1) (cst (.int 1)))) nilE))))
def f__law_mul : Fn := runF 2 2 b__law_mul
def b__law_drawn : Sm := (seqS (asgS (.one 1) (vw2 subF (calD f__law_pick (consE (var 0) (consE (cst (.int 19)) nilE))) (cst (.int 9))))
  (seqS (ifS (vw2 eqF (calD f__law_pick (consE (var 0) (consE (cst (.int 6)) nilE))) (cst (.int 0)))
 (asgS (.one 1) (vw2 addF (vw2 mulF (var 1) (vw2 powF (cst (.int 10)) (cst (.int 30)))) (calD f__law_pick (consE (var 0) (consE (cst (.int 7)) nilE)))))
 pasS)
  (retS (calD f__law_num (consE (var 1) (consE (vw2 addF (cst (.int 1)) (calD f__law_pick (consE (var 0) (consE (cst (.int 12)) nilE)))) nilE))))))
def f__law_drawn : Fn := runF 2 1 b__law_drawn
def b__law_is : Sm := (seqS (ifS (orE (vw2 leF (vw2 ixF (var 0) (cst (.int 1))) (cst (.int 0))) (vw2 neF (calD f__law_part (consE (vw2 ixF (var 0) (cst (.int 0))) (consE (vw2 ixF (var 0) (cst (.int 1))) nilE))) (cst (.int 1))))
 (retS (cst (.bl false)))
 pasS)
  (retS (vw2 eqF (vw2 mulF (vw2 ixF (var 0) (cst (.int 0))) (var 2)) (vw2 mulF (var 1) (vw2 ixF (var 0) (cst (.int 1)))))))
def f__law_is : Fn := runF 3 3 b__law_is
def b__law_sum : Sm := (seqS (asgS (.one 1) (tupE (consE (cst (.int 0)) (consE (cst (.int 1)) nilE))))
  (seqS (forS (.one 2) (seqI (var 0))
 (asgS (.one 1) (calD f__law_add (consE (var 1) (consE (var 2) nilE)))))
  (retS (var 1))))
def f__law_sum : Fn := runF 3 1 b__law_sum
def b__law_led : Sm := (retS (bltE tupF [(lcE .val (.one 2) [2] (rng1 (bltE lenF [(vw2 ixF (var 1) (cst (.int 0)))])) (cst (.bl true)) (calD f__law_sum (consE (lcE .val (.many [3, 4]) [3, 4] (zipI false (var 0) (var 1)) (cst (.bl true)) (calD f__law_mul (consE (var 3) (consE (vw2 ixF (var 4) (var 2)) nilE)))) nilE)))]))
def f__law_led : Fn := runF 5 2 b__law_led
def b__law_figures_right : Sm := (seqS (parS [1, 2] [(vw2 addF (cst (.int 399)) (calD f__law_pick (consE (var 0) (consE (cst (.int 4)) nilE)))), (vw2 eqF (calD f__law_pick (consE (var 0) (consE (cst (.int 2)) nilE))) (cst (.int 0)))])
  (seqS (asgS (.one 3) (bltE intF [(vw2 addF (cst (.str "1")) (vw2 mulF (cst (.str "0")) (vw2 subF (var 1) (cst (.int 1)))))]))
  (seqS (asgS (.one 4) (ife (var 2) (tupE (consE (var 3) (consE (cst (.int 1)) nilE))) (tupE (consE (cst (.int 1)) (consE (var 3) nilE)))))
  (seqS (asgS (.one 4) (ife (vw2 eqF (calD f__law_pick (consE (var 0) (consE (cst (.int 2)) nilE))) (cst (.int 0))) (var 4) (tupE (consE (vw2 subF (cst (.int 0)) (vw2 ixF (var 4) (cst (.int 0)))) (consE (vw2 ixF (var 4) (cst (.int 1))) nilE)))))
  (seqS (tryS (asgS (.one 5) (calD f_not_long (consE (var 4) nilE))) [("TooGreat", true)] 6 (xAnd (xOp eqF (xFld "number") (xCon (.int 1))) (xOp gtF (xVar 1) (xCon (.int 400)))))
  (retS (andE (vw2 eqF (var 5) (var 4)) (vw2 leF (var 1) (cst (.int 400))))))))))
def f__law_figures_right : Fn := runF 7 1 b__law_figures_right
def b_law : Sm := (seqS (asgS (.one 1) (calD f__law_source (consE (var 0) nilE)))
  (seqS (forS (.one 2) (rng1 (cst (.int 6)))
 (seqS (parS [3, 4] [(calD f__law_drawn (consE (var 1) nilE)), (calD f__law_drawn (consE (var 1) nilE))])
  (seqS (asgS (.many [5, 6]) (var 3))
  (seqS (asgS (.many [7, 8]) (var 4))
  (seqS (ifS (notE (calD f__law_is (consE (calD f_ratio_sum (consE (var 3) (consE (var 4) nilE))) (consE (vw2 addF (vw2 mulF (var 5) (var 8)) (vw2 mulF (var 7) (var 6))) (consE (vw2 mulF (var 6) (var 8)) nilE)))))
 (retS (cst (.bl false)))
 pasS)
  (seqS (ifS (notE (calD f__law_is (consE (calD f_ratio_less (consE (var 3) (consE (var 4) nilE))) (consE (vw2 subF (vw2 mulF (var 5) (var 8)) (vw2 mulF (var 7) (var 6))) (consE (vw2 mulF (var 6) (var 8)) nilE)))))
 (retS (cst (.bl false)))
 pasS)
  (seqS (ifS (notE (calD f__law_is (consE (calD f_ratio_product (consE (var 3) (consE (var 4) nilE))) (consE (vw2 mulF (var 5) (var 7)) (consE (vw2 mulF (var 6) (var 8)) nilE)))))
 (retS (cst (.bl false)))
 pasS)
  (seqS (ifS (andE (vw2 neF (var 7) (cst (.int 0))) (notE (calD f__law_is (consE (calD f_ratio_quotient (consE (var 3) (consE (var 4) nilE))) (consE (vw2 mulF (var 5) (var 8)) (consE (vw2 mulF (var 6) (var 7)) nilE))))))
 (retS (cst (.bl false)))
 pasS)
  (seqS (parS [9, 10] [(vw2 subF (calD f__law_pick (consE (var 1) (consE (cst (.int 41)) nilE))) (cst (.int 20))), (calD f__law_of (consE (var 1) (consE (lstE .val (consE (cst (.int 1)) (consE (cst (.int 2)) (consE (cst (.int 6)) (consE (vw1 negF (cst (.int 1))) (consE (vw1 negF (cst (.int 4))) (consE (cst (.int 9)) (consE (vw1 negF (cst (.int 15))) nilE)))))))) nilE)))])
  (ifS (orE (vw2 neF (bltE reprF [(calD f_ratio_of (consE (var 9) (consE (var 10) nilE)))]) (bltE reprF [(calD f__law_num (consE (var 9) (consE (var 10) nilE)))])) (vw2 nisF (calD f_is_ratio (consE (var 3) nilE)) (cst (.bl true))))
 (retS (cst (.bl false)))
 pasS))))))))))
  (seqS (asgS (.one 11) (lstE .val (consE (tupE (consE (cst (.int 2)) (consE (cst (.int 4)) nilE))) (consE (tupE (consE (cst (.int 1)) (consE (cst (.int 0)) nilE))) (consE (tupE (consE (cst (.int 1)) (consE (vw1 negF (cst (.int 2))) nilE))) (consE (lstE .val (consE (cst (.int 1)) (consE (cst (.int 2)) nilE))) (consE (tupE (consE (cst (.int 1)) nilE)) (consE (tupE (consE (cst (.int 1)) (consE (cst (.int 2)) (consE (cst (.int 3)) nilE)))) (consE (tupE (consE (cst (.bl true)) (consE (cst (.int 1)) nilE))) (consE (tupE (consE (cst (.int 1)) (consE (cst (.bl true)) nilE))) (consE (tupE (consE (cst (.int 0)) (consE (cst (.int 3)) nilE))) (consE (cst .non) (consE (cst (.int 1)) (consE (tupE (consE (cst (.str "1")) (consE (cst (.int 2)) nilE))) nilE))))))))))))))
  (seqS (ifS (orE (vw2 nisF (calD f_is_ratio (consE (calD f__law_of (consE (var 1) (consE (var 11) nilE))) nilE)) (cst (.bl false))) (notE (calD f__law_figures_right (consE (var 1) nilE))))
 (retS (cst (.bl false)))
 pasS)
  (seqS (asgS (.lst [12, 13, 14]) (lcE .val (.one 25) [25] (rng1 (cst (.int 3))) (cst (.bl true)) (vw2 addF (cst (.int 1)) (calD f__law_pick (consE (var 1) (consE (cst (.int 3)) nilE))))))
  (seqS (asgS (.one 3) (bltE tupF [(lcE .val (.one 26) [26] (rng1 (var 12)) (cst (.bl true)) (bltE tupF [(lcE .val (.one 25) [25] (rng1 (var 13)) (cst (.bl true)) (calD f__law_drawn (consE (var 1) nilE)))]))]))
  (seqS (asgS (.one 4) (bltE tupF [(lcE .val (.one 26) [26] (rng1 (var 13)) (cst (.bl true)) (bltE tupF [(lcE .val (.one 25) [25] (rng1 (var 14)) (cst (.bl true)) (calD f__law_drawn (consE (var 1) nilE)))]))]))
  (seqS (parS [15, 16] [(vw2 ixF (var 3) (cst (.int 0))), (bltE tupF [(lcE .val (.one 25) [25] (rng1 (var 13)) (cst (.bl true)) (calD f__law_drawn (consE (var 1) nilE)))])])
  (seqS (ifS (vw2 neF (bltE reprF [(calD f_row_led (consE (var 15) (consE (var 4) nilE)))]) (bltE reprF [(calD f__law_led (consE (var 15) (consE (var 4) nilE)))]))
 (retS (cst (.bl false)))
 pasS)
  (seqS (asgS (.one 18) (bltE tupF [(lcE .val (.one 17) [17] (seqI (var 3)) (cst (.bl true)) (calD f__law_sum (consE (lcE .val (.many [5, 6]) [5, 6] (zipI false (var 17) (var 16)) (cst (.bl true)) (calD f__law_mul (consE (var 5) (consE (var 6) nilE)))) nilE)))]))
  (seqS (ifS (vw2 neF (bltE reprF [(calD f_column_led (consE (var 3) (consE (var 16) nilE)))]) (bltE reprF [(var 18)]))
 (retS (cst (.bl false)))
 pasS)
  (seqS (ifS (vw2 neF (bltE reprF [(calD f_tables_led (consE (var 3) (consE (var 4) nilE)))]) (bltE reprF [(bltE tupF [(lcE .val (.one 17) [17] (seqI (var 3)) (cst (.bl true)) (calD f__law_led (consE (var 17) (consE (var 4) nilE))))])]))
 (retS (cst (.bl false)))
 pasS)
  (seqS (ifS (orE (vw2 neF (bltE reprF [(calD f_across (consE (var 3) nilE))]) (bltE reprF [(bltE tupF [(lcE .val (.one 25) [25] (rng1 (var 13)) (cst (.bl true)) (bltE tupF [(lcE .val (.one 17) [17] (seqI (var 3)) (cst (.bl true)) (vw2 ixF (var 17) (var 25)))]))])])) (vw2 neF (calD f_across (consE (tupE nilE) nilE)) (tupE nilE)))
 (retS (cst (.bl false)))
 pasS)
  (seqS (parS [19, 20] [(calD f_row_scaled (consE (var 15) (consE (vw2 ixF (var 16) (cst (.int 0))) nilE))), (vw2 ixF (var 16) (cst (.int 0)))])
  (seqS (ifS (vw2 neF (bltE reprF [(var 19)]) (bltE reprF [(bltE tupF [(lcE .val (.one 5) [5] (seqI (var 15)) (cst (.bl true)) (calD f__law_mul (consE (var 5) (consE (var 20) nilE))))])]))
 (retS (cst (.bl false)))
 pasS)
  (seqS (ifS (vw2 neF (bltE reprF [(calD f_row_sum (consE (var 15) (consE (var 16) nilE)))]) (bltE reprF [(bltE tupF [(lcE .val (.many [5, 6]) [5, 6] (zipI false (var 15) (var 16)) (cst (.bl true)) (calD f__law_add (consE (var 5) (consE (var 6) nilE))))])]))
 (retS (cst (.bl false)))
 pasS)
  (seqS (asgS (.one 21) (calD f_unit_rows (consE (var 13) nilE)))
  (seqS (ifS (orE (vw2 neF (bltE reprF [(calD f_tables_led (consE (var 3) (consE (var 21) nilE)))]) (bltE reprF [(var 3)])) (vw2 neF (bltE reprF [(calD f_row_led (consE (var 16) (consE (var 21) nilE)))]) (bltE reprF [(var 16)])))
 (retS (cst (.bl false)))
 pasS)
  (seqS (asgS (.one 22) (bltE tupF [(lcE .val (.one 26) [26] (rng1 (var 13)) (cst (.bl true)) (bltE tupF [(lcE .val (.one 25) [25] (rng1 (var 13)) (cst (.bl true)) (calD f__law_drawn (consE (var 1) nilE)))]))]))
  (seqS (asgS (.one 23) (calD f_column_led (consE (var 22) (consE (var 16) nilE))))
  (seqS (asgS (.one 24) (calD f_one_solution (consE (var 22) (consE (var 23) nilE))))
  (seqS (ifS (andE (vw2 nisF (var 24) (cst .non)) (vw2 neF (bltE reprF [(calD f_column_led (consE (var 22) (consE (var 24) nilE)))]) (bltE reprF [(var 23)])))
 (retS (cst (.bl false)))
 pasS)
  (seqS (ifS (andE (vw2 gtF (var 13) (cst (.int 1))) (vw2 nisF (calD f_one_solution (consE (vw2 addF (vw2 mulF (slE (var 22) none (some (cst (.int 1)))) (cst (.int 2))) (slE (var 22) (some (cst (.int 2))) none)) (consE (var 23) nilE))) (cst .non)))
 (retS (cst (.bl false)))
 pasS)
  (seqS (asgS (.one 17) (bltE tupF [(lcE .val (.one 26) [26] (rng1 (var 13)) (cst (.bl true)) (bltE tupF [(lcE .val (.one 25) [25] (rng1 (var 13)) (cst (.bl true)) (ife (vw2 leF (var 25) (var 26)) (tupE (consE (cst (.int 1)) (consE (cst (.int 1)) nilE))) (tupE (consE (cst (.int 0)) (consE (cst (.int 1)) nilE)))))]))]))
  (retS (vw2 eqF (bltE reprF [(calD f_one_solution (consE (var 17) (consE (calD f_column_led (consE (var 17) (consE (var 16) nilE))) nilE)))]) (bltE reprF [(var 16)])))))))))))))))))))))))))))
def f_law : Fn := runF 27 1 b_law
def T : Cal := fun i => match i with
  | 0 => f_is_whole
  | 1 => f_ratio_of
  | 2 => f_is_ratio
  | 3 => f_ratio_sum
  | 4 => f_ratio_less
  | 5 => f_ratio_product
  | 6 => f_ratio_quotient
  | 7 => f_not_long
  | 8 => f_whole_row
  | 9 => f_made_small
  | 10 => f_RowBasis_init
  | 11 => f_RowBasis_many
  | 12 => f_RowBasis_led_down
  | 13 => f_RowBasis_factors
  | 14 => f_RowBasis_put
  | 15 => f_row_sum
  | 16 => f_row_scaled
  | 17 => f_unit_rows
  | 18 => f_row_led
  | 19 => f_across
  | 20 => f_column_led
  | 21 => f_tables_led
  | 22 => f_one_solution
  | 23 => f__law_source
  | 24 => f__law_pick
  | 25 => f__law_of
  | 26 => f__law_part
  | 27 => f__law_num
  | 28 => f__law_add
  | 29 => f__law_mul
  | 30 => f__law_drawn
  | 31 => f__law_is
  | 32 => f__law_sum
  | 33 => f__law_led
  | 34 => f__law_figures_right
  | 35 => f_law
  | _ => fun _ _ => .bad
end
end K07
end
section
set_option Elab.async false
set_option linter.all false
set_option maxRecDepth 100000
namespace Cv
open PySem L2
@[simp] theorem ap_cst (d : DV) (st : Sta) : cst d st = .ok d st := rfl
@[simp] theorem ap_var (i : Nat) (st : Sta) : var i st = match st.env[i]? with
  | some (some d) => .ok d st
  | _ => .bad := rfl
@[simp] theorem ap_vw1 (r : DV → Option DV) (f : Ex) (st : Sta) : vw1 r f st = (f st).bind fun a s => optO (r (look s a)) s := rfl
@[simp] theorem ap_vw2 (r : DV → DV → Option DV) (f g : Ex) (st : Sta) : vw2 r f g st = (f st).bind fun a s => (g s).bind fun b s => optO (r (look s a) (look s b)) s := rfl
@[simp] theorem ap_ife (c a b : Ex) (st : Sta) : ife c a b st = (c st).bind fun x s => match x with
  | .bl true => a s
  | .bl false => b s
  | _ => .bad := rfl
@[simp] theorem ap_and (a b : Ex) (st : Sta) : andE a b st = (a st).bind fun x s => match x with
  | .bl true => b s
  | .bl false => .ok (.bl false) s
  | _ => .bad := rfl
@[simp] theorem ap_or (a b : Ex) (st : Sta) : orE a b st = (a st).bind fun x s => match x with
  | .bl false => b s
  | .bl true => .ok (.bl true) s
  | _ => .bad := rfl
@[simp] theorem ap_not (f : Ex) (st : Sta) : notE f st = (f st).bind fun x s => match x with
  | .bl b => .ok (.bl !b) s
  | _ => .bad := rfl
@[simp] theorem ap_out (f : Ex) (st : Sta) : out f st = (f st).bind frz := rfl
@[simp] theorem ap_nil (st : Sta) : nilE st = .ok [] st := rfl
@[simp] theorem ap_cons (f : Ex) (g : Exs) (st : Sta) : consE f g st = (out f st).bind fun a s => (g s).bind fun as s => .ok (a :: as) s := rfl
@[simp] theorem ap_tup (g : Exs) (st : Sta) : tupE g st = (g st).bind fun as s => if as.length ≤ sizeLine then .ok (.tup as) s else .bad := rfl
@[simp] theorem ap_lst (m : Md) (g : Exs) (st : Sta) : lstE m g st = (g st).bind fun as s => if as.length ≤ sizeLine then keep m as s else .bad := rfl
@[simp] theorem ap_evs0 (st : Sta) : evs [] st = .ok [] st := rfl
@[simp] theorem ap_evs (f : Ex) (fs : List Ex) (st : Sta) : evs (f :: fs) st = (f st).bind fun d s => (evs fs s).bind fun ds s => .ok (d :: ds) s := rfl
@[simp] theorem ap_blt (r : List DV → Option DV) (fs : List Ex) (st : Sta) : bltE r fs st = (evs fs st).bind fun ds s => optO (r (ds.map (look s))) s := rfl
@[simp] theorem ap_cal (F : Fn) (g : Exs) (st : Sta) : calD F g st = (g st).bind fun as s => match F as s.gh with
  | .ok d gh => .ok d { s with gh := gh }
  | .ex x gh => .ex x { s with gh := gh }
  | .bad => .bad := rfl
@[simp] theorem ap_seq (f g : Sm) (st : Sta) : seqS f g st = (f st).bind fun fl s => match fl with
  | .nx => g s
  | fl => .ok fl s := rfl
@[simp] theorem ap_pas (st : Sta) : pasS st = .ok .nx st := rfl
@[simp] theorem ap_ret (f : Ex) (st : Sta) : retS f st = (out f st).bind fun d s => .ok (.rt d) s := rfl
@[simp] theorem ap_retN (st : Sta) : retN st = .ok (.rt .non) st := rfl
@[simp] theorem ap_bk (st : Sta) : bkS st = .ok .bk st := rfl
@[simp] theorem ap_ct (st : Sta) : ctS st = .ok .ct st := rfl
@[simp] theorem ap_exp (f : Ex) (st : Sta) : expS f st = (f st).bind fun _ s => .ok .nx s := rfl
@[simp] theorem ap_asg (t : Tg) (f : Ex) (st : Sta) : asgS t f st = (f st).bind fun d s => (t.bind d s).bind fun _ s => .ok .nx s := rfl
@[simp] theorem ap_if (c : Ex) (a b : Sm) (st : Sta) : ifS c a b st = (c st).bind fun x s => match x with
  | .bl true => a s
  | .bl false => b s
  | _ => .bad := rfl
@[simp] theorem ap_par (is : List Nat) (fs : List Ex) (st : Sta) : parS is fs st = (evs fs st).bind fun ds s => match setEs is ds s.env with
  | some env => .ok .nx { s with env := env }
  | none => .bad := rfl
@[simp] theorem ap_aug (i : Nat) (r : DV → DV → Option DV) (f : Ex) (st : Sta) : augS i r f st = asgS (.one i) (vw2 r (var i) f) st := rfl
@[simp] theorem ap_for (t : Tg) (it : Ite) (b : Sm) (st : Sta) : forS t it b st = (it st).bind fun src s => forGo t b s src.gd src.ds s := rfl
@[simp] theorem ap_lc (m : Md) (t : Tg) (own : List Nat) (it : Ite) (c f : Ex) (st : Sta) : lcE m t own it c f st = (it st).bind fun src s =>
  if src.ds.length ≤ sizeLine then (lcGo t own c f s.env s src.gd src.ds s []).bind fun ds s => keep m ds s else .bad := rfl
@[simp] theorem ap_seqI (f : Ex) (st : Sta) : seqI f st = (f st).bind fun d s => (optO (items (look s d)) s).bind fun ds s => .ok ⟨ds, guardOf d⟩ s := rfl
@[simp] theorem ap_zipI (b : Bool) (f k : Ex) (st : Sta) : zipI b f k st = (f st).bind fun d s => (k s).bind fun e s => match items (look s d), items (look s e) with
  | some xs, some ys => if b = true → xs.length = ys.length then .ok ⟨zipL xs ys, guardOf d ++ guardOf e⟩ s else .bad
  | _, _ => .bad := rfl
@[simp] theorem ap_enuI (f : Ex) (st : Sta) : enuI f st = (f st).bind fun d s => (optO (items (look s d)) s).bind fun ds s => .ok ⟨enuL 0 ds, guardOf d⟩ s := rfl
theorem ap_rng1 (f : Ex) (st : Sta) : rng1 f st = (f st).bind fun d s => match d with
  | .int j => if -(2 ^ 62) ≤ j ∧ j < 2 ^ 62 then .ok ⟨rngL 0 j.toNat, []⟩ s else .bad
  | _ => .bad := rfl
@[simp] theorem ap_set (a i e : Ex) (st : Sta) : setS a i e st = (out e st).bind fun y s => (a s).bind fun d s => (i s).bind fun k s => (chg d (setR (look s k) y) s).bind fun _ s => .ok .nx s := rfl
@[simp] theorem ap_app (a f : Ex) (st : Sta) : appE a f st = (a st).bind fun d s => if isLst (look s d) = true then (out f s).bind fun y s => chg d (appR y) s else .bad := rfl
@[simp] theorem ap_pop (a : Ex) (st : Sta) : popE a st = (a st).bind fun d s => if isLst (look s d) = true then chg d popR s else .bad := rfl
@[simp] theorem ap_dct (m : Md) (ks : List Key) (fs : List Ex) (st : Sta) : dctE m ks fs st = (conses fs st).bind fun ds s => keepD m ks ds s := rfl
@[simp] theorem ap_conses0 : conses [] = nilE := rfl
@[simp] theorem ap_conses (f : Ex) (fs : List Ex) : conses (f :: fs) = consE f (conses fs) := rfl
@[simp] theorem ap_rev (m : Md) (f : Ex) (st : Sta) : revM m f st = (f st).bind fun d s => match look s d with
  | .lst ds => keep m ds.reverse s
  | _ => .bad := rfl
@[simp] theorem ap_sl (f : Ex) (lo hi : Option Ex) (st : Sta) : slE f lo hi st = (f st).bind fun d s => (partE lo s).bind fun l s => (partE hi s).bind fun h s => optO (slF l h (look s d)) s := rfl
@[simp] theorem ap_part0 (st : Sta) : partE none st = .ok none st := rfl
@[simp] theorem ap_part (f : Ex) (st : Sta) : partE (some f) st = (f st).bind fun d s => match d with
    | .int i => .ok (some i) s
    | _ => .bad := rfl
@[simp] theorem ap_fld (cs : List String) (x : Str) (f : Ex) (st : Sta) : fldE cs x f st = (f st).bind fun d s => match d with
  | .glb n => match s.gh[n]? with
    | some (.ins c fs ds) => if c ∈ cs then optO (fGet fs ds x) s else .bad
    | _ => .bad
  | _ => .bad := rfl
@[simp] theorem ap_met (c : String) (m : Str) (F : Fn) (f : Ex) (g : Exs) (st : Sta) : metE c m F f g st = (f st).bind fun d s => match d with
  | .glb n => match s.gh[n]? with
    | some (.ins c' fs ds) => if c' = c ∧ fGet fs ds m = none then (g s).bind fun as s => metO F n as s else .bad
    | _ => .bad
  | _ => .bad := rfl
@[simp] theorem ap_mak (c : String) (F : Fn) (g : Exs) (st : Sta) : makE c F g st = (g st).bind fun as s => match F (.glb s.gh.length :: as) (s.gh ++ [.ins c [] []]) with
  | .ok .non gh => .ok (.glb s.gh.length) { s with gh := gh }
  | .ok _ _ => .bad
  | .ex x gh => .ex x { s with gh := gh }
  | .bad => .bad := rfl
@[simp] theorem ap_fldS (cs : List String) (x : Str) (f v : Ex) (st : Sta) : fldS cs x f v st = (out v st).bind fun y s => (f s).bind fun d s => match d with
  | .glb n => match s.gh[n]? with
    | some (.ins c fs ds) => if c ∈ cs ∧ fs.length < 1000 then .ok .nx { s with gh := s.gh.set n (.ins c (fPut fs ds x y).1 (fPut fs ds x y).2) } else .bad
    | _ => .bad
  | _ => .bad := rfl
@[simp] theorem ap_one (i : Nat) (d : DV) (st : Sta) : (Tg.one i).bind d st = .ok () { st with env := setE i d st.env } := rfl
@[simp] theorem ap_many (is : List Nat) (d : DV) (st : Sta) : (Tg.many is).bind d st = match look st d with
    | .tup ds => match setEs is ds st.env with
      | some env => .ok () { st with env := env }
      | none => .bad
    | _ => .bad := rfl
@[simp] theorem ap_tlst (is : List Nat) (d : DV) (st : Sta) : (Tg.lst is).bind d st = match look st d with
    | .lst ds => match setEs is ds st.env with
      | some env => .ok () { st with env := env }
      | none => .bad
    | _ => .bad := rfl
@[simp] theorem ap_setE (i : Nat) (d : DV) (env : List (Option DV)) : setE i d env = env.set i (some d) := rfl
@[simp] theorem ap_setEs0 (env : List (Option DV)) : setEs [] [] env = some env := rfl
@[simp] theorem ap_setEs (i : Nat) (is : List Nat) (d : DV) (ds : List DV) (env : List (Option DV)) : setEs (i :: is) (d :: ds) env = setEs is ds (setE i d env) := rfl
@[simp] theorem ap_wipe0 (env : List (Option DV)) : wipeE env [] = env := rfl
@[simp] theorem ap_wipe (env : List (Option DV)) (v : Nat) (vs : List Nat) : wipeE env (v :: vs) = (wipeE env vs).set v none := rfl
@[simp] theorem look_int (s : Sta) (i : Int) : look s (.int i) = .int i := rfl
@[simp] theorem look_bl (s : Sta) (i : Bool) : look s (.bl i) = .bl i := rfl
@[simp] theorem look_str (s : Sta) (i : Str) : look s (.str i) = .str i := rfl
@[simp] theorem look_non (s : Sta) : look s .non = .non := rfl
@[simp] theorem look_tup (s : Sta) (i : List DV) : look s (.tup i) = .tup i := rfl
@[simp] theorem look_lst (s : Sta) (i : List DV) : look s (.lst i) = .lst i := rfl
@[simp] theorem look_scr (s : Sta) (i : List Int) : look s (.scr i) = .scr i := rfl
@[simp] theorem look_dct (s : Sta) (i : List Key) (j : List DV) : look s (.dct i j) = .dct i j := rfl
@[simp] theorem look_loc (s : Sta) (n : Nat) : look s (.loc n) = match s.lh[n]? with
    | some (_, o) => o.val
    | none => .loc n := rfl
@[simp] theorem look_glb (s : Sta) (n : Nat) : look s (.glb n) = match s.gh[n]? with
    | some (.lst ds) => .lst ds
    | some (.dct ks ds) => .dct ks ds
    | _ => .glb n := rfl
@[simp] theorem frz_int (s : Sta) (i : Int) : frz (.int i) s = .ok (.int i) s := rfl
@[simp] theorem frz_bl (s : Sta) (i : Bool) : frz (.bl i) s = .ok (.bl i) s := rfl
@[simp] theorem frz_str (s : Sta) (i : Str) : frz (.str i) s = .ok (.str i) s := rfl
@[simp] theorem frz_non (s : Sta) : frz .non s = .ok .non s := rfl
@[simp] theorem frz_tup (s : Sta) (i : List DV) : frz (.tup i) s = .ok (.tup i) s := rfl
@[simp] theorem frz_lst (s : Sta) (i : List DV) : frz (.lst i) s = .ok (.lst i) s := rfl
@[simp] theorem frz_dct (s : Sta) (i : List Key) (j : List DV) : frz (.dct i j) s = .ok (.dct i j) s := rfl
@[simp] theorem frz_scr (s : Sta) (i : List Int) : frz (.scr i) s = .ok (.scr i) s := rfl
@[simp] theorem frz_glb (s : Sta) (n : Nat) : frz (.glb n) s = .ok (.glb n) s := rfl
@[simp] theorem frz_loc (s : Sta) (n : Nat) : frz (.loc n) s = match s.lh[n]? with
    | some (_, o) => .ok o.val { s with lh := s.lh.set n (true, o) }
    | none => .bad := rfl
@[simp] theorem val_lst (ds : List DV) : (Ob.lst ds).val = .lst ds := rfl
@[simp] theorem val_dct (ks : List Key) (ds : List DV) : (Ob.dct ks ds).val = .dct ks ds := rfl
@[simp] theorem keep_val (ds : List DV) (st : Sta) : keep .val ds st = .ok (.lst ds) st := rfl
@[simp] theorem keep_loc (ds : List DV) (st : Sta) : keep .loc ds st = .ok (.loc st.lh.length) { st with lh := st.lh ++ [(false, .lst ds)] } := rfl
@[simp] theorem keep_glb (ds : List DV) (st : Sta) : keep .glb ds st = .ok (.glb st.gh.length) { st with gh := st.gh ++ [.lst ds] } := rfl
@[simp] theorem keepD_glb (ks : List Key) (ds : List DV) (st : Sta) : keepD .glb ks ds st = .ok (.glb st.gh.length) { st with gh := st.gh ++ [.dct ks ds] } := rfl
@[simp] theorem items_lst (ds : List DV) : items (.lst ds) = some ds := rfl
@[simp] theorem items_tup (ds : List DV) : items (.tup ds) = some ds := rfl
@[simp] theorem items_scr (ds : List Int) : items (.scr ds) = some (ds.map .int) := rfl
@[simp] theorem guard_lst (ds : List DV) : guardOf (.lst ds) = [] := rfl
@[simp] theorem guard_tup (ds : List DV) : guardOf (.tup ds) = [] := rfl
@[simp] theorem guard_scr (ds : List Int) : guardOf (.scr ds) = [] := rfl
@[simp] theorem guard_glb (n : Nat) : guardOf (.glb n) = [.glb n] := rfl
@[simp] theorem guard_loc (n : Nat) : guardOf (.loc n) = [.loc n] := rfl
@[simp] theorem stays_nil (s s' : Sta) : stays [] s s' := fun _ h => absurd h List.not_mem_nil
@[simp] theorem stays_glb (n : Nat) (s s' : Sta) : stays [.glb n] s s' ↔ look s' (.glb n) = look s (.glb n) := ⟨fun h => h _ List.mem_cons_self, fun h d hd => by rw [List.mem_singleton.mp hd]; exact h⟩
@[simp] theorem lv_rt (d : DV) (s : Sta) : leave (.ok (.rt d) s) = .ok d s.gh := rfl
@[simp] theorem lv_nx (s : Sta) : leave (.ok .nx s) = .ok .non s.gh := rfl
@[simp] theorem isLst_lst (ds : List DV) : isLst (.lst ds) = true := rfl

theorem rng_int {f : Ex} {st s : Sta} {j : Int} (h : f st = .ok (.int j) s) (h1 : -(2 ^ 62) ≤ j) (h2 : j < 2 ^ 62) : rng1 f st = .ok ⟨rngL 0 j.toNat, []⟩ s := by
  rw [ap_rng1, h]
  simp only [Out.bind_ok]
  rw [if_pos ⟨h1, h2⟩]
theorem rng_ok {f : Ex} {st s : Sta} {w : Nat} (h : f st = .ok (.int (w : Nat)) s) (hw : w ≤ 1000000) : rng1 f st = .ok ⟨rngL 0 w, []⟩ s := by
  have h1 : ((w : Nat) : Int) ≤ 1000000 := Int.ofNat_le.mpr hw
  have := rng_int h (Int.le_trans (by decide) (Int.natCast_nonneg w)) (Int.lt_of_le_of_lt h1 (by decide))
  rwa [Int.toNat_natCast] at this
theorem stays_same {gd : List DV} {s s' : Sta} (h1 : s'.lh = s.lh) (h2 : s'.gh = s.gh) : stays gd s s' := fun d _ => by
  cases d with
  | loc n => simp only [look_loc, h1]
  | glb n => simp only [look_glb, h2]
  | _ => rfl
theorem forGo_ok {t : Tg} {b : Sm} {s0 : Sta} {gd : List DV} {ds : List DV} (I : Nat → Sta → Prop)
    (step : ∀ (i : Nat) d st, ds[i]? = some d → I i st → ∃ s1, t.bind d st = .ok () s1 ∧ ∃ s2, (b s1 = .ok .nx s2 ∨ b s1 = .ok .ct s2) ∧ stays gd s0 s2 ∧ I (i + 1) s2) :
    ∀ (n i : Nat) (st : Sta), n + i = ds.length → I i st → ∃ st', forGo t b s0 gd (ds.drop i) st = .ok .nx st' ∧ I ds.length st'
  | 0, i, st, e, h => ⟨st, by rw [List.drop_eq_nil_of_le (by omega)]; rfl, by rw [← e, Nat.zero_add]; exact h⟩
  | n + 1, i, st, e, h => by
    have hi : i < ds.length := by omega
    obtain ⟨s1, h1, s2, h2, h3, h4⟩ := step i ds[i] st (List.getElem?_eq_getElem hi) h
    obtain ⟨st', h5, h6⟩ := forGo_ok I step n (i + 1) s2 (by omega) h4
    refine ⟨st', ?_, h6⟩
    rw [List.drop_eq_getElem_cons hi]
    unfold forGo
    rw [h1]
    simp only [Out.bind_ok]
    rcases h2 with h2 | h2 <;> rw [h2] <;> simp only [Out.bind_ok] <;> rw [if_pos h3] <;> exact h5
theorem for_ok {t : Tg} {b : Sm} {s0 : Sta} {gd : List DV} {ds : List DV} (I : Nat → Sta → Prop) {st : Sta} (h0 : I 0 st)
    (step : ∀ (i : Nat) d st, ds[i]? = some d → I i st → ∃ s1, t.bind d st = .ok () s1 ∧ ∃ s2, (b s1 = .ok .nx s2 ∨ b s1 = .ok .ct s2) ∧ stays gd s0 s2 ∧ I (i + 1) s2) :
    ∃ st', forGo t b s0 gd ds st = .ok .nx st' ∧ I ds.length st' := by
  have := forGo_ok I step ds.length 0 st (by omega) h0
  rwa [List.drop_zero] at this
theorem lcGo_ok {t : Tg} {own : List Nat} {c f : Ex} {env0 : List (Option DV)} {s0 : Sta} {gd : List DV} {ds : List DV} (I : Nat → Sta → List DV → Prop)
    (step : ∀ (i : Nat) d st acc, ds[i]? = some d → I i st acc → ∃ s1, t.bind d { st with env := wipeE env0 own } = .ok () s1 ∧
      ((∃ s2 y s3, c s1 = .ok (.bl true) s2 ∧ out f s2 = .ok y s3 ∧ stays gd s0 s3 ∧ I (i + 1) s3 (acc ++ [y])) ∨ ∃ s2, c s1 = .ok (.bl false) s2 ∧ stays gd s0 s2 ∧ I (i + 1) s2 acc)) :
    ∀ (n i : Nat) (st : Sta) (acc : List DV), n + i = ds.length → I i st acc → ∃ st' acc', lcGo t own c f env0 s0 gd (ds.drop i) st acc = .ok acc' { st' with env := env0 } ∧ I ds.length st' acc'
  | 0, i, st, acc, e, h => ⟨st, acc, by rw [List.drop_eq_nil_of_le (by omega)]; rfl, by rw [← e, Nat.zero_add]; exact h⟩
  | n + 1, i, st, acc, e, h => by
    have hi : i < ds.length := by omega
    obtain ⟨s1, h1, h2⟩ := step i ds[i] st acc (List.getElem?_eq_getElem hi) h
    rw [List.drop_eq_getElem_cons hi]
    unfold lcGo
    rw [h1]
    simp only
    rcases h2 with ⟨s2, y, s3, h3, h4, h5, h6⟩ | ⟨s2, h3, h5, h6⟩
    · obtain ⟨st', acc', h7, h8⟩ := lcGo_ok I step n (i + 1) s3 _ (by omega) h6
      refine ⟨st', acc', ?_, h8⟩
      rw [h3]
      simp only
      rw [h4]
      simp only
      rw [if_pos h5]
      exact h7
    · obtain ⟨st', acc', h7, h8⟩ := lcGo_ok I step n (i + 1) s2 _ (by omega) h6
      refine ⟨st', acc', ?_, h8⟩
      rw [h3]
      simp only
      rw [if_pos h5]
      exact h7
theorem lc_ok {t : Tg} {own : List Nat} {c f : Ex} {env0 : List (Option DV)} {s0 : Sta} {gd : List DV} {ds : List DV} (I : Nat → Sta → List DV → Prop) {st : Sta} (h0 : I 0 st [])
    (step : ∀ (i : Nat) d st acc, ds[i]? = some d → I i st acc → ∃ s1, t.bind d { st with env := wipeE env0 own } = .ok () s1 ∧
      ((∃ s2 y s3, c s1 = .ok (.bl true) s2 ∧ out f s2 = .ok y s3 ∧ stays gd s0 s3 ∧ I (i + 1) s3 (acc ++ [y])) ∨ ∃ s2, c s1 = .ok (.bl false) s2 ∧ stays gd s0 s2 ∧ I (i + 1) s2 acc)) :
    ∃ st' acc', lcGo t own c f env0 s0 gd ds st [] = .ok acc' { st' with env := env0 } ∧ I ds.length st' acc' := by
  have := lcGo_ok I step ds.length 0 st [] (by omega) h0
  rwa [List.drop_zero] at this
def Gv (o : Out Sta DV) (y : DV) (s0 : Sta) : Prop := match o with
  | .ok d s => d = y ∧ s.lh = s0.lh ∧ s.gh = s0.gh
  | _ => False
@[simp] theorem gv_ok (d y : DV) (s s0 : Sta) : Gv (.ok d s) y s0 ↔ d = y ∧ s.lh = s0.lh ∧ s.gh = s0.gh := Iff.rfl
theorem Gv.ex {o : Out Sta DV} {y : DV} {s0 : Sta} (h : Gv o y s0) : ∃ s', o = .ok y s' ∧ s'.lh = s0.lh ∧ s'.gh = s0.gh := by
  cases o with
  | ok d s => obtain ⟨h1, h2, h3⟩ := h; subst h1; exact ⟨s, rfl, h2, h3⟩
  | ex x s => exact h.elim
  | bad => exact h.elim
theorem lc_map {t : Tg} {own : List Nat} {f : Ex} {s0 : Sta} {gd : List DV} {ds ys : List DV} (hl : ys.length = ds.length)
    (step : ∀ (i : Nat) d y, ds[i]? = some d → ys[i]? = some y → ∃ s1, t.bind d { s0 with env := wipeE s0.env own } = .ok () s1 ∧ ∃ s3, out f s1 = .ok y s3 ∧ s3.lh = s0.lh ∧ s3.gh = s0.gh) :
    lcGo t own (cst (.bl true)) f s0.env s0 gd ds s0 [] = .ok ys s0 := by
  obtain ⟨st', acc', h1, h2, h3, h4⟩ := lc_ok (t := t) (own := own) (c := cst (.bl true)) (f := f) (env0 := s0.env) (s0 := s0) (gd := gd) (ds := ds) (fun i st acc => st.lh = s0.lh ∧ st.gh = s0.gh ∧ acc = ys.take i) (st := s0) ⟨rfl, rfl, by simp⟩ (fun i d st acc hd ⟨e1, e2, e3⟩ => by
    have hi : i < ys.length := by rw [hl]; exact (List.getElem?_eq_some_iff.mp hd).1
    obtain ⟨s1, k1, s3, k2, k3, k4⟩ := step i d ys[i] hd (List.getElem?_eq_getElem hi)
    have est : { st with env := wipeE s0.env own } = { s0 with env := wipeE s0.env own } := by
      cases st; cases s0; simp only at e1 e2; subst e1 e2; rfl
    rw [est]
    exact ⟨s1, k1, .inl ⟨s1, ys[i], s3, rfl, k2, stays_same k3 k4, k3, k4, by rw [e3, List.take_add_one, List.getElem?_eq_getElem hi]; rfl⟩⟩)
  rw [h1]
  have e0 : { st' with env := s0.env } = s0 := by
    cases st'; cases s0; simp only at h2 h3; subst h2 h3; rfl
  rw [e0, h4, ← hl, List.take_length]
end Cv
end
section
set_option Elab.async false
set_option linter.all false
set_option maxRecDepth 100000
set_option exponentiation.threshold 20000
namespace Cv
open PySem L2
def rv (q : Rat) : DV := .tup [.int q.num, .int (q.den : Nat)]
def Sz (n : Nat) (q : Rat) : Prop := q.num.natAbs < 2 ^ n ∧ q.den < 2 ^ n
def Bd (n : Nat) (i : Int) : Prop := i.natAbs < 2 ^ n
theorem Bd.mono {m n : Nat} {i : Int} (h : Bd m i) (l : m ≤ n) : Bd n i := Nat.lt_of_lt_of_le h (Nat.pow_le_pow_right (by decide) l)
theorem Sz.mono {m n : Nat} {q : Rat} (h : Sz m q) (l : m ≤ n) : Sz n q := ⟨Nat.lt_of_lt_of_le h.1 (Nat.pow_le_pow_right (by decide) l), Nat.lt_of_lt_of_le h.2 (Nat.pow_le_pow_right (by decide) l)⟩
theorem Sz.num {n : Nat} {q : Rat} (h : Sz n q) : Bd n q.num := h.1
theorem Sz.den {n : Nat} {q : Rat} (h : Sz n q) : Bd n (q.den : Int) := by unfold Bd; rw [Int.natAbs_natCast]; exact h.2
theorem Bd.mul {m n : Nat} {i j : Int} (h : Bd m i) (k : Bd n j) : Bd (m + n) (i * j) := by
  unfold Bd at *
  rw [Int.natAbs_mul, Nat.pow_add]
  exact Nat.mul_lt_mul'' h k
theorem Bd.add {n : Nat} {i j : Int} (h : Bd n i) (k : Bd n j) : Bd (n + 1) (i + j) := by
  unfold Bd at *
  have := Int.natAbs_add_le i j
  rw [Nat.pow_succ]
  omega
theorem Bd.sub {n : Nat} {i j : Int} (h : Bd n i) (k : Bd n j) : Bd (n + 1) (i - j) := by
  unfold Bd at *
  have := Int.natAbs_sub_le i j
  rw [Nat.pow_succ]
  omega
theorem Bd.neg {n : Nat} {i : Int} (h : Bd n i) : Bd n (-i) := by unfold Bd at *; rw [Int.natAbs_neg]; exact h
theorem log2_lt {n a : Nat} (h : a < 2 ^ n) (h0 : 0 < n) : a.log2 < n := by
  by_cases z : a = 0
  · subst z; simpa using h0
  · exact (Nat.log2_lt z).mpr h
theorem Bd.log {n : Nat} {i : Int} (h : Bd n i) (h0 : 0 < n) : i.natAbs.log2 < n := log2_lt h h0
theorem mulOk_bd {m n : Nat} {i j : Int} (h : Bd m i) (k : Bd n j) (l : m + n ≤ 90000000) : mulOk i j := by
  have h1 := (h.mono (Nat.le_succ m)).log (Nat.succ_pos m)
  have h2 := (k.mono (Nat.le_succ n)).log (Nat.succ_pos n)
  unfold mulOk
  omega
theorem divOk_bd {n : Nat} {i : Int} (h : Bd n i) (h0 : i ≠ 0) (l : n < 9000) : divOk i := ⟨h0, Nat.lt_of_lt_of_le ((h.mono (Nat.le_succ n)).log (Nat.succ_pos n)) (by omega)⟩
theorem fdiv_of_dvd {a g : Int} (hg : g ≠ 0) (h : g ∣ a) : a.fdiv g = a / g := by
  obtain ⟨k, rfl⟩ := h
  rw [Int.mul_fdiv_cancel_left _ hg, Int.mul_ediv_cancel_left _ hg]
theorem low_num {a b : Int} (hb : b ≠ 0) : a.fdiv (if 0 < b then ((Nat.gcd a.natAbs b.natAbs : Nat) : Int) else -((Nat.gcd a.natAbs b.natAbs : Nat) : Int)) = (Rat.divInt a b).num := by
  rw [Rat.num_divInt]
  have hg : ((Nat.gcd a.natAbs b.natAbs : Nat) : Int) ≠ 0 := by
    intro z
    have := Nat.gcd_eq_zero_iff.mp (Int.ofNat.inj z)
    omega
  have hc : Int.gcd b a = Nat.gcd a.natAbs b.natAbs := by rw [Int.gcd_comm]; rfl
  have hd : ((Nat.gcd a.natAbs b.natAbs : Nat) : Int) ∣ a := Int.ofNat_dvd_left.mpr (Nat.gcd_dvd_left _ _)
  rw [hc]
  generalize ((Nat.gcd a.natAbs b.natAbs : Nat) : Int) = g at hg hd
  by_cases h : 0 < b
  · rw [if_pos h, fdiv_of_dvd hg hd, Int.sign_eq_one_of_pos h, Int.one_mul]
  · rw [if_neg h, fdiv_of_dvd (by omega) (Int.neg_dvd.mpr hd), Int.sign_eq_neg_one_of_neg (by omega)]
    obtain ⟨k, rfl⟩ := hd
    rw [Int.ediv_neg, Int.mul_ediv_cancel_left _ hg, Int.neg_mul, Int.one_mul, ← Int.mul_neg, Int.mul_ediv_cancel_left _ hg]
theorem low_den {a b : Int} (hb : b ≠ 0) : b.fdiv (if 0 < b then ((Nat.gcd a.natAbs b.natAbs : Nat) : Int) else -((Nat.gcd a.natAbs b.natAbs : Nat) : Int)) = ((Rat.divInt a b).den : Nat) := by
  rw [Rat.den_divInt, if_neg hb]
  have hg : ((Nat.gcd a.natAbs b.natAbs : Nat) : Int) ≠ 0 := by
    intro z
    have := Nat.gcd_eq_zero_iff.mp (Int.ofNat.inj z)
    omega
  have hc : Int.gcd b a = Nat.gcd a.natAbs b.natAbs := by rw [Int.gcd_comm]; rfl
  have hd : ((Nat.gcd a.natAbs b.natAbs : Nat) : Int) ∣ b := Int.ofNat_dvd_left.mpr (Nat.gcd_dvd_right _ _)
  rw [hc, Int.natCast_ediv]
  generalize ((Nat.gcd a.natAbs b.natAbs : Nat) : Int) = g at hg hd
  by_cases h : 0 < b
  · rw [if_pos h, fdiv_of_dvd hg hd, Int.natAbs_of_nonneg (by omega)]
  · rw [if_neg h, fdiv_of_dvd (by omega) (Int.neg_dvd.mpr hd)]
    have e : ((b.natAbs : Nat) : Int) = -b := by omega
    rw [e]
    obtain ⟨k, rfl⟩ := hd
    rw [Int.ediv_neg, Int.mul_ediv_cancel_left _ hg, ← Int.mul_neg, Int.mul_ediv_cancel_left _ hg]
theorem part_ok {n : Nat} {a b : Int} (hb : b ≠ 0) (h : Bd n b) (l : n < 9000) : divOk (if 0 < b then ((Nat.gcd a.natAbs b.natAbs : Nat) : Int) else -((Nat.gcd a.natAbs b.natAbs : Nat) : Int)) := by
  have hg : Nat.gcd a.natAbs b.natAbs ≠ 0 := by
    intro z
    have := Nat.gcd_eq_zero_iff.mp z
    omega
  have hle : Nat.gcd a.natAbs b.natAbs ≤ b.natAbs := Nat.le_of_dvd (by omega) (Nat.gcd_dvd_right _ _)
  refine divOk_bd (n := n) ?_ ?_ l
  · unfold Bd at *
    split
    · rw [Int.natAbs_natCast]; omega
    · rw [Int.natAbs_neg, Int.natAbs_natCast]; omega
  · split <;> omega
theorem Sz.divInt {n : Nat} {a b : Int} (hb : b ≠ 0) (ha : Bd n a) (hb' : Bd n b) : Sz n (Rat.divInt a b) := by
  unfold Bd at *
  constructor
  · rw [Rat.num_divInt]
    have : (b.sign * a / (b.gcd a : Nat)).natAbs ≤ a.natAbs := by
      refine Nat.le_trans (Int.natAbs_ediv_le_natAbs _ _) ?_
      rw [Int.natAbs_mul, Int.natAbs_sign_of_ne_zero hb, Nat.one_mul]
      exact Nat.le_refl _
    omega
  · rw [Rat.den_divInt, if_neg hb]
    have := Nat.div_le_self b.natAbs (b.gcd a)
    omega
theorem add_divInt (p q : Rat) : Rat.divInt (p.num * q.den + q.num * p.den) (p.den * q.den : Int) = p + q := by
  have := Rat.divInt_add_divInt p.num q.num (d₁ := (p.den : Int)) (d₂ := (q.den : Int)) (by have := p.den_nz; omega) (by have := q.den_nz; omega)
  rw [Rat.num_divInt_den, Rat.num_divInt_den] at this
  exact this.symm
theorem sub_divInt (p q : Rat) : Rat.divInt (p.num * q.den - q.num * p.den) (p.den * q.den : Int) = p - q := by
  have := Rat.divInt_sub_divInt p.num q.num (d₁ := (p.den : Int)) (d₂ := (q.den : Int)) (by have := p.den_nz; omega) (by have := q.den_nz; omega)
  rw [Rat.num_divInt_den, Rat.num_divInt_den] at this
  exact this.symm
theorem mul_divInt (p q : Rat) : Rat.divInt (p.num * q.num) (p.den * q.den : Int) = p * q := by
  have := Rat.divInt_mul_divInt p.num q.num (d₁ := (p.den : Int)) (d₂ := (q.den : Int))
  rw [Rat.num_divInt_den, Rat.num_divInt_den] at this
  exact this.symm
theorem div_divInt (p q : Rat) : Rat.divInt (p.num * q.den) (p.den * q.num : Int) = p / q := by
  have h := Rat.divInt_mul_divInt p.num (q.den : Int) (d₁ := (p.den : Int)) (d₂ := q.num)
  rw [Rat.num_divInt_den] at h
  rw [← h, Rat.div_def, Rat.inv_def]
theorem den_ne (p : Rat) : (p.den : Int) ≠ 0 := by have := p.den_nz; omega
theorem den2_ne (p q : Rat) : (p.den * q.den : Int) ≠ 0 := Int.mul_ne_zero (den_ne p) (den_ne q)
theorem num_ne {q : Rat} (h : q ≠ 0) : q.num ≠ 0 := fun z => h (Rat.num_eq_zero.mp z)
theorem Sz.add {m n : Nat} {p q : Rat} (h : Sz m p) (k : Sz n q) : Sz (m + n + 1) (p + q) := by
  rw [← add_divInt]
  refine Sz.divInt (den2_ne p q) ?_ ((h.den.mul k.den).mono (Nat.le_succ _))
  refine Bd.add (h.num.mul k.den) ?_
  have := k.num.mul h.den
  rwa [Nat.add_comm n m] at this
theorem Sz.sub {m n : Nat} {p q : Rat} (h : Sz m p) (k : Sz n q) : Sz (m + n + 1) (p - q) := by
  rw [← sub_divInt]
  refine Sz.divInt (den2_ne p q) ?_ ((h.den.mul k.den).mono (Nat.le_succ _))
  refine Bd.sub (h.num.mul k.den) ?_
  have := k.num.mul h.den
  rwa [Nat.add_comm n m] at this
theorem Sz.mul {m n : Nat} {p q : Rat} (h : Sz m p) (k : Sz n q) : Sz (m + n) (p * q) := by
  rw [← mul_divInt]
  exact Sz.divInt (den2_ne p q) (h.num.mul k.num) (h.den.mul k.den)
theorem Sz.div {m n : Nat} {p q : Rat} (h : Sz m p) (k : Sz n q) (h0 : q ≠ 0) : Sz (m + n) (p / q) := by
  rw [← div_divInt]
  exact Sz.divInt (Int.mul_ne_zero (den_ne p) (num_ne h0)) (h.num.mul k.den) (h.den.mul k.num)
@[simp] theorem ix0 (a b : DV) : ixF (.tup [a, b]) (.int 0) = some a := rfl
@[simp] theorem ix1 (a b : DV) : ixF (.tup [a, b]) (.int 1) = some b := rfl
@[simp] theorem look_rv (s : Sta) (q : Rat) : look s (rv q) = rv q := rfl
@[simp] theorem frz_rv (s : Sta) (q : Rat) : frz (rv q) s = .ok (rv q) s := rfl
@[simp] theorem ix_rv0 (q : Rat) : ixF (rv q) (.int 0) = some (.int q.num) := rfl
@[simp] theorem ix_rv1 (q : Rat) : ixF (rv q) (.int 1) = some (.int (q.den : Nat)) := rfl
@[simp] theorem add_ii (i j : Int) : addF (.int i) (.int j) = some (.int (i + j)) := rfl
@[simp] theorem sub_ii (i j : Int) : subF (.int i) (.int j) = some (.int (i - j)) := rfl
@[simp] theorem neg_i (i : Int) : negF (.int i) = some (.int (-i)) := rfl
theorem mul_ii {i j : Int} (h : mulOk i j) : mulF (.int i) (.int j) = some (.int (i * j)) := if_pos h
theorem fdv_ii {i j : Int} (h : divOk j) : fdvF (.int i) (.int j) = some (.int (i.fdiv j)) := if_pos h
theorem mod_ii {i j : Int} (h : j ≠ 0) : modF (.int i) (.int j) = some (.int (i.fmod j)) := if_pos h
@[simp] theorem icmp_ii (p : Int → Int → Bool) (i j : Int) : icmp p (.int i) (.int j) = some (.bl (p i j)) := rfl
@[simp] theorem gcd_ii (i j : Int) : gcdF [.int i, .int j] = some (.int (Nat.gcd i.natAbs j.natAbs : Nat)) := rfl
@[simp] theorem abs_i (i : Int) : absF [.int i] = some (.int (if i < 0 then -i else i)) := rfl
@[simp] theorem int_i (i : Int) : intF [.int i] = some (.int i) := rfl
@[simp] theorem int_b (b : Bool) : intF [.bl b] = some (.int (if b then 1 else 0)) := rfl
@[simp] theorem len_t (ds : List DV) : lenF [.tup ds] = some (.int ds.length) := rfl
@[simp] theorem len_l (ds : List DV) : lenF [.lst ds] = some (.int ds.length) := rfl
@[simp] theorem tup_l (ds : List DV) : tupF [.lst ds] = some (.tup ds) := rfl
theorem eq_ii (i j : Int) : eqF (.int i) (.int j) = some (.bl (decide (i = j))) := by
  simp [eqF, eqB, eqS, eqP, toPy, SeqAt.shaped, PyData.eqv, PyData.canLay0, PyData.depth]
  rfl
end Cv
end
section
set_option Elab.async false
set_option linter.all false
set_option maxRecDepth 100000
set_option exponentiation.threshold 20000
namespace Cv
open PySem L2
theorem piled_le {n : Nat} : ∀ ts : List Str, (∀ t ∈ ts, t.length ≤ n) → PySem.piled ts ≤ ts.length * (n + 2)
  | [], _ => by simp [PySem.piled]
  | t :: ts, h => by
    rw [PySem.piled_cons, List.length_cons, Nat.succ_mul]
    have := h t List.mem_cons_self
    have := piled_le ts fun x hx => h x (List.mem_cons_of_mem _ hx)
    omega
theorem tupText_le {n : Nat} {ts : List Str} (h : ∀ t ∈ ts, t.length ≤ n) : (PySem.tupleText ts).length ≤ ts.length * (n + 2) + 3 := by
  unfold PySem.tupleText
  rw [PySem.strLen_append, PySem.strLen_append]
  have e1 : ((("(" : String) : Str)).length = 1 := rfl
  have e3 : (((if ts.length == 1 then ",)" else ")" : String) : Str)).length ≤ 2 := by split <;> decide
  rw [e1]
  have := piled_le ts h
  by_cases h0 : ts = []
  · subst h0
    have : (Str.join ", " ([] : List Str)).length = 0 := rfl
    omega
  · have := PySem.join_length_add ts h0
    omega
theorem lstText_le {n : Nat} {ts : List Str} (h : ∀ t ∈ ts, t.length ≤ n) : (PySem.listText ts).length ≤ ts.length * (n + 2) + 3 := by
  unfold PySem.listText
  rw [PySem.strLen_append]
  have e2 : ((("]" : String) : Str)).length = 1 := rfl
  rw [e2]
  have := piled_le ts h
  have key : (PySem.textFrom 0 "[" ts).length ≤ 1 + PySem.piled ts := by
    cases ts with
    | nil => decide
    | cons t r =>
      have e : PySem.textFrom 0 "[" (t :: r) = PySem.textFrom 1 (("[" : Str) ++ (if 0 > 0 then ", " else "" : String) ++ t) r := rfl
      rw [e, PySem.textFrom_length_pos r 1 _ (by decide), PySem.piled_cons, PySem.strLen_append, PySem.strLen_append]
      have e0 : ((("[" : String) : Str)).length = 1 := rfl
      have e4 : (((if 0 > 0 then ", " else "" : String) : Str)).length = 0 := rfl
      rw [e0, e4]
      omega
  omega
structure Rp (k n : Nat) (d : DV) (p : PyData) : Prop where
  py : toPy d = some p
  lay : p.canLay0 = true
  dep : p.depth ≤ k
  shw : p.showable = true
  len : p.shown.length ≤ n
structure Rps (k n : Nat) (ds : List DV) (ps : List PyData) : Prop where
  py : toPys ds = some ps
  lay : PyData.canLayAll0 ps = true
  dep : PyData.depthAll ps ≤ k
  shw : PyData.showableAll ps = true
  len : ∀ t ∈ PyData.shownAll ps, t.length ≤ n
  num : (PyData.shownAll ps).length = ds.length
theorem Rp.mono {k k' n n' : Nat} {d : DV} {p : PyData} (h : Rp k n d p) (h1 : k ≤ k') (h2 : n ≤ n') : Rp k' n' d p := ⟨h.py, h.lay, Nat.le_trans h.dep h1, h.shw, Nat.le_trans h.len h2⟩
theorem Rps.nil {k n : Nat} : Rps k n [] [] := ⟨rfl, rfl, Nat.zero_le _, rfl, fun t h => by simp [PyData.shownAll] at h, rfl⟩
theorem Rps.cons {k n : Nat} {d : DV} {p : PyData} {ds : List DV} {ps : List PyData} (h : Rp k n d p) (t : Rps k n ds ps) : Rps k n (d :: ds) (p :: ps) where
  py := by simp only [toPys, h.py, t.py]
  lay := by simp only [PyData.canLayAll0, h.lay, t.lay, Bool.and_true]
  dep := by simp only [PyData.depthAll]; exact Nat.max_le.mpr ⟨h.dep, t.dep⟩
  shw := by simp only [PyData.showableAll, h.shw, t.shw, Bool.and_true]
  len := fun x hx => by
    simp only [PyData.shownAll] at hx
    rcases List.mem_cons.mp hx with z | z
    · rw [z]; exact h.len
    · exact t.len x z
  num := by simp only [PyData.shownAll, List.length_cons, t.num]
theorem Rps.of {k n : Nat} : ∀ {ds : List DV}, (∀ d ∈ ds, ∃ p, Rp k n d p) → ∃ ps, Rps k n ds ps
  | [], _ => ⟨[], .nil⟩
  | d :: ds, h => by
    obtain ⟨p, hp⟩ := h d List.mem_cons_self
    obtain ⟨ps, hps⟩ := Rps.of fun x hx => h x (List.mem_cons_of_mem _ hx)
    exact ⟨p :: ps, .cons hp hps⟩
theorem Rp.tup {k n : Nat} {ds : List DV} {ps : List PyData} (h : Rps k n ds ps) : Rp (k + 1) (ds.length * (n + 2) + 3) (.tup ds) (.tuple ps) where
  py := by simp only [toPy, h.py]; rfl
  lay := by simp only [PyData.canLay0]; exact h.lay
  dep := by simp only [PyData.depth]; exact Nat.succ_le_succ h.dep
  shw := by simp only [PyData.showable]; exact h.shw
  len := by simp only [PyData.shown]; rw [← h.num]; exact tupText_le h.len
theorem Rp.lst {k n : Nat} {ds : List DV} {ps : List PyData} (h : Rps k n ds ps) : Rp (k + 1) (ds.length * (n + 2) + 3) (.lst ds) (.list ps) where
  py := by simp only [toPy, h.py]; rfl
  lay := by simp only [PyData.canLay0]; exact h.lay
  dep := by simp only [PyData.depth]; exact Nat.succ_le_succ h.dep
  shw := by simp only [PyData.showable]; exact h.shw
  len := by simp only [PyData.shown]; rw [← h.num]; exact lstText_le h.len
theorem Rp.int {i : Int} (h : Bd 1919 i) : Rp 0 1921 (.int i) (.int i) where
  py := rfl
  lay := rfl
  dep := Nat.le_refl _
  shw := by simp only [PyData.showable]; exact decide_eq_true (Nat.lt_of_lt_of_le (h.log (by decide)) (by decide))
  len := by
    simp only [PyData.shown]
    show (Str.ofString (toString i)).length ≤ 1921
    rw [PySem.ofString_length]
    exact PySem.int_text_length_le (k := 1920) (by decide) (Nat.lt_of_lt_of_le (h.log (by decide)) (by decide))
theorem Rp.bl (b : Bool) : Rp 0 1921 (.bl b) (.bool b) := ⟨rfl, rfl, Nat.le_refl _, rfl, by cases b <;> decide⟩
theorem Rp.non : Rp 0 1921 .non .none := ⟨rfl, rfl, Nat.le_refl _, rfl, by decide⟩
theorem Rp.rv {q : Rat} (h : Sz 1919 q) : ∃ p, Rp 1 3849 (rv q) p := ⟨_, Rp.tup (.cons (Rp.int h.num) (.cons (Rp.int h.den) .nil))⟩
theorem Rp.repr {k n : Nat} {d : DV} {p : PyData} (h : Rp k n d p) (hk : k ≤ 60) (hn : n ≤ sizeLine) : reprF [d] = some (.str p.shown) := by
  simp only [reprF, h.py]
  rw [if_pos ⟨h.shw, Nat.le_trans h.dep hk, Nat.le_trans h.len hn⟩]
theorem ne_str (x : Str) : neF (.str x) (.str x) = some (.bl false) := by simp [neF, eqB, eqS]
theorem Rp.shaped {k n : Nat} {d : DV} {p : PyData} (h : Rp k n d p) (hk : k ≤ 60) : SeqAt.shaped p = true := by
  unfold SeqAt.shaped
  rw [h.lay, Bool.true_and]
  exact decide_eq_true (Nat.le_trans h.dep (by omega))
theorem eqP_of {k n k' n' : Nat} {d e : DV} {p q : PyData} (h : Rp k n d p) (h' : Rp k' n' e q) (hk : k ≤ 60) (hk' : k' ≤ 60) : eqP d e = some (PyData.eqv p q) := by
  simp only [eqP, h.py, h'.py]
  rw [if_pos ⟨h.shaped hk, h'.shaped hk'⟩]
def isStr : DV → Bool
  | .str _ => true
  | _ => false
theorem eqS_no {d e : DV} (h : isStr d = false) : eqS d e = none := by
  cases d <;> cases e <;> first | rfl | cases h
theorem ne_of {k n k' n' : Nat} {d e : DV} {p q : PyData} (h : Rp k n d p) (h' : Rp k' n' e q) (hd : isStr d = false) (hk : k ≤ 60) (hk' : k' ≤ 60) : neF d e = some (.bl !(PyData.eqv p q)) := by
  simp only [neF, eqB, eqS_no hd, eqP_of h h' hk hk']; rfl
theorem eq_of {k n k' n' : Nat} {d e : DV} {p q : PyData} (h : Rp k n d p) (h' : Rp k' n' e q) (hd : isStr d = false) (hk : k ≤ 60) (hk' : k' ≤ 60) : eqF d e = some (.bl (PyData.eqv p q)) := by
  simp only [eqF, eqB, eqS_no hd, eqP_of h h' hk hk']; rfl
theorem eq_self {k n : Nat} {d : DV} {p : PyData} (h : Rp k n d p) (hd : isStr d = false) (hk : k ≤ 60) : eqF d d = some (.bl true) := by
  rw [eq_of h h hd hk hk, PySem.SeqAt.eqv_refl p h.lay]
theorem ne_self {k n : Nat} {d : DV} {p : PyData} (h : Rp k n d p) (hd : isStr d = false) (hk : k ≤ 60) : neF d d = some (.bl false) := by
  rw [ne_of h h hd hk hk, PySem.SeqAt.eqv_refl p h.lay]; rfl
theorem ne_zero (q : Rat) : neF (rv q) (.tup [.int 0, .int 1]) = some (.bl (decide (q ≠ 0))) := by
  have h : neF (rv q) (.tup [.int 0, .int 1]) = some (.bl (!(q.num == 0 && ((q.den : Int) == 1)))) := by
    simp [neF, eqB, eqS, eqP, rv, toPy, toPys, SeqAt.shaped, PyData.eqv, PyData.eqvAll, PyData.canLay0, PyData.canLayAll0, PyData.depth, PyData.depthAll]
  rw [h]
  congr 2
  by_cases z : q = 0
  · subst z; decide
  · have hn : (q.num == 0) = false := beq_eq_false_iff_ne.mpr (num_ne z)
    rw [hn]
    simp [z]
theorem ne_tup0 {ds : List DV} {k n : Nat} {ps : List PyData} (h : Rps k n ds ps) (hk : k ≤ 50) : neF (.tup ds) (.tup []) = some (.bl (!ds.isEmpty)) := by
  rw [ne_of (Rp.tup h) (Rp.tup (Rps.nil (k := 0) (n := 0))) rfl (by omega) (by omega)]
  have := h.num
  cases ds with
  | nil =>
    have : ps = [] := by
      have := h.py
      simp only [toPys] at this
      cases this; rfl
    subst this; rfl
  | cons d ds =>
    cases ps with
    | nil => simp [PyData.shownAll] at this
    | cons p ps => rfl
theorem ne_lst0 {ds : List DV} {k n : Nat} {ps : List PyData} (h : Rps k n ds ps) (hk : k ≤ 50) : neF (.lst ds) (.lst []) = some (.bl (!ds.isEmpty)) := by
  rw [ne_of (Rp.lst h) (Rp.lst (Rps.nil (k := 0) (n := 0))) rfl (by omega) (by omega)]
  have := h.num
  cases ds with
  | nil =>
    have : ps = [] := by
      have := h.py
      simp only [toPys] at this
      cases this; rfl
    subst this; rfl
  | cons d ds =>
    cases ps with
    | nil => simp [PyData.shownAll] at this
    | cons p ps => rfl
end Cv
end
section
set_option Elab.async false
set_option linter.all false
set_option maxRecDepth 100000
namespace La
abbrev F := Nat → Rat
def stp (e : Nat × F) (x : F) : F := fun c => x c - x e.1 / e.2 e.1 * e.2 c
def red : List (Nat × F) → F → F
  | [], x => x
  | e :: ls, x => red ls (stp e x)
theorem red_snoc : ∀ (ls : List (Nat × F)) (e : Nat × F) (x : F), red (ls ++ [e]) x = stp e (red ls x)
  | [], _, _ => rfl
  | _ :: ls, e, _ => red_snoc ls e _
theorem stp_add (e : Nat × F) (x y : F) : stp e (fun c => x c + y c) = fun c => stp e x c + stp e y c := by
  funext c
  simp only [stp, Rat.div_def]
  grind
theorem stp_smul (e : Nat × F) (a : Rat) (x : F) : stp e (fun c => a * x c) = fun c => a * stp e x c := by
  funext c
  simp only [stp, Rat.div_def]
  grind
theorem red_add : ∀ (ls : List (Nat × F)) (x y : F), red ls (fun c => x c + y c) = fun c => red ls x c + red ls y c
  | [], _, _ => rfl
  | e :: ls, x, y => by
    show red ls (stp e fun c => x c + y c) = _
    rw [stp_add, red_add ls]
    rfl
theorem red_smul : ∀ (ls : List (Nat × F)) (a : Rat) (x : F), red ls (fun c => a * x c) = fun c => a * red ls x c
  | [], _, _ => rfl
  | e :: ls, a, x => by
    show red ls (stp e fun c => a * x c) = _
    rw [stp_smul, red_smul ls]
    rfl
theorem red_zero (ls : List (Nat × F)) : red ls (fun _ => 0) = fun _ => 0 := by
  have := red_smul ls 0 (fun _ => 0)
  simp only [Rat.zero_mul] at this
  exact this
def lin (as : List Rat) (ks : List F) : F := fun c => (List.zipWith (fun a k => a * k c) as ks).sum
theorem lin_nil (ks : List F) : lin [] ks = fun _ => 0 := by funext c; simp [lin]
theorem lin_nil' (as : List Rat) : lin as [] = fun _ => 0 := by funext c; simp [lin]
theorem lin_cons (a : Rat) (as : List Rat) (k : F) (ks : List F) : lin (a :: as) (k :: ks) = fun c => a * k c + lin as ks c := by funext c; simp [lin]
theorem red_lin (ls : List (Nat × F)) : ∀ (as : List Rat) (ks : List F), red ls (lin as ks) = lin as (ks.map (red ls))
  | [], ks => by rw [lin_nil, lin_nil, red_zero]
  | a :: as, [] => by rw [lin_nil', List.map_nil, lin_nil', red_zero]
  | a :: as, k :: ks => by
    rw [lin_cons, List.map_cons, lin_cons, red_add, red_smul, red_lin ls as ks]
theorem lin_snoc : ∀ (as : List Rat) (ks : List F) (a : Rat) (k : F), as.length = ks.length → lin (as ++ [a]) (ks ++ [k]) = fun c => lin as ks c + a * k c
  | [], [], a, k, _ => by funext c; simp [lin, Rat.add_zero, Rat.zero_add]
  | a' :: as, k' :: ks, a, k, h => by
    rw [List.cons_append, List.cons_append, lin_cons, lin_cons, lin_snoc as ks a k (by simpa using h)]
    funext c
    grind
  | [], _ :: _, _, _, h => by cases h
  | _ :: _, [], _, _, h => by cases h
theorem lin_zero (as : List Rat) : ∀ (ks : List F), (∀ k ∈ ks, k = fun _ => 0) → lin as ks = fun _ => 0 := by
  induction as with
  | nil => intro ks _; exact lin_nil ks
  | cons a as ih =>
    intro ks h
    cases ks with
    | nil => exact lin_nil' _
    | cons k ks =>
      rw [lin_cons, ih ks fun x hx => h x (List.mem_cons_of_mem _ hx), h k List.mem_cons_self]
      funext c
      simp [Rat.add_zero]
theorem lin_add : ∀ (as bs : List Rat) (ks : List F), as.length = ks.length → bs.length = ks.length → lin (List.zipWith (fun a b => a + b) as bs) ks = fun c => lin as ks c + lin bs ks c
  | [], [], [], _, _ => by funext c; simp [lin, Rat.add_zero]
  | a :: as, b :: bs, k :: ks, h1, h2 => by
    rw [List.zipWith_cons_cons, lin_cons, lin_cons, lin_cons, lin_add as bs ks (by simpa using h1) (by simpa using h2)]
    funext c
    grind
  | [], _ :: _, [], _, h => by cases h
  | _ :: _, _, [], h, _ => by cases h
  | [], _, _ :: _, h, _ => by cases h
  | _ :: _, [], _ :: _, _, h => by cases h
theorem lin_smul (s : Rat) : ∀ (as : List Rat) (ks : List F), lin (as.map fun a => s * a) ks = fun c => s * lin as ks c
  | [], ks => by rw [List.map_nil, lin_nil]; funext c; simp
  | a :: as, [] => by rw [lin_nil', lin_nil']; funext c; simp
  | a :: as, k :: ks => by
    rw [List.map_cons, lin_cons, lin_cons, lin_smul s as ks]
    funext c
    grind
structure Ech (ls : List (Nat × F)) (ks : List F) : Prop where
  len : ls.length = ks.length
  piv : ∀ (j : Nat) e, ls[j]? = some e → e.2 e.1 ≠ 0
  eq : ∀ (j : Nat) e k, ls[j]? = some e → ks[j]? = some k → e.2 = red (ls.take j) k
theorem Ech.nil : Ech [] [] := ⟨rfl, fun _ _ h => by simp at h, fun _ _ _ h => by simp at h⟩
theorem Ech.snoc {ls : List (Nat × F)} {ks : List F} (E : Ech ls ks) {p : Nat} {k : F} (h : red ls k p ≠ 0) : Ech (ls ++ [(p, red ls k)]) (ks ++ [k]) where
  len := by simp [E.len]
  piv := fun j e he => by
    by_cases hj : j < ls.length
    · rw [List.getElem?_append_left hj] at he
      exact E.piv j e he
    · rw [List.getElem?_append_right (by omega)] at he
      have : j - ls.length = 0 := by
        have := (List.getElem?_eq_some_iff.mp he).1
        simp at this
        omega
      rw [this] at he
      cases he
      exact h
  eq := fun j e k' he hk => by
    by_cases hj : j < ls.length
    · rw [List.getElem?_append_left hj] at he
      rw [List.getElem?_append_left (by rw [← E.len]; exact hj)] at hk
      rw [List.take_append_of_le_length (by omega)]
      exact E.eq j e k' he hk
    · have hlen : j = ls.length := by
        have := (List.getElem?_eq_some_iff.mp he).1
        simp at this
        omega
      subst hlen
      rw [List.getElem?_append_right (Nat.le_refl _), Nat.sub_self] at he
      rw [E.len, List.getElem?_append_right (Nat.le_refl _), Nat.sub_self] at hk
      cases he
      cases hk
      rw [List.take_append_of_le_length (Nat.le_refl _), List.take_length]
theorem Ech.prefix {ls : List (Nat × F)} {ks : List F} (E : Ech ls ks) (n : Nat) : Ech (ls.take n) (ks.take n) where
  len := by simp [E.len]
  piv := fun j e h => by
    rw [List.getElem?_take] at h
    split at h
    · exact E.piv j e h
    · cases h
  eq := fun j e k h hk => by
    rw [List.getElem?_take] at h hk
    split at h
    · rename_i hj
      rw [if_pos hj] at hk
      rw [List.take_take, Nat.min_eq_left (by omega)]
      exact E.eq j e k h hk
    · cases h
theorem stp_piv {e : Nat × F} (h : e.2 e.1 ≠ 0) (x : F) : stp e x e.1 = 0 := by
  simp only [stp]
  rw [Rat.div_mul_cancel h]
  exact Rat.sub_self
theorem Ech.noughts {ls : List (Nat × F)} {ks : List F} (E : Ech ls ks) : ∀ (n : Nat), n ≤ ls.length → ∀ (x : F) (k : Nat) (e : Nat × F), k < n → ls[k]? = some e → red (ls.take n) x e.1 = 0
  | 0, _, _, k, _, h, _ => by omega
  | n + 1, hn, x, k, e, hk, he => by
    have hlt : n < ls.length := hn
    have h1 : ls.take (n + 1) = ls.take n ++ [ls[n]] := by rw [List.take_add_one, List.getElem?_eq_getElem hlt]; rfl
    rw [h1, red_snoc]
    by_cases hkn : k = n
    · subst hkn
      rw [List.getElem?_eq_getElem hlt] at he
      cases he
      exact stp_piv (E.piv _ _ (List.getElem?_eq_getElem hlt)) _
    · have ih := Ech.noughts E n (by omega) x k e (by omega) he
      have hlk : n < ks.length := by rw [← E.len]; exact hlt
      have ih2 := Ech.noughts E n (by omega) (ks[n]) k e (by omega) he
      rw [← E.eq n _ _ (List.getElem?_eq_getElem hlt) (List.getElem?_eq_getElem hlk)] at ih2
      simp only [stp]
      rw [ih, ih2, Rat.mul_zero]
      exact Rat.sub_self
theorem Ech.kill {ls : List (Nat × F)} {ks : List F} (E : Ech ls ks) : ∀ (n : Nat), n ≤ ls.length → ∀ (j : Nat) (k : F), j < n → ks[j]? = some k → red (ls.take n) k = fun _ => 0
  | 0, _, j, _, h, _ => by omega
  | n + 1, hn, j, k, hj, hk => by
    have hlt : n < ls.length := hn
    have h1 : ls.take (n + 1) = ls.take n ++ [ls[n]] := by rw [List.take_add_one, List.getElem?_eq_getElem hlt]; rfl
    rw [h1, red_snoc]
    by_cases hjn : j = n
    · subst hjn
      have he := List.getElem?_eq_getElem hlt
      rw [← E.eq _ _ _ he hk]
      funext c
      simp only [stp]
      rw [Rat.div_def, Rat.mul_inv_cancel _ (E.piv _ _ he), Rat.one_mul]
      exact Rat.sub_self
    · rw [Ech.kill E n (by omega) j k (by omega) hk]
      funext c
      simp only [stp]
      rw [Rat.div_def, Rat.zero_mul, Rat.zero_mul]
      exact Rat.sub_self
theorem Ech.indep : ∀ {as : List Rat} {ls : List (Nat × F)} {ks : List F}, Ech ls ks → as.length = ks.length → lin as ks = (fun _ => 0) → ∀ a ∈ as, a = 0 := by
  intro as
  generalize hn : as.length = n
  induction n generalizing as with
  | zero => intro ls ks E h0 h a ha; rw [List.length_eq_zero_iff.mp hn] at ha; cases ha
  | succ n ih =>
    intro ls ks E h0 h
    have hl : n < ls.length := by rw [E.len]; omega
    have hk : n < ks.length := by omega
    have ha : n < as.length := by omega
    have e1 : as = as.take n ++ [as[n]] := by
      have : as.take (n + 1) = as.take n ++ [as[n]] := by rw [List.take_add_one, List.getElem?_eq_getElem ha]; rfl
      rw [← this, ← hn, List.take_length]
    have e2 : ks = ks.take n ++ [ks[n]] := by
      have : ks.take (n + 1) = ks.take n ++ [ks[n]] := by rw [List.take_add_one, List.getElem?_eq_getElem hk]; rfl
      rw [← this, h0, List.take_length]
    have hlin : lin as ks = fun c => lin (as.take n) (ks.take n) c + as[n] * ks[n] c := by
      conv => lhs; rw [e1, e2]
      exact lin_snoc _ _ _ _ (by simp; omega)
    have h2 : (fun c => red (ls.take n) (lin (as.take n) (ks.take n)) c + as[n] * red (ls.take n) ks[n] c) = fun _ => 0 := by
      rw [← red_zero (ls.take n), ← h, hlin, red_add, red_smul]
    have h3 : red (ls.take n) (lin (as.take n) (ks.take n)) = fun _ => 0 := by
      rw [red_lin]
      refine lin_zero _ _ fun x hx => ?_
      obtain ⟨k, hk', rfl⟩ := List.mem_map.mp hx
      obtain ⟨j, hj⟩ := List.mem_iff_getElem?.mp hk'
      rw [List.getElem?_take] at hj
      split at hj
      · rename_i hjn; exact E.kill n (by omega) j k hjn hj
      · cases hj
    have he := List.getElem?_eq_getElem hl
    have h4 := congrFun h2 (ls[n]).1
    rw [h3, ← E.eq n _ _ he (List.getElem?_eq_getElem hk)] at h4
    simp only [Rat.zero_add] at h4
    have h5 : as[n] = 0 := by
      rcases Rat.mul_eq_zero.mp h4 with z | z
      · exact z
      · exact absurd z (E.piv n _ he)
    have h6 : lin (as.take n) (ks.take n) = fun _ => 0 := by
      rw [← h, hlin, h5]
      funext c
      rw [Rat.zero_mul, Rat.add_zero]
    intro a hmem
    rw [e1] at hmem
    rcases List.mem_append.mp hmem with z | z
    · exact ih (by simp; omega) (E.prefix n) (by simp; omega) h6 a z
    · rw [List.mem_singleton.mp z]; exact h5
theorem Ech.span {ls : List (Nat × F)} {ks : List F} (E : Ech ls ks) (x : F) : ∀ n, n ≤ ls.length → ∃ as : List Rat, as.length = n ∧ x = fun c => red (ls.take n) x c + lin as (ks.take n) c
  | 0, _ => ⟨[], rfl, by funext c; rw [List.take_zero, lin_nil, Rat.add_zero]; rfl⟩
  | n + 1, hn => by
    obtain ⟨as, h1, h2⟩ := Ech.span E x n (by omega)
    have hl : n < ls.length := hn
    have hk : n < ks.length := by rw [← E.len]; exact hl
    obtain ⟨bs, h3, h4⟩ := Ech.span E ks[n] n (by omega)
    have e1 : ls.take (n + 1) = ls.take n ++ [ls[n]] := by rw [List.take_add_one, List.getElem?_eq_getElem hl]; rfl
    have e2 : ks.take (n + 1) = ks.take n ++ [ks[n]] := by rw [List.take_add_one, List.getElem?_eq_getElem hk]; rfl
    have he := E.eq n _ _ (List.getElem?_eq_getElem hl) (List.getElem?_eq_getElem hk)
    generalize hf : red (ls.take n) x (ls[n]).1 / (ls[n]).2 (ls[n]).1 = f at *
    refine ⟨(List.zipWith (fun a b => a + b) as (bs.map fun b => (-f) * b)) ++ [f], by simp [h1, h3], ?_⟩
    rw [e2, lin_snoc _ _ _ _ (by simp [h1, h3]; omega), lin_add as _ _ (by simp [h1]; omega) (by simp [h3]; omega), lin_smul, e1, red_snoc]
    funext c
    have q1 := congrFun h2 c
    have q2 := congrFun h4 c
    rw [← he] at q2
    simp only [stp, hf]
    grind
end La
end
section
set_option Elab.async false
set_option linter.all false
set_option maxRecDepth 100000
namespace La
open Cv (Bd Bd.mul Bd.sub Bd.mono)
def sm : Nat → (Nat → Rat) → Rat
  | 0, _ => 0
  | n + 1, g => sm n g + g n
theorem sm_congr {g h : Nat → Rat} : ∀ n, (∀ k, k < n → g k = h k) → sm n g = sm n h
  | 0, _ => rfl
  | n + 1, e => by rw [sm, sm, sm_congr n fun k hk => e k (by omega), e n (by omega)]
theorem sm_lin (a b : Rat) (g h : Nat → Rat) : ∀ n, sm n (fun k => a * g k + b * h k) = a * sm n g + b * sm n h
  | 0 => by simp [sm, Rat.add_zero]
  | n + 1 => by
    rw [sm, sm, sm, sm_lin a b g h n]
    grind
def gcdL : List Int → Nat
  | [] => 0
  | x :: xs => Nat.gcd x.natAbs (gcdL xs)
def sml (g : Nat) (xs : List Int) : List Int := if 1 < g then xs.map fun x => x / (g : Int) else xs
def nth (f : List Int) (c : Nat) : Rat := ((f.getD c 0 : Int) : Rat)
def raw (p : Nat) (v f : List Int) (one other : Int) : List Int := List.zipWith (fun a b => a * one - b * other) f (v ++ List.replicate (f.length - v.length) 0)
def partOf (p : Nat) (v f : List Int) : Int := (Nat.gcd (f.getD p 0).natAbs (v.getD p 0).natAbs : Nat)
def gcdF (xs : List Int) : Nat := xs.foldl (fun g x => Nat.gcd g x.natAbs) 0
def istep (e : Nat × List Int) (f : List Int) : List Int :=
  if f.getD e.1 0 = 0 then f else
    let w := raw e.1 e.2 f (e.2.getD e.1 0 / partOf e.1 e.2 f) (f.getD e.1 0 / partOf e.1 e.2 f)
    sml (gcdF w) w
def led : List (Nat × List Int) → List Int → List Int
  | [], f => f
  | e :: es, f => led es (istep e f)
theorem led_snoc : ∀ (es : List (Nat × List Int)) (e : Nat × List Int) (f : List Int), led (es ++ [e]) f = istep e (led es f)
  | [], _, _ => rfl
  | _ :: es, e, f => led_snoc es e _
theorem gcdF_dvd_init : ∀ (xs : List Int) (g : Nat), xs.foldl (fun g x => Nat.gcd g x.natAbs) g ∣ g
  | [], g => Nat.dvd_refl g
  | x :: xs, g => Nat.dvd_trans (gcdF_dvd_init xs _) (Nat.gcd_dvd_left _ _)
theorem gcdF_dvd : ∀ (xs : List Int) (g : Nat) (x : Int), x ∈ xs → ((xs.foldl (fun g x => Nat.gcd g x.natAbs) g : Nat) : Int) ∣ x
  | y :: xs, g, x, h => by
    rcases List.mem_cons.mp h with z | z
    · rw [z]
      exact Int.ofNat_dvd_left.mpr (Nat.dvd_trans (gcdF_dvd_init xs _) (Nat.gcd_dvd_right _ _))
    · exact gcdF_dvd xs _ x z
  | [], _, _, h => by cases h
theorem sml_mul (xs : List Int) : ∃ g : Nat, 0 < g ∧ (sml (gcdF xs) xs).length = xs.length ∧ ∀ c, (g : Rat) * nth (sml (gcdF xs) xs) c = nth xs c := by
  unfold sml
  by_cases h : 1 < gcdF xs
  · rw [if_pos h]
    refine ⟨gcdF xs, by omega, by simp, fun c => ?_⟩
    unfold nth
    rw [List.getD_eq_getElem?_getD, List.getD_eq_getElem?_getD, List.getElem?_map]
    cases hx : xs[c]? with
    | none => simp
    | some x =>
      obtain ⟨k, hk⟩ := gcdF_dvd xs 0 x (List.mem_of_getElem? hx)
      have hk : x = (gcdF xs : Int) * k := hk
      simp only [Option.map_some, Option.getD_some]
      rw [hk, Int.mul_ediv_cancel_left _ (by omega), Rat.intCast_mul]
      rfl
  · rw [if_neg h]
    exact ⟨1, by decide, rfl, fun c => by rw [show ((1 : Nat) : Rat) = 1 from rfl, Rat.one_mul]⟩
theorem sml_mem {xs : List Int} {n : Nat} (h : ∀ x ∈ xs, Bd n x) : ∀ x ∈ sml (gcdF xs) xs, Bd n x := by
  unfold sml
  split
  · intro x hx
    obtain ⟨y, hy, rfl⟩ := List.mem_map.mp hx
    have := h y hy
    unfold Bd at *
    have := Int.natAbs_ediv_le_natAbs y (gcdF xs : Int)
    omega
  · exact h
theorem raw_nth {p : Nat} {v f : List Int} {one other : Int} (hv : v.length ≤ f.length) (c : Nat) : nth (raw p v f one other) c = one * nth f c - other * nth v c := by
  unfold nth raw
  rw [List.getD_eq_getElem?_getD, List.getD_eq_getElem?_getD, List.getD_eq_getElem?_getD, List.getElem?_zipWith]
  by_cases hc : c < f.length
  · rw [List.getElem?_eq_getElem hc]
    by_cases hcv : c < v.length
    · rw [List.getElem?_append_left hcv, List.getElem?_eq_getElem hcv]
      simp only [Option.getD_some, Rat.intCast_sub, Rat.intCast_mul]
      grind
    · rw [List.getElem?_append_right (by omega), List.getElem?_replicate, if_pos (by omega), List.getElem?_eq_none (by omega)]
      simp only [Option.getD_some, Option.getD_none, Rat.intCast_sub, Rat.intCast_mul]
      simp
      grind
  · rw [List.getElem?_eq_none (show f.length ≤ c by omega), List.getElem?_eq_none (show v.length ≤ c by omega)]
    simp only [Option.getD_none]
    rw [show ((0 : Int) : Rat) = 0 from rfl, Rat.mul_zero, Rat.mul_zero, Rat.sub_self]
theorem raw_len {p : Nat} {v f : List Int} {one other : Int} (hv : v.length ≤ f.length) : (raw p v f one other).length = f.length := by
  unfold raw
  simp
  omega
theorem raw_bd {p : Nat} {v f : List Int} {one other : Int} {m n : Nat} (hf : ∀ x ∈ f, Bd m x) (hv : ∀ x ∈ v, Bd n x) (h1 : Bd n one) (h2 : Bd m other) : ∀ x ∈ raw p v f one other, Bd (m + n + 1) x := by
  intro x hx
  unfold raw at hx
  obtain ⟨k, hk⟩ := List.mem_iff_getElem?.mp hx
  rw [List.getElem?_zipWith] at hk
  cases h3 : f[k]? with
  | none => rw [h3] at hk; cases hk
  | some a =>
    cases h4 : (v ++ List.replicate (f.length - v.length) 0)[k]? with
    | none => rw [h3, h4] at hk; cases hk
    | some b =>
      rw [h3, h4] at hk
      cases hk
      have ha := hf a (List.mem_of_getElem? h3)
      have hb : Bd n b := by
        rcases List.mem_append.mp (List.mem_of_getElem? h4) with z | z
        · exact hv b z
        · rw [(List.mem_replicate.mp z).2]
          unfold Bd
          simp
          exact Nat.two_pow_pos n
      refine Bd.sub (ha.mul h1) ?_
      have := hb.mul h2
      rwa [Nat.add_comm n m] at this
theorem rat_ne {i : Int} (h : i ≠ 0) : (i : Rat) ≠ 0 := by
  intro z
  apply h
  have := congrArg Rat.num z
  simpa using this
theorem istep_nth {e : Nat × List Int} {f : List Int} (hf : f.getD e.1 0 ≠ 0) (hv : e.2.getD e.1 0 ≠ 0) (hl : e.2.length ≤ f.length) :
    (istep e f).length = f.length ∧ ∃ k : Rat, k ≠ 0 ∧ ∀ c, nth (istep e f) c = k * (nth f c - nth f e.1 / nth e.2 e.1 * nth e.2 c) := by
  unfold istep
  rw [if_neg hf]
  simp only
  have hg : partOf e.1 e.2 f ≠ 0 := by
    unfold partOf
    intro z
    have := Nat.gcd_eq_zero_iff.mp (Int.ofNat.inj z)
    omega
  have d1 : partOf e.1 e.2 f ∣ f.getD e.1 0 := Int.ofNat_dvd_left.mpr (Nat.gcd_dvd_left _ _)
  have d2 : partOf e.1 e.2 f ∣ e.2.getD e.1 0 := Int.ofNat_dvd_left.mpr (Nat.gcd_dvd_right _ _)
  obtain ⟨x, hx⟩ := d1
  obtain ⟨y, hy⟩ := d2
  generalize hG : partOf e.1 e.2 f = G at *
  have hx' : f.getD e.1 0 / G = x := by rw [hx, Int.mul_ediv_cancel_left _ hg]
  have hy' : e.2.getD e.1 0 / G = y := by rw [hy, Int.mul_ediv_cancel_left _ hg]
  rw [hx', hy']
  obtain ⟨g, g0, g1, g2⟩ := sml_mul (raw e.1 e.2 f y x)
  refine ⟨g1.trans (raw_len hl), (y : Rat) / g, ?_, fun c => ?_⟩
  · have hy0 : y ≠ 0 := by rintro rfl; simp at hy; exact hv hy
    have h1 := rat_ne hy0
    have h2 : (g : Rat) ≠ 0 := rat_ne (i := (g : Int)) (by omega)
    intro z
    rw [Rat.div_def] at z
    rcases Rat.mul_eq_zero.mp z with q | q
    · exact h1 q
    · have := Rat.mul_inv_cancel _ h2
      rw [q, Rat.mul_zero] at this
      exact absurd this (by decide)
  · have h2 : (g : Rat) ≠ 0 := rat_ne (i := (g : Int)) (by omega)
    have q := g2 c
    rw [raw_nth hl] at q
    have e1 : nth f e.1 = (G : Rat) * x := by unfold nth; rw [hx, Rat.intCast_mul]
    have e2 : nth e.2 e.1 = (G : Rat) * y := by unfold nth; rw [hy, Rat.intCast_mul]
    have hG0 := rat_ne hg
    have hy0 : (y : Rat) ≠ 0 := rat_ne (by rintro rfl; simp at hy; exact hv hy)
    rw [e1, e2]
    have e3 : (G : Rat) * x / ((G : Rat) * y) = x / y := by
      rw [Rat.div_def, Rat.div_def, Rat.inv_mul_rev]
      have := Rat.mul_inv_cancel _ hG0
      grind
    rw [e3]
    have e4 : (y : Rat) / g * (nth f c - (x : Rat) / y * nth e.2 c) = (1 / g) * ((y : Rat) * nth f c - (x : Rat) * nth e.2 c) := by
      rw [Rat.div_def, Rat.div_def, Rat.div_def]
      have := Rat.mul_inv_cancel _ hy0
      grind
    rw [e4, ← q, Rat.div_def]
    have := Rat.mul_inv_cancel _ h2
    grind

theorem istep_same {e : Nat × List Int} {f : List Int} (hf : f.getD e.1 0 = 0) : istep e f = f := by unfold istep; rw [if_pos hf]
theorem div_bd {n : Nat} {i j : Int} (h : Bd n i) : Bd n (i / j) := by
  unfold Bd at *
  have := Int.natAbs_ediv_le_natAbs i j
  omega
theorem getD_bd {n : Nat} {f : List Int} (h : ∀ x ∈ f, Bd n x) (c : Nat) : Bd n (f.getD c 0) := by
  rw [List.getD_eq_getElem?_getD]
  cases hc : f[c]? with
  | none => unfold Bd; simp; exact Nat.two_pow_pos n
  | some x => exact h x (List.mem_of_getElem? hc)
theorem istep_bd {m n : Nat} {e : Nat × List Int} {f : List Int} (hf : ∀ x ∈ f, Bd m x) (hv : ∀ x ∈ e.2, Bd n x) : ∀ x ∈ istep e f, Bd (m + n + 1) x := by
  unfold istep
  split
  · exact fun x hx => (hf x hx).mono (by omega)
  · exact sml_mem (raw_bd hf hv (div_bd (getD_bd hv _)) (div_bd (getD_bd hf _)))
structure EOk (long : Nat) (W : Nat → F) (ls : List (Nat × F)) (es : List (Nat × List Int)) : Prop where
  len : es.length = ls.length
  at_ : ∀ (j : Nat) e l, es[j]? = some e → ls[j]? = some l → e.1 = l.1 ∧ e.1 < long ∧ e.2.length = long + j + 1 ∧ (∃ t : Rat, t ≠ 0 ∧ ∀ c, c < long → nth e.2 c = t * l.2 c) ∧ ∀ c, c < long → nth e.2 c = sm (j + 1) fun k => nth e.2 (long + k) * W k c
theorem nth_out {f : List Int} {c : Nat} (h : f.length ≤ c) : nth f c = 0 := by
  unfold nth
  rw [List.getD_eq_getElem?_getD, List.getElem?_eq_none h]
  rfl
theorem sm_more {g : Nat → Rat} {m : Nat} : ∀ n, m ≤ n → (∀ k, m ≤ k → g k = 0) → sm n g = sm m g
  | 0, h, _ => by rw [Nat.le_zero.mp h]
  | n + 1, h, hz => by
    by_cases e : m = n + 1
    · rw [e]
    · rw [sm, sm_more n (by omega) hz, hz n (by omega), Rat.add_zero]
structure Inv (long n : Nat) (W : Nat → F) (w : F) (ls : List (Nat × F)) (f : List Int) : Prop where
  len : f.length = long + n + 1
  s0 : nth f (long + n) ≠ 0
  red : ∀ c, c < long → nth f c = nth f (long + n) * red ls w c
  rel : ∀ c, c < long → nth f c = sm n (fun k => nth f (long + k) * W k c) + nth f (long + n) * w c
theorem Inv.step {long n i : Nat} {W : Nat → F} {w : F} {ls : List (Nat × F)} {es : List (Nat × List Int)} {f : List Int} {e : Nat × List Int} {l : Nat × F} (E : EOk long W ls es) (hn : es.length = n) (he : es[i]? = some e) (hl : ls[i]? = some l) (hp : l.2 l.1 ≠ 0)
    (I : Inv long n W w (ls.take i) f) : Inv long n W w (ls.take (i + 1)) (istep e f) := by
  obtain ⟨h1, h2, h3, ⟨t, t0, ht⟩, h5⟩ := E.at_ i e l he hl
  have hi : i < n := by rw [← hn]; exact (List.getElem?_eq_some_iff.mp he).1
  have et : ls.take (i + 1) = ls.take i ++ [l] := by rw [List.take_add_one, hl]; rfl
  have hx := I.red e.1 h2
  by_cases hf : f.getD e.1 0 = 0
  · rw [istep_same hf]
    have hfp : nth f e.1 = 0 := by unfold nth; rw [hf]; rfl
    have hxp : La.red (ls.take i) w l.1 = 0 := by
      rw [hfp, h1] at hx
      rcases Rat.mul_eq_zero.mp hx.symm with z | z
      · exact absurd z I.s0
      · exact z
    refine ⟨I.len, I.s0, fun c hc => ?_, I.rel⟩
    rw [I.red c hc, et, red_snoc]
    simp only [stp, hxp]
    rw [Rat.div_def, Rat.zero_mul, Rat.zero_mul]
    grind
  · have hv : nth e.2 e.1 ≠ 0 := by
      rw [ht e.1 h2, h1]
      intro z
      rcases Rat.mul_eq_zero.mp z with q | q
      · exact t0 q
      · exact hp q
    have hv' : e.2.getD e.1 0 ≠ 0 := fun z => hv (by unfold nth; rw [z]; rfl)
    obtain ⟨g1, k, k0, g2⟩ := istep_nth hf hv' (by rw [I.len, h3]; omega)
    have hlast : nth e.2 (long + n) = 0 := nth_out (by rw [h3]; omega)
    have hs : nth (istep e f) (long + n) = k * nth f (long + n) := by rw [g2, hlast]; grind
    have ks : k * nth f (long + n) ≠ 0 := fun z => (Rat.mul_eq_zero.mp z).elim k0 I.s0
    refine ⟨g1.trans I.len, by rw [hs]; exact ks, fun c hc => ?_, fun c hc => ?_⟩
    · rw [g2, hs, I.red c hc, hx, ht c hc, ht e.1 h2, h1, et, red_snoc]
      simp only [stp]
      generalize La.red (ls.take i) w l.1 = xp
      generalize La.red (ls.take i) w c = xc
      generalize nth f (long + n) = s
      rw [Rat.div_def, Rat.div_def, Rat.inv_mul_rev]
      have := Rat.mul_inv_cancel _ t0
      grind
    · rw [g2, hs, I.rel c hc]
      have e5 : nth e.2 c = sm n fun k => nth e.2 (long + k) * W k c := by
        rw [h5 c hc]
        refine (sm_more n (by omega) fun k hk => ?_).symm
        rw [nth_out (by rw [h3]; omega), Rat.zero_mul]
      have e6 : sm n (fun k' => nth (istep e f) (long + k') * W k' c) = k * sm n (fun k' => nth f (long + k') * W k' c) + (-(k * (nth f e.1 / nth e.2 e.1))) * sm n fun k' => nth e.2 (long + k') * W k' c := by
        rw [← sm_lin]
        refine sm_congr n fun k' _ => ?_
        rw [g2]
        grind
      rw [e6, ← e5]
      grind
theorem Inv.run {long n : Nat} {W : Nat → F} {w : F} {ls : List (Nat × F)} {ks : List F} {es : List (Nat × List Int)} {f : List Int} (E : EOk long W ls es) (hn : es.length = n) (Ec : Ech ls ks) (I : Inv long n W w [] f) : ∀ i, i ≤ n → Inv long n W w (ls.take i) (led (es.take i) f)
  | 0, _ => I
  | i + 1, h => by
    have hi : i < es.length := by omega
    have hil : i < ls.length := by rw [← E.len]; exact hi
    have he := List.getElem?_eq_getElem hi
    have hl := List.getElem?_eq_getElem hil
    have e1 : es.take (i + 1) = es.take i ++ [es[i]] := by rw [List.take_add_one, he]; rfl
    rw [e1, led_snoc]
    exact Inv.step E hn he hl (Ec.piv i _ hl) (Inv.run E hn Ec I i (by omega))
theorem led_bd {b : Nat → Nat} {es : List (Nat × List Int)} {f : List Int} {m : Nat} (hf : ∀ x ∈ f, Bd m x) (he : ∀ (j : Nat) e, es[j]? = some e → ∀ x ∈ e.2, Bd (b j) x) : ∀ i, i ≤ es.length → ∀ x ∈ led (es.take i) f, Bd (m + ((List.range i).map fun j => b j + 1).sum) x
  | 0, _ => by simpa [led] using hf
  | i + 1, h => by
    have hi : i < es.length := by omega
    have he' := List.getElem?_eq_getElem hi
    have e1 : es.take (i + 1) = es.take i ++ [es[i]] := by rw [List.take_add_one, he']; rfl
    rw [e1, led_snoc]
    intro x hx
    have := istep_bd (led_bd hf he i (by omega)) (he i _ he') x hx
    rw [List.range_succ, List.map_append, List.sum_append]
    refine this.mono ?_
    simp
    omega
end La
end
section
set_option Elab.async false
set_option linter.all false
set_option maxRecDepth 100000
namespace La
theorem lin_len0 {as : List Rat} {ks : List F} {c : Nat} (h : ∀ k ∈ ks, k c = 0) : lin as ks c = 0 := by
  induction as generalizing ks with
  | nil => rw [lin_nil]
  | cons a as ih =>
    cases ks with
    | nil => rw [lin_nil']
    | cons k ks =>
      rw [lin_cons]
      simp only
      rw [ih fun x hx => h x (List.mem_cons_of_mem _ hx), h k List.mem_cons_self, Rat.mul_zero, Rat.add_zero]
theorem red_len0 : ∀ {ls : List (Nat × F)} {x : F} {c : Nat}, (∀ l ∈ ls, l.2 c = 0) → x c = 0 → red ls x c = 0
  | [], _, _, _, h => h
  | e :: ls, x, c, hl, h => by
    show red ls (stp e x) c = 0
    refine red_len0 (fun l hm => hl l (List.mem_cons_of_mem _ hm)) ?_
    simp only [stp]
    rw [hl e List.mem_cons_self, h, Rat.mul_zero]
    exact Rat.sub_self
theorem Ech.uniq {as bs : List Rat} {ls : List (Nat × F)} {ks : List F} (E : Ech ls ks) (h1 : as.length = ks.length) (h2 : bs.length = ks.length) (h : lin as ks = lin bs ks) : as = bs := by
  have h3 := lin_add as (bs.map fun b => (-1) * b) ks h1 (by simpa using h2)
  rw [lin_smul] at h3
  have h4 : lin (List.zipWith (fun a b => a + b) as (bs.map fun b => (-1) * b)) ks = fun _ => 0 := by
    rw [h3, h]
    funext c
    grind
  have h5 := E.indep (by simp [h1, h2]) h4
  refine List.ext_getElem (by omega) fun i hi hj => ?_
  have := h5 (as[i] + (-1) * bs[i]) (by
    refine List.mem_iff_getElem.mpr ⟨i, by simp; omega, ?_⟩
    simp)
  grind
theorem sm_list (g : Nat → Rat) : ∀ n, sm n g = ((List.range n).map g).sum
  | 0 => rfl
  | n + 1 => by
    rw [sm, sm_list g n, List.range_succ, List.map_append, List.sum_append]
    simp [Rat.add_zero]
theorem Ech.span0 {ls : List (Nat × F)} {ks : List F} (E : Ech ls ks) {x : F} (h : red ls x = fun _ => 0) : ∃ as : List Rat, as.length = ks.length ∧ x = lin as ks := by
  obtain ⟨as, h1, h2⟩ := E.span x ls.length (Nat.le_refl _)
  rw [List.take_length, h, E.len, List.take_length] at h2
  refine ⟨as, h1.trans E.len, ?_⟩
  rw [h2]
  funext c
  rw [Rat.zero_add]
theorem Ech.red_lin {ls : List (Nat × F)} {ks : List F} (E : Ech ls ks) (as : List Rat) : red ls (lin as ks) = fun _ => 0 := by
  rw [La.red_lin]
  refine lin_zero _ _ fun k hk => ?_
  obtain ⟨x, hx, rfl⟩ := List.mem_map.mp hk
  obtain ⟨j, hj⟩ := List.mem_iff_getElem?.mp hx
  have := E.kill ls.length (Nat.le_refl _) j x (by rw [E.len]; exact (List.getElem?_eq_some_iff.mp hj).1) hj
  rwa [List.take_length] at this
theorem Ech.few {ls : List (Nat × F)} {ks : List F} {long : Nat} (E : Ech ls ks) (hp : ∀ l ∈ ls, l.1 < long) : (ls.map (·.1)).Nodup := by
  refine List.pairwise_iff_getElem.mpr fun i j hi hj hij => ?_
  simp only [List.getElem_map]
  rw [List.length_map] at hi hj
  intro e
  have h1 := E.noughts j (by omega) (ks[j]'(by rw [← E.len]; exact hj)) i _ hij (List.getElem?_eq_getElem hi)
  rw [← E.eq j _ _ (List.getElem?_eq_getElem hj) (List.getElem?_eq_getElem (by rw [← E.len]; exact hj)), e] at h1
  exact E.piv j _ (List.getElem?_eq_getElem hj) h1
end La
end
section
set_option Elab.async false
set_option linter.all false
set_option maxRecDepth 100000
namespace La
theorem sm_add (g h : Nat → Rat) : ∀ n, sm n (fun k => g k + h k) = sm n g + sm n h
  | 0 => by simp [sm, Rat.add_zero]
  | n + 1 => by
    rw [sm, sm, sm, sm_add g h n]
    grind
theorem sm_smul (c : Rat) (g : Nat → Rat) : ∀ n, sm n (fun k => c * g k) = c * sm n g
  | 0 => by simp [sm]
  | n + 1 => by
    rw [sm, sm, sm_smul c g n]
    grind
theorem sm_zeros : ∀ n, sm n (fun _ => 0) = 0
  | 0 => rfl
  | n + 1 => by rw [sm, sm_zeros n, Rat.add_zero]
theorem sm_swap (g : Nat → Nat → Rat) (m : Nat) : ∀ n, sm n (fun i => sm m (g i)) = sm m (fun j => sm n fun i => g i j)
  | 0 => by simp only [sm]; exact (sm_zeros m).symm
  | n + 1 => by
    rw [sm, sm_swap g m n, ← sm_add]
    rfl
def Indep (ks : List F) : Prop := ∀ as : List Rat, as.length = ks.length → lin as ks = (fun _ => 0) → ∀ a ∈ as, a = 0
theorem lin_app : ∀ (as bs : List Rat) (ks js : List F), as.length = ks.length → lin (as ++ bs) (ks ++ js) = fun c => lin as ks c + lin bs js c
  | [], bs, [], js, _ => by funext c; simp [lin, Rat.zero_add]
  | a :: as, bs, k :: ks, js, h => by
    rw [List.cons_append, List.cons_append, lin_cons, lin_cons, lin_app as bs ks js (by simpa using h)]
    funext c
    grind
  | [], _, _ :: _, _, h => by cases h
  | _ :: _, _, [], _, h => by cases h
theorem Indep.new {ks : List F} (I : Indep ks) {ls : List (Nat × F)} {j : Nat} {k : F} (hj : ks[j]? = some k) (E : Ech ls (ks.take j)) : red ls k ≠ fun _ => 0 := by
  intro hz
  obtain ⟨as, h1, h2⟩ := E.span0 hz
  have hlt : j < ks.length := (List.getElem?_eq_some_iff.mp hj).1
  have e1 : ks = ks.take j ++ (k :: ks.drop (j + 1)) := by
    have : ks[j] = k := by
      rw [List.getElem?_eq_getElem hlt] at hj
      exact Option.some.inj hj
    rw [← this, ← List.drop_eq_getElem_cons hlt, List.take_append_drop]
  have hz0 : ∀ (n : Nat) (js : List F), lin (List.replicate n 0) js = fun _ => 0 := fun n => by
    induction n with
    | zero => intro js; exact lin_nil js
    | succ n ih =>
      intro js
      cases js with
      | nil => exact lin_nil' _
      | cons x js =>
        rw [List.replicate_succ, lin_cons, ih js]
        funext c
        grind
  have hl := I (as ++ ((-1) :: List.replicate (ks.drop (j + 1)).length 0)) (by
    rw [List.length_append, h1]
    simp
    omega) (by
    conv => lhs; rw [e1]
    rw [lin_app _ _ _ _ h1, lin_cons, hz0, ← h2]
    funext c
    grind)
  have := hl (-1) (by simp)
  exact absurd this (by decide)
end La
end
section
set_option Elab.async false
set_option linter.all false
set_option maxRecDepth 100000
set_option exponentiation.threshold 20000
namespace K07
open PySem L2 Cv
theorem ratio_of_ok {n : Nat} {a b : Int} {gh : List Ob} (hb : b ≠ 0) (h : Bd n b) (l : n < 9000) : f_ratio_of [.int a, .int b] gh = .ok (rv (Rat.divInt a b)) gh := by
  have hp := part_ok (a := a) hb h l
  have h1 := low_num (a := a) hb
  have h2 := low_den (a := a) hb
  by_cases hc : 0 < b
  · rw [if_pos hc] at hp h1 h2
    simp [f_ratio_of, runF, entry, b_ratio_of, hc, fdv_ii hp, h1, h2, sizeLine, rv]
  · rw [if_neg hc] at hp h1 h2
    simp [f_ratio_of, runF, entry, b_ratio_of, hc, fdv_ii hp, h1, h2, sizeLine, rv]
theorem ratio_sum_ok {m n : Nat} {p q : Rat} {gh : List Ob} (hp : Sz m p) (hq : Sz n q) (l : m + n < 9000) : f_ratio_sum [rv p, rv q] gh = .ok (rv (p + q)) gh := by
  have h1 := ratio_of_ok (a := p.num * q.den + q.num * p.den) (gh := gh) (den2_ne p q) (hp.den.mul hq.den) l
  rw [add_divInt] at h1
  simp [f_ratio_sum, runF, entry, b_ratio_sum, mul_ii (mulOk_bd hp.num hq.den (by omega)), mul_ii (mulOk_bd hq.num hp.den (by omega)), mul_ii (mulOk_bd hp.den hq.den (by omega)), h1]
theorem ratio_product_ok {m n : Nat} {p q : Rat} {gh : List Ob} (hp : Sz m p) (hq : Sz n q) (l : m + n < 9000) : f_ratio_product [rv p, rv q] gh = .ok (rv (p * q)) gh := by
  have h1 := ratio_of_ok (a := p.num * q.num) (gh := gh) (den2_ne p q) (hp.den.mul hq.den) l
  rw [mul_divInt] at h1
  simp [f_ratio_product, runF, entry, b_ratio_product, mul_ii (mulOk_bd hp.num hq.num (by omega)), mul_ii (mulOk_bd hp.den hq.den (by omega)), h1]
def SK : List Key := [.inr "cells", .inr "left", .inr "mixed", .inr "turn"]
structure Src (gh : List Ob) (k : Nat) : Prop where
  ex : ∃ (cells : List Int) (left mixed turn : Int), gh[0]? = some (.lst (cells.map .int)) ∧ gh[1]? = some (.dct SK [.glb 0, .int left, .int mixed, .int turn]) ∧ (∀ c ∈ cells, 0 ≤ c ∧ Bd 1048577 c) ∧ 0 ≤ left ∧ Bd 1048577 left ∧
    0 ≤ mixed ∧ Bd 32 mixed ∧ 0 ≤ turn ∧ turn + k < 2 ^ 40
structure Fr (gh gh' : List Ob) : Prop where
  len : gh'.length = gh.length
  at_ : ∀ i, 2 ≤ i → gh'[i]? = gh[i]?
theorem Fr.refl (gh : List Ob) : Fr gh gh := ⟨rfl, fun _ _ => rfl⟩
theorem Fr.trans {a b c : List Ob} (h : Fr a b) (k : Fr b c) : Fr a c := ⟨k.len.trans h.len, fun i hi => (k.at_ i hi).trans (h.at_ i hi)⟩
theorem Fr.set {gh : List Ob} {i : Nat} {o : Ob} (h : i < 2) : Fr gh (gh.set i o) := ⟨by rw [List.length_set], fun j hj => by rw [List.getElem?_set_ne (by omega)]⟩
theorem Src.mono {gh : List Ob} {j k : Nat} (h : Src gh k) (l : j ≤ k) : Src gh j := by
  obtain ⟨c, a, b, d, h1, h2, h3, h4, h5, h6, h7, h8, h9⟩ := h
  exact ⟨c, a, b, d, h1, h2, h3, h4, h5, h6, h7, h8, by omega⟩
@[simp] theorem ixd (ks : List Key) (ds : List DV) (x : String) : ixF (.dct ks ds) (.str (Str.ofString x)) = dGet ks ds (.inr (Str.ofString x)) := rfl
theorem g_cells (a b c d : DV) : dGet SK [a, b, c, d] (.inr "cells") = some a := rfl
theorem g_left (a b c d : DV) : dGet SK [a, b, c, d] (.inr "left") = some b := rfl
theorem g_mixed (a b c d : DV) : dGet SK [a, b, c, d] (.inr "mixed") = some c := rfl
theorem g_turn (a b c d : DV) : dGet SK [a, b, c, d] (.inr "turn") = some d := rfl
theorem s_left (a b c d y : DV) : setR (.str "left") y (.dct SK [a, b, c, d]) = some (.non, .dct SK [a, y, c, d]) := rfl
theorem s_mixed (a b c d y : DV) : setR (.str "mixed") y (.dct SK [a, b, c, d]) = some (.non, .dct SK [a, b, y, d]) := rfl
theorem s_turn (a b c d y : DV) : setR (.str "turn") y (.dct SK [a, b, c, d]) = some (.non, .dct SK [a, b, c, y]) := rfl
abbrev pkC : Ex := andE (vw2 gtF (var 1) (cst (.int 1))) (andE (vw2 ltF (vw2 ixF (var 0) (cst (.str "left"))) (cst (.int 2))) (vw2 gtF (bltE lenF [(vw2 ixF (var 0) (cst (.str "cells")))]) (cst (.int 0))))
abbrev pkB : Sm := setS (var 0) (cst (.str "left")) (popE (vw2 ixF (var 0) (cst (.str "cells"))))
theorem pick_loop (many : Int) (x y : Option DV) (mixed turn : Int) : ∀ (n : Nat) (cells : List Int) (left : Int) (gh : List Ob), cells.length = n → gh[0]? = some (.lst (cells.map .int)) → gh[1]? = some (.dct SK [.glb 0, .int left, .int mixed, .int turn]) →
    (∀ c ∈ cells, 0 ≤ c ∧ Bd 1048577 c) → 0 ≤ left → Bd 1048577 left →
    ∃ cells' left' gh', wl pkC pkB (n + 1) ⟨[some (.glb 1), some (.int many), x, y], [], gh⟩ = .ok .nx ⟨[some (.glb 1), some (.int many), x, y], [], gh'⟩ ∧ gh'[0]? = some (.lst (List.map DV.int cells')) ∧
      gh'[1]? = some (.dct SK [.glb 0, .int left', .int mixed, .int turn]) ∧ (∀ c ∈ cells', 0 ≤ c ∧ Bd 1048577 c) ∧ 0 ≤ left' ∧ Bd 1048577 left' ∧ Fr gh gh'
  | 0, cells, left, gh, hn, h0, h1, hc, hl, hb => by
    have : cells = [] := List.length_eq_zero_iff.mp hn
    subst this
    refine ⟨[], left, gh, ?_, h0, h1, hc, hl, hb, Fr.refl _⟩
    unfold wl
    simp only [ap_and, ap_vw2, ap_var, ap_cst, ap_blt, ap_evs, ap_evs0, look_int, look_str, look_glb, h0, h1, ixd, g_left, g_cells, optO_some, Out.bind_ok, icmp_ii, List.getElem?_cons_zero, List.getElem?_cons_succ, List.map_cons, List.map_nil, len_l, List.length_nil]
    by_cases c1 : 1 < many <;> by_cases c2 : left < 2 <;> simp [c1, c2]
  | n + 1, cells, left, gh, hn, h0, h1, hc, hl, hb => by
    unfold wl
    simp only [ap_and, ap_vw2, ap_var, ap_cst, ap_blt, ap_evs, ap_evs0, look_int, look_str, look_glb, h0, h1, ixd, g_left, g_cells, optO_some, Out.bind_ok, icmp_ii, List.getElem?_cons_zero, List.getElem?_cons_succ, List.map_cons, List.map_nil, len_l, List.length_map, hn]
    by_cases c1 : 1 < many
    · by_cases c2 : left < 2
      · have c3 : (0 : Int) < ((n + 1 : Nat) : Int) := by omega
        have hlt : n < cells.length := by omega
        have hne : cells ≠ [] := fun z => by rw [z] at hn; cases hn
        obtain ⟨y', hy⟩ : ∃ z, cells[n]? = some z := ⟨_, List.getElem?_eq_getElem hlt⟩
        have hpop : popR (.lst (cells.map .int)) = some (.int y', .lst ((cells.dropLast).map .int)) := by
          unfold popR
          simp only [List.length_map, hn, Nat.add_sub_cancel, List.getElem?_map, hy, Option.map_some, List.map_dropLast]
        have h1' : (gh.set 0 (.lst ((cells.dropLast).map .int)))[1]? = some (.dct SK [.glb 0, .int left, .int mixed, .int turn]) := by rw [List.getElem?_set_ne (by decide)]; exact h1
        have l0 : 0 < gh.length := (List.getElem?_eq_some_iff.mp h0).1
        have l1 : 1 < gh.length := (List.getElem?_eq_some_iff.mp h1).1
        simp only [c1, c2, c3, decide_true, ap_set, ap_out, ap_pop, ap_vw2, ap_var, ap_cst, look_int, look_str, look_glb, h0, h1, ixd, g_cells, optO_some, Out.bind_ok, List.getElem?_cons_zero, List.getElem?_cons_succ, isLst_lst, if_true, chg, hpop, frz_int, h1', s_left]
        obtain ⟨hy0, hyb⟩ := hc y' (List.mem_of_getElem? hy)
        obtain ⟨c', l', gh', q1, q2, q3, q4, q5, q6, q7⟩ := pick_loop many x y mixed turn n cells.dropLast y' ((gh.set 0 (.lst ((cells.dropLast).map .int))).set 1 (.dct SK [.glb 0, .int y', .int mixed, .int turn]))
          (by rw [List.length_dropLast]; omega) (by rw [List.getElem?_set_ne (by decide), List.getElem?_set_self l0]) (by rw [List.getElem?_set_self (by rw [List.length_set]; exact l1)]) (fun c h => hc c (List.dropLast_subset _ h)) hy0 hyb
        exact ⟨c', l', gh', q1, q2, q3, q4, q5, q6, ((Fr.set (by decide)).trans (Fr.set (by decide))).trans q7⟩
      · refine ⟨cells, left, gh, ?_, h0, h1, hc, hl, hb, Fr.refl _⟩
        simp [c1, c2]
    · refine ⟨cells, left, gh, ?_, h0, h1, hc, hl, hb, Fr.refl _⟩
      simp [c1]
theorem pick_ok {gh : List Ob} {k : Nat} {many : Int} (S : Src gh (k + 1)) (hm : 1 ≤ many) (hb : Bd 64 many) : ∃ r gh', f__law_pick [.glb 1, .int many] gh = .ok (.int r) gh' ∧ 0 ≤ r ∧ r < many ∧ Src gh' k ∧ Fr gh gh' := by
  obtain ⟨cells, left, mixed, turn, h0, h1, hc, hl, hlb, hm0, hmb, ht, htk⟩ := S
  obtain ⟨c', l', g1, q1, q2, q3, q4, q5, q6, q7⟩ := pick_loop many none none mixed turn cells.length cells left gh rfl h0 h1 hc hl hlb
  have hw := whlS_eq (f := pkC) (b := pkB) (n := cells.length + 1) (st := ⟨[some (.glb 1), some (.int many), none, none], [], gh⟩) (by rw [q1]; simp)
  rw [q1] at hw
  have e0 : f__law_pick [.glb 1, .int many] gh = leave (b__law_pick ⟨[some (.glb 1), some (.int many), none, none], [], gh⟩) := rfl
  rw [e0]
  unfold b__law_pick
  rw [ap_seq, hw]
  have l1 : 1 < g1.length := (List.getElem?_eq_some_iff.mp q3).1
  have hmax : maxF [.int 1, .int many] = some (.int many) := by
    simp only [maxF]
    congr 2
    split <;> omega
  have hmd : divOk many := divOk_bd hb (by omega) (by omega)
  have hmn : many ≠ 0 := by omega
  have e1 : l'.fmod many = l' % many := Int.fmod_eq_emod_of_nonneg _ (by omega)
  have e2 : l'.fdiv many = l' / many := Int.fdiv_eq_ediv_of_nonneg _ (by omega)
  have done1 : ∃ r gh', (Out.ok (DV.int (l' % many)) (g1.set 1 (.dct SK [.glb 0, .int (l' / many), .int mixed, .int turn])) : Out (List Ob) DV) = .ok (.int r) gh' ∧ 0 ≤ r ∧ r < many ∧ Src gh' k ∧ Fr gh gh' := by
    refine ⟨l' % many, _, rfl, Int.emod_nonneg _ hmn, Int.emod_lt_of_pos _ (by omega), ⟨c', l' / many, mixed, turn, by rw [List.getElem?_set_ne (by decide)]; exact q2, by rw [List.getElem?_set_self l1], q4, Int.ediv_nonneg q5 (by omega), ?_, hm0, hmb, ht, by omega⟩, q7.trans (Fr.set (by decide))⟩
    unfold Bd at *
    have := Int.natAbs_ediv_le_natAbs l' many
    omega
  have q3a : ∀ d : DV, (g1.set 1 (.dct SK [.glb 0, .int l', .int mixed, d]))[1]? = some (.dct SK [.glb 0, .int l', .int mixed, d]) := fun d => List.getElem?_set_self l1
  by_cases c1 : many < 2
  · simp only [Out.bind_ok, ap_seq, ap_asg, ap_one, ap_setE, ap_set, ap_out, ap_ret, ap_vw2, ap_var, ap_cst, ap_blt, ap_evs, ap_evs0, look_int, look_str, look_glb, q3, ixd, g_left, optO_some, List.getElem?_cons_zero, List.getElem?_cons_succ, List.set_cons_zero, List.set_cons_succ, List.map_cons, List.map_nil,
      ap_if, ap_or, icmp_ii, c1, decide_true, hmax, fdv_ii hmd, mod_ii hmn, int_i, frz_int, chg, s_left, lv_rt, e1, e2]
    exact done1
  · by_cases c2 : 1 < l'
    · simp only [Out.bind_ok, ap_seq, ap_asg, ap_one, ap_setE, ap_set, ap_out, ap_ret, ap_vw2, ap_var, ap_cst, ap_blt, ap_evs, ap_evs0, look_int, look_str, look_glb, q3, ixd, g_left, optO_some, List.getElem?_cons_zero, List.getElem?_cons_succ, List.set_cons_zero, List.set_cons_succ, List.map_cons, List.map_nil,
        ap_if, ap_or, icmp_ii, c1, c2, decide_true, decide_false, hmax, fdv_ii hmd, mod_ii hmn, int_i, frz_int, chg, s_left, lv_rt, e1, e2]
      exact done1
    · have m1 : mulOk (turn + 1) 104729 := mulOk_bd (m := 41) (n := 17) (by unfold Bd; omega) (by unfold Bd; decide) (by omega)
      have m2 : mulOk (turn + 1) 17 := mulOk_bd (m := 41) (n := 17) (by unfold Bd; omega) (by unfold Bd; decide) (by omega)
      have f1 : (mixed + (turn + 1) * 104729).fmod 998244353 = (mixed + (turn + 1) * 104729) % 998244353 := Int.fmod_eq_emod_of_nonneg _ (by decide)
      have r1 := Int.emod_nonneg (mixed + (turn + 1) * 104729) (show (998244353 : Int) ≠ 0 by decide)
      have r2 := Int.emod_lt_of_pos (mixed + (turn + 1) * 104729) (show (0 : Int) < 998244353 by decide)
      generalize (mixed + (turn + 1) * 104729) % 998244353 = x1 at f1 r1 r2
      have m3 : mulOk x1 x1 := mulOk_bd (m := 30) (n := 30) (by unfold Bd; omega) (by unfold Bd; omega) (by omega)
      have f2 : (x1 * x1 + (turn + 1) * 17).fmod 2147483647 = (x1 * x1 + (turn + 1) * 17) % 2147483647 := Int.fmod_eq_emod_of_nonneg _ (by decide)
      have r3 := Int.emod_nonneg (x1 * x1 + (turn + 1) * 17) (show (2147483647 : Int) ≠ 0 by decide)
      have r4 := Int.emod_lt_of_pos (x1 * x1 + (turn + 1) * 17) (show (0 : Int) < 2147483647 by decide)
      generalize (x1 * x1 + (turn + 1) * 17) % 2147483647 = x2 at f2 r3 r4
      have f3 : (x2.fdiv 16).fmod many = (x2.fdiv 16) % many := Int.fmod_eq_emod_of_nonneg _ (by omega)
      have d16 : divOk 16 := by unfold divOk; decide
      have dm1 : (998244353 : Int) ≠ 0 := by decide
      have dm2 : (2147483647 : Int) ≠ 0 := by decide
      simp only [Out.bind_ok, ap_seq, ap_pas, ap_asg, ap_one, ap_setE, ap_set, ap_out, ap_ret, ap_vw2, ap_var, ap_cst, ap_blt, ap_evs, ap_evs0, look_int, look_str, look_glb, q3, q3a, ixd, g_left, g_turn, g_mixed, optO_some, List.getElem?_cons_zero, List.getElem?_cons_succ, List.set_cons_zero, List.set_cons_succ, List.map_cons, List.map_nil,
        ap_if, ap_or, icmp_ii, c1, c2, decide_false, add_ii, mul_ii m1, mul_ii m2, mul_ii m3, mod_ii dm1, mod_ii dm2, mod_ii hmn, fdv_ii d16, int_i, frz_int, chg, s_turn, s_mixed, lv_rt, f1, f2, f3, List.set_set]
      refine ⟨_, _, rfl, Int.emod_nonneg _ hmn, Int.emod_lt_of_pos _ (by omega), ⟨c', l', x2, turn + 1, by rw [List.getElem?_set_ne (by decide)]; exact q2, by rw [List.getElem?_set_self l1], q4, q5, q6, r3, by unfold Bd; omega, by omega, by omega⟩, q7.trans (Fr.set (by decide))⟩
theorem bd_bits {n : Nat} {k : Int} (h : Builtin.Int.intBits k ≤ n) : Bd n k := by
  unfold Bd
  have : k.natAbs < 2 ^ Builtin.Int.intBits k := by
    unfold Builtin.Int.intBits
    split
    · rename_i z; simp at z; subst z; decide
    · exact Nat.lt_log2_self
  exact Nat.lt_of_lt_of_le this (Nat.pow_le_pow_right (by decide) h)
theorem source_ok {ns : List Int} (hn : ns.length ≤ 63) (hb : ∀ k ∈ ns, Builtin.Int.intBits k ≤ 1048576) : ∃ gh, f__law_source [.scr ns] [] = .ok (.glb 1) gh ∧ Src gh (2 ^ 39) ∧ gh.length = 2 := by
  have e0 : f__law_source [.scr ns] [] = leave (b__law_source ⟨[some (.scr ns), none, none], [], []⟩) := rfl
  rw [e0]
  unfold b__law_source
  obtain ⟨st', h1, x, m, h2, h3, h4⟩ := for_ok (t := .one 2) (b := asgS (.one 1) (vw2 modF (bltE intF [(vw2 addF (vw2 addF (vw2 mulF (var 1) (cst (.int 69069))) (vw2 mulF (var 2) (cst (.int 31)))) (cst (.int 5)))]) (cst (.int 2147483629))))
    (s0 := ⟨[some (.scr ns), some (.int 11), none], [], []⟩) (gd := []) (ds := ns.map .int) (fun _ st => ∃ x m, st = (⟨[some (.scr ns), some (.int m), x], [], []⟩ : Sta) ∧ 0 ≤ m ∧ m < 2147483629) (st := ⟨[some (.scr ns), some (.int 11), none], [], []⟩) ⟨none, 11, rfl, by decide, by decide⟩
    (fun i d st hd ⟨x, m, hst, h0, h1⟩ => by
      subst hst
      rw [List.getElem?_map] at hd
      cases hc : ns[i]? with
      | none => rw [hc] at hd; cases hd
      | some c =>
        rw [hc] at hd; cases hd
        have bc := bd_bits (hb c (List.mem_of_getElem? hc))
        have m1 : mulOk m 69069 := mulOk_bd (m := 32) (n := 20) (by unfold Bd; omega) (by unfold Bd; decide) (by omega)
        have m2 : mulOk c 31 := mulOk_bd (m := 1048576) (n := 5) bc (by unfold Bd; decide) (by omega)
        refine ⟨_, rfl, ⟨[some (.scr ns), some (.int ((m * 69069 + c * 31 + 5).fmod 2147483629)), some (.int c)], [], []⟩, .inl ?_, stays_nil _ _, some (.int c), _, rfl, ?_, ?_⟩
        · simp [mul_ii m1, mul_ii m2, mod_ii (show (2147483629 : Int) ≠ 0 by decide)]
        · rw [Int.fmod_eq_emod_of_nonneg _ (by decide)]; exact Int.emod_nonneg _ (by decide)
        · rw [Int.fmod_eq_emod_of_nonneg _ (by decide)]; exact Int.emod_lt_of_pos _ (by decide))
  subst h2
  have hl := lc_map (t := .one 2) (own := [2]) (f := bltE absF [(var 2)]) (s0 := ⟨[some (.scr ns), some (.int m), x], [], []⟩) (gd := []) (ds := ns.map .int) (ys := ns.map fun c => .int (if c < 0 then -c else c)) (by simp) (fun i d y hd hy => by
    rw [List.getElem?_map] at hd hy
    cases hc : ns[i]? with
    | none => rw [hc] at hd; cases hd
    | some c =>
      rw [hc] at hd hy; cases hd; cases hy
      exact ⟨_, rfl, ⟨[some (.scr ns), some (.int m), some (.int c)], [], []⟩, by simp, rfl, rfl⟩)
  simp only [] at hl
  have hz : ns.length ≤ sizeLine := Nat.le_trans hn (by decide)
  simp [h1, hz, hl]
  refine ⟨(ns.map fun c => if c < 0 then -c else c).reverse, 1, m, 0, ?_, rfl, ?_, by decide, by unfold Bd; exact Nat.one_lt_two_pow (Nat.succ_ne_zero _), h3, by unfold Bd; omega, by decide, by decide⟩
  · simp [List.map_map, Function.comp_def, List.map_reverse]
  · intro c hc
    rw [List.mem_reverse, List.mem_map] at hc
    obtain ⟨a, ha, rfl⟩ := hc
    have := bd_bits (hb a ha)
    refine ⟨by split <;> omega, ?_⟩
    have e : (if a < 0 then -a else a).natAbs = a.natAbs := by split <;> omega
    unfold Bd at *
    rw [e]
    exact Nat.lt_of_lt_of_le this (Nat.pow_le_pow_right (by decide) (by decide))
theorem at_nat {ds : List DV} {r : Int} (h0 : 0 ≤ r) (h1 : r < ds.length) : ∃ d, ds[r.toNat]? = some d ∧ ixF (.lst ds) (.int r) = some d ∧ ixF (.tup ds) (.int r) = some d := by
  have hl : r.toNat < ds.length := by omega
  refine ⟨ds[r.toNat], List.getElem?_eq_getElem hl, ?_⟩
  have e : atI ds r = some ds[r.toNat] := by
    unfold atI
    have : ixN ds.length r = some r.toNat := by
      unfold ixN
      rw [if_pos h0, if_pos h1]
    rw [this]
    exact List.getElem?_eq_getElem hl
  exact ⟨e, e⟩
theorem of_ok {gh : List Ob} {k : Nat} {ds : List DV} {x : DV} (hx : x = .lst ds ∨ x = .tup ds) (hf : ∀ d ∈ ds, ∀ s, frz d s = .ok d s) (S : Src gh (k + 1)) (h0 : 0 < ds.length) (h1 : ds.length < 1000) : ∃ d gh', d ∈ ds ∧ f__law_of [.glb 1, x] gh = .ok d gh' ∧ Src gh' k ∧ Fr gh gh' := by
  obtain ⟨r, gh', h2, h3, h4, h5, h6⟩ := pick_ok (many := ds.length) S (by omega) (by unfold Bd; omega)
  obtain ⟨d, h7, h8, h9⟩ := at_nat (ds := ds) h3 h4
  refine ⟨d, gh', List.mem_of_getElem? h7, ?_, h5, h6⟩
  have := hf d (List.mem_of_getElem? h7)
  rcases hx with rfl | rfl
  · simp [f__law_of, runF, entry, b__law_of, h2, h8, this]
  · simp [f__law_of, runF, entry, b__law_of, h2, h9, this]
abbrev row (r : List Rat) : DV := .tup (r.map rv)
theorem zipL_get {xs ys : List DV} {k : Nat} {d : DV} (h : (zipL xs ys)[k]? = some d) : ∃ x y, xs[k]? = some x ∧ ys[k]? = some y ∧ d = .tup [x, y] := by
  unfold zipL at h
  rw [List.getElem?_zipWith] at h
  cases hx : xs[k]? with
  | none => rw [hx] at h; cases h
  | some x =>
    cases hy : ys[k]? with
    | none => rw [hx, hy] at h; cases h
    | some y => rw [hx, hy] at h; cases h; exact ⟨x, y, rfl, rfl, rfl⟩
theorem lc_zip {α β γ : Type} {i j : Nat} {own : List Nat} {f : Ex} {s0 : Sta} {gd : List DV} {r : List α} {s : List β} {u : α → DV} {v : β → DV} {w : γ → DV} {op : α → β → γ}
    (hf : ∀ (k : Nat) a b, r[k]? = some a → s[k]? = some b → Gv (out f ⟨((wipeE s0.env own).set i (some (u a))).set j (some (v b)), s0.lh, s0.gh⟩) (w (op a b)) s0) :
    lcGo (.many [i, j]) own (cst (.bl true)) f s0.env s0 gd (zipL (r.map u) (s.map v)) s0 [] = .ok ((List.zipWith op r s).map w) s0 := by
  refine lc_map (by simp [zipL]) fun k d y hd hy => ?_
  obtain ⟨x', y', h1, h2, rfl⟩ := zipL_get hd
  rw [List.getElem?_map] at h1 h2 hy
  cases hr : r[k]? with
  | none => rw [hr] at h1; cases h1
  | some a =>
    cases hs : s[k]? with
    | none => rw [hs] at h2; cases h2
    | some b =>
      rw [hr] at h1; cases h1
      rw [hs] at h2; cases h2
      rw [List.getElem?_zipWith, hr, hs] at hy
      cases hy
      exact ⟨_, rfl, (hf k a b hr hs).ex⟩
theorem lc_one {α γ : Type} {i : Nat} {own : List Nat} {f : Ex} {s0 : Sta} {gd : List DV} {r : List α} {u : α → DV} {w : γ → DV} {op : α → γ}
    (hf : ∀ (k : Nat) a, r[k]? = some a → Gv (out f ⟨(wipeE s0.env own).set i (some (u a)), s0.lh, s0.gh⟩) (w (op a)) s0) :
    lcGo (.one i) own (cst (.bl true)) f s0.env s0 gd (r.map u) s0 [] = .ok ((r.map op).map w) s0 := by
  refine lc_map (by simp) fun k d y hd hy => ?_
  rw [List.getElem?_map] at hd
  cases hr : r[k]? with
  | none => rw [hr] at hd; cases hd
  | some a =>
    rw [hr] at hd; cases hd
    rw [List.getElem?_map, List.getElem?_map, hr] at hy
    cases hy
    exact ⟨_, rfl, (hf k a hr).ex⟩
theorem lc_rng {γ : Type} {i n : Nat} {own : List Nat} {f : Ex} {s0 : Sta} {gd : List DV} {w : γ → DV} {op : Nat → γ}
    (hf : ∀ k, k < n → Gv (out f ⟨(wipeE s0.env own).set i (some (.int (k : Nat))), s0.lh, s0.gh⟩) (w (op k)) s0) :
    lcGo (.one i) own (cst (.bl true)) f s0.env s0 gd (rngL 0 n) s0 [] = .ok (((List.range n).map op).map w) s0 := by
  have e : rngL 0 n = (List.range n).map fun k => DV.int (k : Nat) := by
    unfold rngL
    congr 1
    funext k
    rw [Int.zero_add]
  rw [e]
  refine lc_one fun k a h => ?_
  have ha : a < n := List.mem_range.mp (List.mem_of_getElem? h)
  exact hf a ha
def Szs (n : Nat) (r : List Rat) : Prop := ∀ x ∈ r, Sz n x
theorem Szs.at {n : Nat} {r : List Rat} {k : Nat} {a : Rat} (h : Szs n r) (e : r[k]? = some a) : Sz n a := h a (List.mem_of_getElem? e)
theorem sl_of {n : Nat} (h : n ≤ 1000) : n ≤ sizeLine := Nat.le_trans h (by decide)
def lin (fs : List Rat) (rows : List (List Rat)) (c : Nat) : Rat := (List.zipWith (fun f r => f * r.getD c 0) fs rows).sum
def comb (n : Nat) (fs : List Rat) (rows : List (List Rat)) : List Rat := (List.range n).map fun c => lin fs rows c
theorem lin_snoc {fs : List Rat} {rows : List (List Rat)} {k : Nat} {f : Rat} {r : List Rat} (h1 : fs[k]? = some f) (h2 : rows[k]? = some r) (c : Nat) : lin (fs.take (k + 1)) (rows.take (k + 1)) c = lin (fs.take k) (rows.take k) c + f * r.getD c 0 := by
  have l1 := (List.getElem?_eq_some_iff.mp h1).1
  have l2 := (List.getElem?_eq_some_iff.mp h2).1
  unfold lin
  rw [List.take_add_one, List.take_add_one, h1, h2]
  simp only [Option.toList_some]
  rw [List.zipWith_append (by rw [List.length_take, List.length_take]; omega), List.sum_append]
  simp [Rat.add_zero]
theorem mul_row (long : Int) (h0 : 1 ≤ long) (h1 : long ≤ 1000) : mulF (.tup [.tup [.int 0, .int 1]]) (.int long) = some (row (List.replicate long.toNat 0)) := by
  have : (List.replicate long.toNat [DV.tup [.int 0, .int 1]]).flatten = (List.replicate long.toNat (0 : Rat)).map rv := by
    generalize long.toNat = n
    induction n with
    | zero => rfl
    | succ n ih => rw [List.replicate_succ, List.flatten_cons, ih, List.replicate_succ]; rfl
  simp [mulF, h0, h1, this, row]
theorem Sz.zero : Sz 1 (0 : Rat) := by unfold Sz; decide
theorem getD_map_range (n : Nat) (g : Nat → Rat) (c : Nat) (h : c < n) : ((List.range n).map g).getD c 0 = g c := by
  rw [List.getD_eq_getElem?_getD, List.getElem?_map, List.getElem?_range h]; rfl
def dot (r s : List Rat) : Rat := (List.zipWith (fun a b => a * b) r s).sum
theorem dot_snoc {r s : List Rat} {k : Nat} {a b : Rat} (h1 : r[k]? = some a) (h2 : s[k]? = some b) : dot (r.take (k + 1)) (s.take (k + 1)) = dot (r.take k) (s.take k) + a * b := by
  have l1 := (List.getElem?_eq_some_iff.mp h1).1
  have l2 := (List.getElem?_eq_some_iff.mp h2).1
  unfold dot
  rw [List.take_add_one, List.take_add_one, h1, h2]
  simp only [Option.toList_some]
  rw [List.zipWith_append (by rw [List.length_take, List.length_take]; omega), List.sum_append]
  simp [Rat.add_zero]
def col (t : List (List Rat)) (c : Nat) : List Rat := t.map fun r => r.getD c 0
abbrev tab (t : List (List Rat)) : DV := .tup (t.map row)
theorem ix_row {r : List Rat} {k : Nat} (h : k < r.length) : ixF (row r) (.int (k : Nat)) = some (rv (r.getD k 0)) := by
  obtain ⟨d, h1, h2, h3⟩ := at_nat (ds := r.map rv) (r := (k : Int)) (by omega) (by simpa using h)
  rw [show row r = .tup (r.map rv) from rfl, h3]
  rw [Int.toNat_natCast, List.getElem?_map] at h1
  rw [List.getD_eq_getElem?_getD, List.getElem?_eq_getElem h] at *
  simp only [Option.map_some] at h1
  rw [← h1]; rfl
theorem ix_head {t : List (List Rat)} {r : List Rat} (h : t[0]? = some r) : ixF (tab t) (.int 0) = some (row r) := by
  cases t with
  | nil => cases h
  | cons a t =>
    cases h
    obtain ⟨d, h1, h2, h3⟩ := at_nat (ds := (r :: t).map row) (r := 0) (by decide) (by simp)
    rw [show tab (r :: t) = .tup ((r :: t).map row) from rfl, h3]
    exact h1.symm
theorem rp_row {r : List Rat} (h : Szs 1919 r) : ∃ p, Rp 2 (r.length * 3851 + 3) (row r) p := by
  obtain ⟨ps, hp⟩ := Rps.of (k := 1) (n := 3849) (ds := r.map rv) fun d hd => by
    obtain ⟨q, hq, rfl⟩ := List.mem_map.mp hd
    exact Rp.rv (h q hq)
  have := Rp.tup hp
  rw [List.length_map] at this
  exact ⟨_, this⟩
theorem rps_tab {t : List (List Rat)} {w : Nat} (h : ∀ r ∈ t, r.length ≤ w ∧ Szs 1919 r) : ∃ ps, Rps 2 (w * 3851 + 3) (t.map row) ps := Rps.of fun d hd => by
  obtain ⟨r, hr, rfl⟩ := List.mem_map.mp hd
  obtain ⟨p, hp⟩ := rp_row (h r hr).2
  exact ⟨p, hp.mono (Nat.le_refl _) (Nat.add_le_add_right (Nat.mul_le_mul_right _ (h r hr).1) 3)⟩
theorem rp_tab {t : List (List Rat)} {w : Nat} (h : ∀ r ∈ t, r.length ≤ w ∧ Szs 1919 r) : ∃ p, Rp 3 (t.length * (w * 3851 + 5) + 3) (tab t) p := by
  obtain ⟨ps, hp⟩ := rps_tab h
  have := Rp.tup hp
  rw [List.length_map] at this
  exact ⟨_, this⟩
structure Tb (t : List (List Rat)) (w m : Nat) : Prop where
  len : ∀ r ∈ t, r.length = w
  sz : ∀ r ∈ t, Szs m r
  l1 : t.length ≤ 1000
  l2 : w ≤ 1000
theorem Tb.mem {t : List (List Rat)} {w m : Nat} (h : Tb t w m) {k : Nat} {r : List Rat} (e : t[k]? = some r) : r.length = w ∧ Szs m r := ⟨h.len r (List.mem_of_getElem? e), h.sz r (List.mem_of_getElem? e)⟩
theorem Szs.mono {m n : Nat} {r : List Rat} (h : Szs m r) (l : m ≤ n) : Szs n r := fun x hx => (h x hx).mono l
theorem across_ok {t : List (List Rat)} {w m : Nat} {gh : List Ob} (h : Tb t w m) (hm : m ≤ 1919) (h0 : t ≠ []) : f_across [tab t] gh = .ok (tab ((List.range w).map (col t))) gh := by
  obtain ⟨ps, hp⟩ := rps_tab (t := t) (w := w) fun r hr => ⟨Nat.le_of_eq (h.len r hr), (h.sz r hr).mono hm⟩
  have hne := ne_tup0 hp (by decide)
  have he : (t.map row).isEmpty = false := by cases t <;> first | rfl | exact absurd rfl h0
  rw [he] at hne
  obtain ⟨r0, hr0⟩ : ∃ r, t[0]? = some r := by cases t with
    | nil => exact absurd rfl h0
    | cons a t => exact ⟨a, rfl⟩
  have hw := (h.mem hr0).1
  have e0 : f_across [tab t] gh = leave (b_across ⟨[some (tab t), none, none], [], gh⟩) := rfl
  rw [e0]
  unfold b_across
  have hin : ∀ k, k < w → Gv (Cv.out (bltE tupF [(lcE .val (.one 2) [2] (seqI (var 0)) (cst (.bl true)) (vw2 ixF (var 2) (var 1)))]) ⟨[some (tab t), some (.int (k : Nat)), none], [], gh⟩) (row (col t k)) ⟨[some (tab t), none, none], [], gh⟩ := fun k hk => by
    have hl := lc_one (i := 2) (own := [2]) (f := vw2 ixF (var 2) (var 1)) (s0 := ⟨[some (tab t), some (.int (k : Nat)), none], [], gh⟩) (gd := []) (r := t) (u := row) (w := rv) (op := fun r => r.getD k 0) (fun j r hr => by
      simp [ix_row (show k < r.length by rw [(h.mem hr).1]; exact hk)])
    simp only at hl
    simp [sl_of h.l1, hl, col]
  have ho := lc_rng (i := 1) (n := w) (own := [1]) (f := bltE tupF [(lcE .val (.one 2) [2] (seqI (var 0)) (cst (.bl true)) (vw2 ixF (var 2) (var 1)))]) (s0 := ⟨[some (tab t), none, none], [], gh⟩) (gd := []) (w := row) (op := col t) (fun k hk => hin k hk)
  simp only at ho
  have hr : rng1 (bltE lenF [(vw2 ixF (var 0) (cst (.int 0)))]) ⟨[some (tab t), none, none], [], gh⟩ = .ok ⟨rngL 0 w, []⟩ ⟨[some (tab t), none, none], [], gh⟩ := rng_ok (by simp [ix_head hr0, hw]) (by have := h.l2; omega)
  have hlen : (rngL 0 w).length ≤ sizeLine := sl_of (by simp [rngL]; exact h.l2)
  simp [hne, hr, hlen, ho]
abbrev intv (f : List Int) : DV := .lst (f.map .int)
def wb (r : List Rat) : Nat := r.foldl (fun b q => Nat.lcm b q.den) 1
def wn (r : List Rat) : List Int := r.map fun q => q.num * ((wb r : Int) / (q.den : Int))
theorem lcm_pos' {a b : Nat} (h : 0 < a) (k : 0 < b) : 0 < Nat.lcm a b := Nat.pos_of_ne_zero fun z => by
  have := Nat.lcm_ne_zero (by omega : a ≠ 0) (by omega : b ≠ 0)
  exact this z
theorem fold_pos : ∀ (r : List Rat) (b : Nat), 0 < b → 0 < r.foldl (fun b q => Nat.lcm b q.den) b
  | [], b, h => h
  | q :: r, b, h => fold_pos r _ (lcm_pos' h q.den_pos)
theorem wb_pos (r : List Rat) : 0 < wb r := fold_pos r 1 (by decide)
theorem fold_dvd0 : ∀ (r : List Rat) (b : Nat), b ∣ r.foldl (fun b q => Nat.lcm b q.den) b
  | [], b => Nat.dvd_refl b
  | q :: r, b => Nat.dvd_trans (Nat.dvd_lcm_left _ _) (fold_dvd0 r _)
theorem fold_dvd : ∀ (r : List Rat) (b : Nat) (q : Rat), q ∈ r → q.den ∣ r.foldl (fun b q => Nat.lcm b q.den) b
  | p :: r, b, q, h => by
    rcases List.mem_cons.mp h with z | z
    · rw [z]; exact Nat.dvd_trans (Nat.dvd_lcm_right _ _) (fold_dvd0 r _)
    · exact fold_dvd r _ q z
  | [], _, _, h => by cases h
theorem den_dvd {r : List Rat} {q : Rat} (h : q ∈ r) : q.den ∣ wb r := fold_dvd r 1 q h
theorem fold_lt {n : Nat} : ∀ (r : List Rat) (b m : Nat), (∀ q ∈ r, q.den < 2 ^ n) → b < 2 ^ m → 0 < b → r.foldl (fun b q => Nat.lcm b q.den) b < 2 ^ (m + n * r.length)
  | [], b, m, _, h, _ => by simpa using h
  | q :: r, b, m, hr, h, h0 => by
    have h1 : Nat.lcm b q.den < 2 ^ (m + n) := by
      rw [Nat.pow_add]
      have : Nat.lcm b q.den ≤ b * q.den := Nat.le_of_dvd (Nat.mul_pos h0 q.den_pos) (Nat.lcm_dvd_mul _ _)
      exact Nat.lt_of_le_of_lt this (Nat.mul_lt_mul'' h (hr q List.mem_cons_self))
    have := fold_lt r _ (m + n) (fun x hx => hr x (List.mem_cons_of_mem _ hx)) h1 (lcm_pos' h0 q.den_pos)
    rw [List.length_cons, Nat.mul_succ]
    simp only [List.foldl_cons]
    rwa [show m + (n * r.length + n) = m + n + n * r.length by omega]
theorem wb_lt {r : List Rat} {n : Nat} (h : Szs n r) : wb r < 2 ^ (1 + n * r.length) := fold_lt r 1 1 (fun q hq => (h q hq).2) (by decide) (by decide)
theorem wn_rat {q : Rat} {b : Nat} (h : q.den ∣ b) : ((q.num * ((b : Int) / (q.den : Int)) : Int) : Rat) = (b : Rat) * q := by
  obtain ⟨k, hk⟩ := h
  subst hk
  have hd : (q.den : Int) ≠ 0 := den_ne q
  have e : ((q.den * k : Nat) : Int) / (q.den : Int) = (k : Int) := by
    rw [Int.natCast_mul, Int.mul_ediv_cancel_left _ hd]
  rw [e, Rat.intCast_mul]
  have e2 : ((q.den * k : Nat) : Rat) = (q.den : Rat) * (k : Rat) := Rat.natCast_mul _ _
  rw [e2]
  have e3 : (q.num : Rat) / ((q.den : Int) : Rat) = q := by
    have h1 := Rat.num_divInt_den q
    rw [Rat.divInt_eq_div] at h1
    exact h1
  have hd' : ((q.den : Int) : Rat) ≠ 0 := La.rat_ne hd
  have e4 : ((q.den : Nat) : Rat) = ((q.den : Int) : Rat) := rfl
  have e5 : ((k : Nat) : Rat) = ((k : Int) : Rat) := rfl
  have e6 : q * ((q.den : Int) : Rat) = (q.num : Rat) := by
    have := Rat.div_mul_cancel (a := (q.num : Rat)) hd'
    rwa [e3] at this
  rw [e4, e5]
  grind
theorem wn_nth {r : List Rat} {c : Nat} : La.nth (wn r) c = (wb r : Rat) * r.getD c 0 := by
  unfold La.nth wn
  rw [List.getD_eq_getElem?_getD, List.getD_eq_getElem?_getD, List.getElem?_map]
  cases h : r[c]? with
  | none => simp
  | some q =>
    simp only [Option.map_some, Option.getD_some]
    exact wn_rat (den_dvd (List.mem_of_getElem? h))
theorem wn_len (r : List Rat) : (wn r).length = r.length := by simp [wn]
theorem wn_bd {r : List Rat} {n : Nat} (h : Szs n r) : ∀ x ∈ wn r, Bd (n + (1 + n * r.length)) x := by
  intro x hx
  obtain ⟨q, hq, rfl⟩ := List.mem_map.mp hx
  refine Bd.mul (h q hq).1 ?_
  refine La.div_bd ?_
  unfold Bd
  rw [Int.natAbs_natCast]
  exact wb_lt h
@[simp] theorem lcm_of {a b : Nat} (h1 : a.log2 < 13000) (h2 : b.log2 < 13000) : lcmF [.int (a : Nat), .int (b : Nat)] = some (.int (Nat.lcm a b : Nat)) := by
  simp [lcmF, h1, h2]
theorem whole_row_ok {r : List Rat} {n : Nat} {x : DV} {gh : List Ob} (hx : x = .lst (r.map rv) ∨ x = .tup (r.map rv)) (hr : Szs n r) (l : n + (1 + n * r.length) < 9000) (hl : r.length ≤ 1000) : f_whole_row [x] gh = .ok (.tup [intv (wn r), .int (wb r : Nat)]) gh := by
  have e0 : f_whole_row [x] gh = leave (b_whole_row ⟨[some x, none, none], [], gh⟩) := rfl
  rw [e0]
  unfold b_whole_row
  obtain ⟨st', g1, y, g2⟩ := for_ok (t := .one 2) (b := asgS (.one 1) (bltE lcmF [(var 1), (vw2 ixF (var 2) (cst (.int 1)))]))
    (s0 := ⟨[some x, some (.int 1), none], [], gh⟩) (gd := []) (ds := r.map rv) (fun i st => ∃ y, st = (⟨[some x, some (.int (wb (r.take i) : Nat)), y], [], gh⟩ : Sta)) (st := ⟨[some x, some (.int 1), none], [], gh⟩) ⟨none, rfl⟩
    (fun i d st hd ⟨y, hst⟩ => by
      subst hst
      rw [List.getElem?_map] at hd
      cases hri : r[i]? with
      | none => rw [hri] at hd; cases hd
      | some q =>
        rw [hri] at hd; cases hd
        have hq := hr.at hri
        have hi : i < r.length := (List.getElem?_eq_some_iff.mp hri).1
        have hp : Szs n (r.take i) := fun z hz => hr z (List.mem_of_mem_take hz)
        have l1 : (wb (r.take i)).log2 < 13000 := Nat.lt_of_lt_of_le (log2_lt (wb_lt hp) (by omega)) (by
          rw [List.length_take, Nat.min_eq_left (by omega)]
          have : n * i ≤ n * r.length := Nat.mul_le_mul_left _ (by omega)
          omega)
        have l2 : q.den.log2 < 13000 := Nat.lt_of_lt_of_le (log2_lt (n := n + 1) (Nat.lt_of_lt_of_le hq.2 (Nat.pow_le_pow_right (by decide) (by omega))) (by omega)) (by omega)
        have e : wb (r.take (i + 1)) = Nat.lcm (wb (r.take i)) q.den := by
          unfold wb
          rw [List.take_add_one, hri, List.foldl_append]
          rfl
        refine ⟨_, rfl, ⟨[some x, some (.int (wb (r.take (i + 1)) : Nat)), some (rv q)], [], gh⟩, .inl ?_, stays_nil _ _, some (rv q), rfl⟩
        rw [e]
        simp [lcm_of l1 l2])
  rw [List.length_map, List.take_length] at g2
  subst g2
  have hl' := lc_one (i := 2) (own := [2]) (f := vw2 mulF (vw2 ixF (var 2) (cst (.int 0))) (vw2 fdvF (var 1) (vw2 ixF (var 2) (cst (.int 1))))) (s0 := ⟨[some x, some (.int (wb r : Nat)), y], [], gh⟩) (gd := []) (r := r) (u := rv) (w := DV.int) (op := fun q => q.num * ((wb r : Int) / (q.den : Int))) (fun j q hq => by
    have hs := hr.at hq
    have d1 : divOk (q.den : Int) := divOk_bd (hs.den.mono (Nat.le_succ n)) (den_ne q) (by omega)
    have e1 : ((wb r : Nat) : Int).fdiv (q.den : Int) = (wb r : Int) / (q.den : Int) := Int.fdiv_eq_ediv_of_nonneg _ (by omega)
    have m1 : mulOk q.num ((wb r : Int) / (q.den : Int)) := mulOk_bd hs.1 (La.div_bd (n := 1 + n * r.length) (by unfold Bd; rw [Int.natAbs_natCast]; exact wb_lt hr)) (by omega)
    simp [fdv_ii d1, e1, mul_ii m1])
  simp only at hl'
  rcases hx with rfl | rfl
  · simp [g1, sl_of hl, sl_of (show 2 ≤ 1000 by decide), hl', wn]
  · simp [g1, sl_of hl, sl_of (show 2 ≤ 1000 by decide), hl', wn]
theorem made_small_ok {xs : List Int} {m : Nat} {gh : List Ob} (h : ∀ x ∈ xs, Bd m x) (l : m < 8999) (hl : xs.length ≤ 1000) : f_made_small [intv xs] gh = .ok (intv (La.sml (La.gcdF xs) xs)) gh := by
  have e0 : f_made_small [intv xs] gh = leave (b_made_small ⟨[some (intv xs), none, none], [], gh⟩) := rfl
  rw [e0]
  unfold b_made_small
  obtain ⟨st', g1, y, g2⟩ := for_ok (t := .one 2) (b := asgS (.one 1) (bltE gcdF [(var 1), (var 2)]))
    (s0 := ⟨[some (intv xs), some (.int 0), none], [], gh⟩) (gd := []) (ds := xs.map .int) (fun i st => ∃ y, st = (⟨[some (intv xs), some (.int (La.gcdF (xs.take i) : Nat)), y], [], gh⟩ : Sta)) (st := ⟨[some (intv xs), some (.int 0), none], [], gh⟩) ⟨none, rfl⟩
    (fun i d st hd ⟨y, hst⟩ => by
      subst hst
      rw [List.getElem?_map] at hd
      cases hri : xs[i]? with
      | none => rw [hri] at hd; cases hd
      | some q =>
        rw [hri] at hd; cases hd
        have e : La.gcdF (xs.take (i + 1)) = Nat.gcd (La.gcdF (xs.take i)) q.natAbs := by
          unfold La.gcdF
          rw [List.take_add_one, hri, List.foldl_append]
          rfl
        refine ⟨_, rfl, ⟨[some (intv xs), some (.int (La.gcdF (xs.take (i + 1)) : Nat)), some (.int q)], [], gh⟩, .inl ?_, stays_nil _ _, some (.int q), rfl⟩
        rw [e]
        simp)
  rw [List.length_map, List.take_length] at g2
  subst g2
  unfold La.sml
  by_cases hc : 1 < La.gcdF xs
  · have hc' : (1 : Int) < (La.gcdF xs : Int) := by omega
    have hl' := lc_one (i := 2) (own := [2]) (f := vw2 fdvF (var 2) (var 1)) (s0 := ⟨[some (intv xs), some (.int (La.gcdF xs : Nat)), y], [], gh⟩) (gd := []) (r := xs) (u := DV.int) (w := DV.int) (op := fun x => x / (La.gcdF xs : Int)) (fun j q hq => by
      have d1 : divOk ((La.gcdF xs : Nat) : Int) := by
        -- some number is not nought
        have hne : ∃ x ∈ xs, x ≠ 0 := Classical.byContradiction fun hno => by
          have hz : ∀ x ∈ xs, x = 0 := fun x hx => Classical.byContradiction fun z => hno ⟨x, hx, z⟩
          have : ∀ (ys : List Int) (g : Nat), (∀ y ∈ ys, y = 0) → ys.foldl (fun g x => Nat.gcd g x.natAbs) g = g := by
            intro ys
            induction ys with
            | nil => intro g _; rfl
            | cons y ys ih =>
              intro g hy
              rw [List.foldl_cons, hy y List.mem_cons_self]
              simp only [Int.natAbs_zero, Nat.gcd_zero_right]
              exact ih g fun z hz => hy z (List.mem_cons_of_mem _ hz)
          have := this xs 0 hz
          unfold La.gcdF at hc
          omega
        obtain ⟨x, hx, x0⟩ := hne
        have hd := La.gcdF_dvd xs 0 x hx
        have hle : La.gcdF xs ≤ x.natAbs := Nat.le_of_dvd (by omega) (Int.ofNat_dvd_left.mp hd)
        refine divOk_bd (n := m) ?_ (by omega) (by omega)
        have := h x hx
        unfold Bd at *
        rw [Int.natAbs_natCast]
        omega
      have e1 : q.fdiv ((La.gcdF xs : Nat) : Int) = q / (La.gcdF xs : Int) := Int.fdiv_eq_ediv_of_nonneg _ (by omega)
      simp [fdv_ii d1, e1])
    simp only at hl'
    rw [if_pos hc]
    simp [g1, hc, hc', sl_of hl, hl']
  · rw [if_neg hc]
    simp [g1, hc, show ¬ (1 : Int) < (La.gcdF xs : Int) by omega]
def ed (e : Nat × List Int) : DV := .tup [.int (e.1 : Nat), intv e.2]
@[simp] theorem sb_e : (Str.ofString "bottoms" = Str.ofString "echelon") = False := eq_false (by decide)
@[simp] theorem sb_1 : (Str.ofString "bottoms" = Str.ofString "many") = False := eq_false (by decide)
@[simp] theorem sb_2 : (Str.ofString "bottoms" = Str.ofString "led_down") = False := eq_false (by decide)
@[simp] theorem se_1 : (Str.ofString "echelon" = Str.ofString "many") = False := eq_false (by decide)
@[simp] theorem se_2 : (Str.ofString "echelon" = Str.ofString "led_down") = False := eq_false (by decide)
@[simp] theorem sb_3 : (Str.ofString "bottoms" = Str.ofString "put") = False := eq_false (by decide)
@[simp] theorem se_3 : (Str.ofString "echelon" = Str.ofString "put") = False := eq_false (by decide)
@[simp] theorem sb_4 : (Str.ofString "bottoms" = Str.ofString "factors") = False := eq_false (by decide)
@[simp] theorem se_4 : (Str.ofString "echelon" = Str.ofString "factors") = False := eq_false (by decide)
structure Hold (gh : List Ob) (b : Nat) (bots : List Nat) (es : List (Nat × List Int)) : Prop where
  i : gh[b]? = some (.ins "RowBasis" ["bottoms", "echelon"] [.glb (b + 1), .glb (b + 2)])
  b1 : gh[b + 1]? = some (.lst (bots.map fun n => .int (n : Nat)))
  b2 : gh[b + 2]? = some (.lst (es.map ed))
  len : bots.length = es.length
theorem init_ok {gh : List Ob} {st : Sta} (h : st.gh = gh) : makE "RowBasis" f_RowBasis_init nilE st = .ok (.glb gh.length) { st with gh := gh ++ [.ins "RowBasis" ["bottoms", "echelon"] [.glb (gh.length + 1), .glb (gh.length + 2)], .lst [], .lst []] } := by
  subst h
  have hne : ¬ (Str.ofString "bottoms" = Str.ofString "echelon") := by decide
  simp [f_RowBasis_init, runF, entry, b_RowBasis_init, fPut, List.getElem?_append_right, List.set_append_right, hne]
theorem Hold.new (gh : List Ob) : Hold (gh ++ [.ins "RowBasis" ["bottoms", "echelon"] [.glb (gh.length + 1), .glb (gh.length + 2)], .lst [], .lst []]) gh.length [] [] where
  i := by simp
  b1 := by simp [List.getElem?_append_right]
  b2 := by simp [List.getElem?_append_right]
  len := rfl
theorem many_ok {gh : List Ob} {b : Nat} {bots : List Nat} {es : List (Nat × List Int)} (H : Hold gh b bots es) : f_RowBasis_many [.glb b] gh = .ok (.int (bots.length : Nat)) gh := by
  simp [f_RowBasis_many, runF, entry, b_RowBasis_many, H.i, H.b1, fGet]
theorem zeros (n : Nat) : (List.replicate n [DV.int 0]).flatten = (List.replicate n (0 : Int)).map .int := by
  induction n with
  | zero => rfl
  | succ n ih => rw [List.replicate_succ, List.flatten_cons, ih, List.replicate_succ]; rfl
theorem mul_zeros {n : Nat} (h : n ≤ 1000) : mulF (.lst [.int 0]) (.int (n : Nat)) = some (intv (List.replicate n 0)) := by
  have : n ≤ sizeLine := sl_of h
  have h2 : (n : Int) < 2 ^ 63 := by omega
  simp only [mulF]
  rw [if_pos ⟨by omega, h2, by simpa using this⟩, Int.toNat_natCast, zeros]
theorem add_int {a b : List Int} (h : a.length + b.length ≤ 1000) : addF (intv a) (intv b) = some (intv (a ++ b)) := by
  have : a.length + b.length ≤ sizeLine := sl_of h
  simp only [addF, intv, List.length_map]
  rw [if_pos this, List.map_append]
theorem ix_int {f : List Int} {k : Nat} (h : k < f.length) : ixF (intv f) (.int (k : Nat)) = some (.int (f.getD k 0)) := by
  obtain ⟨d, h1, h2, h3⟩ := at_nat (ds := f.map .int) (r := (k : Int)) (by omega) (by simpa using h)
  rw [show intv f = .lst (f.map .int) from rfl, h2]
  rw [Int.toNat_natCast, List.getElem?_map, List.getElem?_eq_getElem h] at h1
  rw [List.getD_eq_getElem?_getD, List.getElem?_eq_getElem h]
  exact h1.symm
theorem istep_len {e : Nat × List Int} {f : List Int} (h : e.2.length ≤ f.length) : (La.istep e f).length = f.length := by
  unfold La.istep
  split
  · rfl
  · have hs : ∀ (g : Nat) (xs : List Int), (La.sml g xs).length = xs.length := fun g xs => by unfold La.sml; split <;> simp
    simp only [hs]
    exact La.raw_len h
theorem led_len {n : Nat} : ∀ (es : List (Nat × List Int)) (f : List Int), f.length = n → (∀ e ∈ es, e.2.length ≤ n) → (La.led es f).length = n
  | [], f, h, _ => h
  | e :: es, f, h, he => by
    have := istep_len (e := e) (f := f) (by rw [h]; exact he e List.mem_cons_self)
    exact led_len es _ (this.trans h) fun x hx => he x (List.mem_cons_of_mem _ hx)
theorem cut_to {f : List Int} {n : Nat} (h : n ≤ f.length) : slF none (some (n : Int)) (intv f) = some (intv (f.take n)) := by
  simp only [slF, cutD, intv, List.length_map, HT.sIx_none, HT.sIx_nat]
  rw [Nat.min_eq_left h]
  simp [List.map_take]
theorem cut_from {f : List Int} {n : Nat} (h : n ≤ f.length) : slF (some (n : Int)) none (intv f) = some (intv (f.drop n)) := by
  simp only [slF, cutD, intv, List.length_map, HT.sIx_none, HT.sIx_nat]
  rw [Nat.min_eq_left h, List.take_of_length_le (by simp)]
  simp [List.map_drop]
theorem ne_ii (i j : Int) : neF (.int i) (.int j) = some (.bl (decide (i ≠ j))) := by
  have := eq_ii i j
  unfold eqF at this
  unfold neF
  cases h : eqB (.int i) (.int j) with
  | none => rw [h] at this; cases this
  | some b =>
    rw [h] at this
    simp at this
    simp [this]
theorem neg1 : (-1 : Int) < 0 := by decide
theorem cut_last {ds : List DV} {d : DV} : slF none (some (-1)) (.lst (ds ++ [d])) = some (.lst ds) := by
  have e : HT.sIx (ds ++ [d]).length (ds ++ [d]).length (some (-1)) = ds.length := by
    unfold HT.sIx
    simp only
    rw [if_pos neg1, List.length_append, List.length_singleton]
    omega
  simp only [slF, cutD, HT.sIx_none]
  rw [e]
  simp
theorem ix_last {ds : List DV} {d : DV} : ixF (.lst (ds ++ [d])) (.int (-1)) = some d := by
  show atI (ds ++ [d]) (-1) = some d
  unfold atI ixN
  rw [if_neg (by decide), if_pos (by rw [List.length_append, List.length_singleton]; omega)]
  simp only [Option.bind_some]
  rw [show ((-1 : Int) + (((ds ++ [d]).length : Nat) : Int)).toNat = ds.length by rw [List.length_append, List.length_singleton]; omega]
  simp
theorem gcd_bd {n : Nat} {a : Int} (h : Bd n a) (h0 : a ≠ 0) (b : Int) : Bd n ((Nat.gcd a.natAbs b.natAbs : Nat) : Int) := by
  have : Nat.gcd a.natAbs b.natAbs ≤ a.natAbs := Nat.le_of_dvd (by omega) (Nat.gcd_dvd_left _ _)
  unfold Bd at *
  rw [Int.natAbs_natCast]
  exact Nat.lt_of_le_of_lt this h
theorem Bd.zero (n : Nat) : Bd n 0 := Nat.two_pow_pos n
abbrev start (w : List Int) (n : Nat) : List Int := w ++ List.replicate n 0 ++ [1]
noncomputable def lb : Sm := (ifS (vw2 neF (vw2 ixF (var 3) (var 4)) (cst (.int 0)))
 (seqS (asgS (.one 6) (bltE gcdF [(vw2 ixF (var 3) (var 4)), (vw2 ixF (var 5) (var 4))]))
  (seqS (parS [7, 8] [(vw2 fdvF (vw2 ixF (var 5) (var 4)) (var 6)), (vw2 fdvF (vw2 ixF (var 3) (var 4)) (var 6))])
  (seqS (asgS (.one 5) (vw2 addF (var 5) (vw2 mulF (lstE .val (consE (cst (.int 0)) nilE)) (vw2 subF (bltE lenF [(var 3)]) (bltE lenF [(var 5)])))))
  (asgS (.one 3) (calD f_made_small (consE (lcE .val (.many [9, 10]) [9, 10] (zipI true (var 3) (var 5)) (cst (.bl true)) (vw2 subF (vw2 mulF (var 9) (var 7)) (vw2 mulF (var 10) (var 8)))) nilE))))))
 pasS)
theorem step_zero {gh : List Ob} {b p : Nat} {v f : List Int} {x y y6 y7 y8 : Option DV} (l1 : p < f.length) (hz : f.getD p 0 = 0) : lb ⟨[some (.glb b), x, y, some (intv f), some (.int (p : Nat)), some (intv v), y6, y7, y8, none, none], [], gh⟩ = .ok .nx ⟨[some (.glb b), x, y, some (intv f), some (.int (p : Nat)), some (intv v), y6, y7, y8, none, none], [], gh⟩ := by
  have x1 := ix_int l1
  rw [hz] at x1
  have := ne_ii 0 0
  unfold lb
  simp [x1, this]
theorem vw2_at {r : DV → DV → Option DV} {f g : Ex} {st s s' : Sta} {a b d : DV} (h1 : f st = .ok a s) (h2 : g s = .ok b s') (h3 : r (look s' a) (look s' b) = some d) : vw2 r f g st = .ok d s' := by
  simp only [ap_vw2, h1, h2, h3, Out.bind, optO]
theorem vw2_st {r : DV → DV → Option DV} {f g : Ex} {st : Sta} {a b d : DV} (h1 : f st = .ok a st) (h2 : g st = .ok b st) (h3 : r (look st a) (look st b) = some d) : vw2 r f g st = .ok d st := vw2_at h1 h2 h3
theorem step_some {gh : List Ob} {b p m n : Nat} {v f : List Int} {x y y6 y7 y8 : Option DV} (p1 : p < v.length) (p2 : v.length ≤ f.length) (hL : f.length ≤ 1000) (hm : m + n < 8998) (hfb : ∀ x ∈ f, Bd m x) (p3 : ∀ x ∈ v, Bd n x) (hz : ¬ f.getD p 0 = 0) :
    ∃ y5 y6' y7' y8', lb ⟨[some (.glb b), x, y, some (intv f), some (.int (p : Nat)), some (intv v), y6, y7, y8, none, none], [], gh⟩ = .ok .nx ⟨[some (.glb b), x, y, some (intv (La.istep (p, v) f)), some (.int (p : Nat)), y5, y6', y7', y8', none, none], [], gh⟩ := by
  have x1 := ix_int (f := f) (k := p) (by omega)
  have x2 := ix_int (f := v) (k := p) p1
  have hn : neF (.int (f.getD p 0)) (.int 0) = some (.bl true) := by rw [ne_ii, decide_eq_true (show f.getD p 0 ≠ 0 from hz)]
  have hg0 : Nat.gcd (f.getD p 0).natAbs (v.getD p 0).natAbs ≠ 0 := fun z => hz (by have := (Nat.gcd_eq_zero_iff.mp z).1; omega)
  have hgd := gcd_bd (La.getD_bd hfb p) hz (v.getD p 0)
  have hdv : divOk ((Nat.gcd (f.getD p 0).natAbs (v.getD p 0).natAbs : Nat) : Int) := divOk_bd hgd (by omega) (by omega)
  have q1 : (f.getD p 0).fdiv ((Nat.gcd (f.getD p 0).natAbs (v.getD p 0).natAbs : Nat) : Int) = f.getD p 0 / La.partOf p v f := Int.fdiv_eq_ediv_of_nonneg _ (by omega)
  have q2 : (v.getD p 0).fdiv ((Nat.gcd (f.getD p 0).natAbs (v.getD p 0).natAbs : Nat) : Int) = v.getD p 0 / La.partOf p v f := Int.fdiv_eq_ediv_of_nonneg _ (by omega)
  have b1 : Bd n (v.getD p 0 / La.partOf p v f) := La.div_bd (La.getD_bd p3 p)
  have b2 : Bd m (f.getD p 0 / La.partOf p v f) := La.div_bd (La.getD_bd hfb p)
  have hstep : La.istep (p, v) f = La.sml (La.gcdF (La.raw p v f (v.getD p 0 / La.partOf p v f) (f.getD p 0 / La.partOf p v f))) (La.raw p v f (v.getD p 0 / La.partOf p v f) (f.getD p 0 / La.partOf p v f)) := by
    unfold La.istep
    rw [if_neg hz]
  have hms := made_small_ok (gh := gh) (La.raw_bd (p := p) hfb p3 b1 b2) (by omega) (by rw [La.raw_len (by omega)]; omega)
  rw [hstep]
  generalize v.getD p 0 / La.partOf p v f = one at *
  generalize f.getD p 0 / La.partOf p v f = other at *
  have m1 := mul_zeros (n := f.length - v.length) (by omega)
  have m0 : (f.length : Int) - (v.length : Int) = ((f.length - v.length : Nat) : Int) := by omega
  have a1 := add_int (a := v) (b := List.replicate (f.length - v.length) 0) (by simp; omega)
  have hwl : v.length + (f.length - v.length) = f.length := by omega
  have hlc := lc_zip (i := 9) (j := 10) (own := [9, 10]) (f := vw2 subF (vw2 mulF (var 9) (var 7)) (vw2 mulF (var 10) (var 8))) (s0 := ⟨[some (.glb b), x, y, some (intv f), some (.int (p : Nat)), some (intv (v ++ List.replicate (f.length - v.length) 0)), some (.int (Nat.gcd (f.getD p 0).natAbs (v.getD p 0).natAbs : Nat)), some (.int one), some (.int other), none, none], [], gh⟩) (gd := []) (r := f) (s := v ++ List.replicate (f.length - v.length) 0) (u := DV.int) (v := DV.int) (w := DV.int) (op := fun a b => a * one - b * other) (fun k a b' ha hb' => by
    have ba := hfb a (List.mem_of_getElem? ha)
    have bb : Bd n b' := by
      rcases List.mem_append.mp (List.mem_of_getElem? hb') with z | z
      · exact p3 b' z
      · rw [(List.mem_replicate.mp z).2]; exact Bd.zero _
    have k1 := mul_ii (mulOk_bd ba b1 (by omega))
    have k2 := mul_ii (mulOk_bd bb b2 (by omega))
    simp [k1, k2])
  have hwl' : zipL (f.map DV.int) ((v ++ List.replicate (f.length - v.length) 0).map DV.int) = zipL (f.map DV.int) ((v ++ List.replicate (f.length - v.length) 0).map DV.int) := rfl
  refine ⟨some (intv (v ++ List.replicate (f.length - v.length) 0)), some (.int (Nat.gcd (f.getD p 0).natAbs (v.getD p 0).natAbs : Nat)), some (.int one), some (.int other), ?_⟩
  simp only at hlc
  have hraw : List.zipWith (fun a b => a * one - b * other) f (v ++ List.replicate (f.length - v.length) 0) = La.raw p v f one other := rfl
  rw [hraw] at hlc
  have hrl : (La.raw p v f one other).length ≤ sizeLine := sl_of (by rw [La.raw_len (by omega)]; omega)
  have hzl : (zipL (f.map DV.int) ((v ++ List.replicate (f.length - v.length) 0).map DV.int)).length ≤ sizeLine := sl_of (by simp [zipL]; omega)
  have hl1 : 1 ≤ sizeLine := sl_of (show 1 ≤ 1000 by decide)
  have hul : (v ++ List.replicate (f.length - v.length) 0).length = f.length := by simp; omega
  have hll : (intv (v ++ List.replicate (f.length - v.length) 0)) = .lst ((v ++ List.replicate (f.length - v.length) 0).map DV.int) := rfl
  clear hfb p3 hz
  generalize v ++ List.replicate (f.length - v.length) 0 = u at *
  generalize La.sml (La.gcdF (La.raw p v f one other)) (La.raw p v f one other) = g at *
  generalize La.raw p v f one other = w at *
  generalize f.getD p 0 = fp at *
  generalize v.getD p 0 = vp at *
  have s1 : asgS (.one 6) (bltE gcdF [(vw2 ixF (var 3) (var 4)), (vw2 ixF (var 5) (var 4))]) ⟨[some (.glb b), x, y, some (intv f), some (.int (p : Nat)), some (intv v), y6, y7, y8, none, none], [], gh⟩ = .ok .nx ⟨[some (.glb b), x, y, some (intv f), some (.int (p : Nat)), some (intv v), some (.int (Nat.gcd fp.natAbs vp.natAbs : Nat)), y7, y8, none, none], [], gh⟩ := by
    simp [x1, x2]
  have s2 : parS [7, 8] [(vw2 fdvF (vw2 ixF (var 5) (var 4)) (var 6)), (vw2 fdvF (vw2 ixF (var 3) (var 4)) (var 6))] ⟨[some (.glb b), x, y, some (intv f), some (.int (p : Nat)), some (intv v), some (.int (Nat.gcd fp.natAbs vp.natAbs : Nat)), y7, y8, none, none], [], gh⟩ = .ok .nx ⟨[some (.glb b), x, y, some (intv f), some (.int (p : Nat)), some (intv v), some (.int (Nat.gcd fp.natAbs vp.natAbs : Nat)), some (.int one), some (.int other), none, none], [], gh⟩ := by
    simp [x1, x2, fdv_ii hdv, q1, q2]
  have s3 : asgS (.one 5) (vw2 addF (var 5) (vw2 mulF (lstE .val (consE (cst (.int 0)) nilE)) (vw2 subF (bltE lenF [(var 3)]) (bltE lenF [(var 5)])))) ⟨[some (.glb b), x, y, some (intv f), some (.int (p : Nat)), some (intv v), some (.int (Nat.gcd fp.natAbs vp.natAbs : Nat)), some (.int one), some (.int other), none, none], [], gh⟩ = .ok .nx ⟨[some (.glb b), x, y, some (intv f), some (.int (p : Nat)), some (intv u), some (.int (Nat.gcd fp.natAbs vp.natAbs : Nat)), some (.int one), some (.int other), none, none], [], gh⟩ := by
    have k1 : vw2 mulF (lstE .val (consE (cst (.int 0)) nilE)) (vw2 subF (bltE lenF [(var 3)]) (bltE lenF [(var 5)])) ⟨[some (.glb b), x, y, some (intv f), some (.int (p : Nat)), some (intv v), some (.int (Nat.gcd fp.natAbs vp.natAbs : Nat)), some (.int one), some (.int other), none, none], [], gh⟩ = .ok (intv (List.replicate (f.length - v.length) 0)) ⟨[some (.glb b), x, y, some (intv f), some (.int (p : Nat)), some (intv v), some (.int (Nat.gcd fp.natAbs vp.natAbs : Nat)), some (.int one), some (.int other), none, none], [], gh⟩ := vw2_st (a := .lst [.int 0]) (b := .int ((f.length - v.length : Nat) : Int)) (by simp [hl1]) (by simp [m0]) m1
    have k2 := vw2_st (r := addF) (f := var 5) (a := intv v) (b := intv (List.replicate (f.length - v.length) 0)) rfl k1 a1
    simp only [ap_asg, k2]
    simp
  have s4 : asgS (.one 3) (calD f_made_small (consE (lcE .val (.many [9, 10]) [9, 10] (zipI true (var 3) (var 5)) (cst (.bl true)) (vw2 subF (vw2 mulF (var 9) (var 7)) (vw2 mulF (var 10) (var 8)))) nilE)) ⟨[some (.glb b), x, y, some (intv f), some (.int (p : Nat)), some (intv u), some (.int (Nat.gcd fp.natAbs vp.natAbs : Nat)), some (.int one), some (.int other), none, none], [], gh⟩ = .ok .nx ⟨[some (.glb b), x, y, some (intv g), some (.int (p : Nat)), some (intv u), some (.int (Nat.gcd fp.natAbs vp.natAbs : Nat)), some (.int one), some (.int other), none, none], [], gh⟩ := by
    simp [hul, hlc, hms, hzl, hrl]
  have s0 : vw2 neF (vw2 ixF (var 3) (var 4)) (cst (.int 0)) ⟨[some (.glb b), x, y, some (intv f), some (.int (p : Nat)), some (intv v), y6, y7, y8, none, none], [], gh⟩ = .ok (.bl true) ⟨[some (.glb b), x, y, some (intv f), some (.int (p : Nat)), some (intv v), y6, y7, y8, none, none], [], gh⟩ := vw2_st (a := .int fp) (b := .int 0) (by simp [x1]) rfl hn
  unfold lb
  simp only [ap_if, s0, ap_seq, s1, s2, s3, s4, Out.bind]
theorem led_down_ok {gh : List Ob} {b : Nat} {bots : List Nat} {es : List (Nat × List Int)} {w : List Int} (H : Hold gh b bots es) (hL : w.length + es.length < 500)
    (hb : ∀ i e, es[i]? = some e → ∃ m n, m + n < 8998 ∧ (∀ x ∈ La.led (es.take i) (start w es.length), Bd m x) ∧ ∀ x ∈ e.2, Bd n x)
    (he : ∀ e ∈ es, e.1 < e.2.length ∧ e.2.length ≤ w.length + es.length + 1) :
    f_RowBasis_led_down [.glb b, intv w] gh = .ok (.tup [intv ((La.led es (start w es.length)).take w.length), intv ((La.led es (start w es.length)).drop w.length)]) gh := by
  have e0 : f_RowBasis_led_down [.glb b, intv w] gh = leave (b_RowBasis_led_down ⟨[some (.glb b), some (intv w), none, none, none, none, none, none, none, none, none], [], gh⟩) := rfl
  rw [e0]
  have eb : b_RowBasis_led_down = seqS (asgS (.one 2) (bltE lenF [(var 1)])) (seqS (asgS (.one 3) (vw2 addF (vw2 addF (var 1) (vw2 mulF (lstE .val (consE (cst (.int 0)) nilE)) (metE "RowBasis" "many" f_RowBasis_many (var 0) nilE))) (lstE .val (consE (cst (.int 1)) nilE)))) (seqS (forS (.many [4, 5]) (seqI (fldE ["RowBasis"] "echelon" (var 0))) lb) (retS (tupE (consE (slE (var 3) none (some (var 2))) (consE (slE (var 3) (some (var 2)) none) nilE)))))) := rfl
  rw [eb]
  have hmany := many_ok H
  rw [H.len] at hmany
  have hst : (start w es.length).length = w.length + es.length + 1 := by simp [start]; omega
  have hle : ∀ i, (La.led (es.take i) (start w es.length)).length = w.length + es.length + 1 := fun i => led_len _ _ hst fun e h => (he e (List.mem_of_mem_take h)).2
  obtain ⟨st', g1, y4, y5, y6, y7, y8, g2⟩ := for_ok (t := .many [4, 5]) (b := lb)
    (s0 := ⟨[some (.glb b), some (intv w), some (.int (w.length : Nat)), some (intv (start w es.length)), none, none, none, none, none, none, none], [], gh⟩) (gd := [.glb (b + 2)]) (ds := es.map ed)
    (fun i st => ∃ y4 y5 y6 y7 y8, st = (⟨[some (.glb b), some (intv w), some (.int (w.length : Nat)), some (intv (La.led (es.take i) (start w es.length))), y4, y5, y6, y7, y8, none, none], [], gh⟩ : Sta))
    (st := ⟨[some (.glb b), some (intv w), some (.int (w.length : Nat)), some (intv (start w es.length)), none, none, none, none, none, none, none], [], gh⟩) ⟨none, none, none, none, none, rfl⟩
    (fun i d st hd ⟨y4, y5, y6, y7, y8, hst⟩ => by
      subst hst
      rw [List.getElem?_map] at hd
      cases hri : es[i]? with
      | none => rw [hri] at hd; cases hd
      | some e =>
        rw [hri] at hd; cases hd
        obtain ⟨p1, p2⟩ := he e (List.mem_of_getElem? hri)
        obtain ⟨m, n, hM, hfb, p3⟩ := hb i e hri
        have hi : i < es.length := (List.getElem?_eq_some_iff.mp hri).1
        have hfl := hle i
        have e1 : La.led (es.take (i + 1)) (start w es.length) = La.istep e (La.led (es.take i) (start w es.length)) := by
          rw [List.take_add_one, hri, Option.toList_some, La.led_snoc]
        rw [e1]
        generalize La.led (es.take i) (start w es.length) = f at hfb hfl ⊢
        obtain ⟨p, v⟩ := e
        simp only at p1 p2
        refine ⟨⟨[some (.glb b), some (intv w), some (.int (w.length : Nat)), some (intv f), some (.int (p : Nat)), some (intv v), y6, y7, y8, none, none], [], gh⟩, by simp [ed], ?_⟩
        by_cases hz : f.getD p 0 = 0
        · rw [La.istep_same hz]
          exact ⟨_, .inl (step_zero (by omega) hz), stays_same rfl rfl, _, _, _, _, _, rfl⟩
        · obtain ⟨y5', y6', y7', y8', hs⟩ := step_some (gh := gh) (b := b) (x := some (intv w)) (y := some (.int (w.length : Nat))) (y6 := y6) (y7 := y7) (y8 := y8) (v := v) (f := f) p1 (by omega) (by omega) hM hfb p3 hz
          exact ⟨_, .inl hs, stays_same rfl rfl, _, y5', y6', y7', y8', rfl⟩)
  rw [List.length_map, List.take_length] at g2
  subst g2
  have t1 := cut_to (f := La.led es (start w es.length)) (n := w.length) (by have := hle es.length; rw [List.take_length] at this; omega)
  have t2 := cut_from (f := La.led es (start w es.length)) (n := w.length) (by have := hle es.length; rw [List.take_length] at this; omega)
  have a1 := add_int (a := w) (b := List.replicate es.length 0) (by simp; omega)
  have a2 : addF (intv (w ++ List.replicate es.length 0)) (.lst [.int 1]) = some (intv (start w es.length)) := add_int (a := w ++ List.replicate es.length 0) (b := [1]) (by simp; omega)
  have m1 := mul_zeros (n := es.length) (by omega)
  have hl1 : 1 ≤ sizeLine := sl_of (show 1 ≤ 1000 by decide)
  have k0 : metE "RowBasis" "many" f_RowBasis_many (var 0) nilE ⟨[some (.glb b), some (intv w), some (.int (w.length : Nat)), none, none, none, none, none, none, none, none], [], gh⟩ = .ok (.int (es.length : Nat)) ⟨[some (.glb b), some (intv w), some (.int (w.length : Nat)), none, none, none, none, none, none, none, none], [], gh⟩ := by
    simp [H.i, fGet, metO, hmany]
  have k1 := vw2_st (r := mulF) (f := lstE .val (consE (cst (.int 0)) nilE)) (a := .lst [.int 0]) (by simp [hl1]) k0 m1
  have k2 := vw2_st (r := addF) (f := var 1) (a := intv w) (b := intv (List.replicate es.length 0)) rfl k1 a1
  have k3 := vw2_st (r := addF) (g := lstE .val (consE (cst (.int 1)) nilE)) (b := .lst [.int 1]) k2 (by simp [hl1]) a2
  have s3 := ap_asg (.one 3) (vw2 addF (vw2 addF (var 1) (vw2 mulF (lstE .val (consE (cst (.int 0)) nilE)) (metE "RowBasis" "many" f_RowBasis_many (var 0) nilE))) (lstE .val (consE (cst (.int 1)) nilE))) ⟨[some (.glb b), some (intv w), some (.int (w.length : Nat)), none, none, none, none, none, none, none, none], [], gh⟩
  rw [k3] at s3
  have s2 : asgS (.one 2) (bltE lenF [(var 1)]) ⟨[some (.glb b), some (intv w), none, none, none, none, none, none, none, none, none], [], gh⟩ = .ok .nx ⟨[some (.glb b), some (intv w), some (.int (w.length : Nat)), none, none, none, none, none, none, none, none], [], gh⟩ := by simp
  have s4 : forS (.many [4, 5]) (seqI (fldE ["RowBasis"] "echelon" (var 0))) lb ⟨[some (.glb b), some (intv w), some (.int (w.length : Nat)), some (intv (start w es.length)), none, none, none, none, none, none, none], [], gh⟩ = .ok .nx ⟨[some (.glb b), some (intv w), some (.int (w.length : Nat)), some (intv (La.led es (start w es.length))), y4, y5, y6, y7, y8, none, none], [], gh⟩ := by
    clear hb hle hst t1 t2 a2 k3 s3
    generalize start w es.length = s0 at *
    simp [H.i, H.b2, fGet, g1]
  rw [ap_seq, s2]
  simp only [Out.bind]
  rw [ap_seq, s3]
  simp only [Out.bind, ap_one, ap_setE, List.set]
  rw [ap_seq, s4]
  simp [-List.append_assoc, -List.map_replicate, -List.map_append, -List.map_take, -List.map_drop, sl_of (show 2 ≤ 1000 by decide), t1, t2]
end K07
end
section
set_option Elab.async false
set_option linter.all false
set_option maxRecDepth 100000
set_option exponentiation.threshold 20000
namespace K07
open PySem L2 Cv
def fn (r : List Rat) : La.F := fun c => r.getD c 0
theorem wn_fn (r : List Rat) : La.nth (wn r) = fun c => (wb r : Rat) * fn r c := funext fun _ => wn_nth
def tot (β : Nat) : Nat → Nat
  | 0 => 0
  | j + 1 => tot β j + (β + tot β j + 1)
theorem tot_mono (β : Nat) {i : Nat} : ∀ {j : Nat}, i ≤ j → tot β i ≤ tot β j
  | 0, h => by rw [Nat.le_zero.mp h]; exact Nat.le_refl _
  | j + 1, h => by
    by_cases e : i = j + 1
    · rw [e]; exact Nat.le_refl _
    · have := tot_mono β (i := i) (j := j) (by omega)
      rw [tot]
      omega
theorem tot_sum (β : Nat) : ∀ i, ((List.range i).map fun j => (β + tot β j) + 1).sum = tot β i
  | 0 => rfl
  | i + 1 => by
    rw [List.range_succ, List.map_append, List.sum_append, tot_sum β i]
    simp [tot]
structure Bas (β long : Nat) (kept : List (List Rat)) (ls : List (Nat × La.F)) (es : List (Nat × List Int)) (bots : List Nat) : Prop where
  len : ∀ r ∈ kept, r.length = long
  E : La.Ech ls (kept.map fn)
  sup : ∀ l ∈ ls, ∀ c, long ≤ c → l.2 c = 0
  O : La.EOk long (fun k => La.nth (wn (kept.getD k []))) ls es
  bt : bots = kept.map wb
  bits : ∀ (j : Nat) e, es[j]? = some e → ∀ x ∈ e.2, Bd (β + tot β j) x
  wbit : ∀ r ∈ kept, wb r < 2 ^ β
  wnb : ∀ r ∈ kept, ∀ x ∈ wn r, Bd β x
theorem Bas.nil (β long : Nat) : Bas β long [] [] [] [] := ⟨by simp, La.Ech.nil, by simp, ⟨rfl, fun j e l h => by simp at h⟩, rfl, by simp, by simp, by simp⟩
theorem Bas.n {β long : Nat} {kept : List (List Rat)} {ls : List (Nat × La.F)} {es : List (Nat × List Int)} {bots : List Nat} (B : Bas β long kept ls es bots) : es.length = kept.length := by
  have := B.E.len
  rw [List.length_map] at this
  rw [B.O.len, this]
theorem start_lo {w : List Int} {n c : Nat} (h : c < w.length) : La.nth (start w n) c = La.nth w c := by
  unfold La.nth start
  rw [List.getD_eq_getElem?_getD, List.getD_eq_getElem?_getD, List.append_assoc, List.getElem?_append_left h]
theorem start_mid {w : List Int} {n k : Nat} (h : k < n) : La.nth (start w n) (w.length + k) = 0 := by
  unfold La.nth start
  rw [List.getD_eq_getElem?_getD, List.append_assoc, List.getElem?_append_right (by omega), List.getElem?_append_left (by simp; omega), List.getElem?_replicate, if_pos (by omega)]
  rfl
theorem start_hi {w : List Int} {n : Nat} : La.nth (start w n) (w.length + n) = 1 := by
  unfold La.nth start
  rw [List.getD_eq_getElem?_getD, List.append_assoc, List.getElem?_append_right (by omega), List.getElem?_append_right (by simp)]
  simp
theorem sm_zero {g : Nat → Rat} : ∀ n, (∀ k, k < n → g k = 0) → La.sm n g = 0
  | 0, _ => rfl
  | n + 1, h => by rw [La.sm, sm_zero n fun k hk => h k (by omega), h n (by omega), Rat.add_zero]
theorem Bas.inv {β long : Nat} {kept : List (List Rat)} {ls : List (Nat × La.F)} {es : List (Nat × List Int)} {bots : List Nat} (B : Bas β long kept ls es bots) {r : List Rat} (hr : r.length = long) :
    La.Inv long es.length (fun k => La.nth (wn (kept.getD k []))) (La.nth (wn r)) ls (La.led es (start (wn r) es.length)) := by
  have hw : (wn r).length = long := (wn_len r).trans hr
  have := La.Inv.run (w := La.nth (wn r)) (f := start (wn r) es.length) B.O rfl B.E ⟨by simp [start, hw]; omega, by rw [← hw, start_hi]; decide, fun c hc => by
      rw [start_lo (by omega), ← hw, start_hi, Rat.one_mul]
      rfl, fun c hc => by
      rw [start_lo (by omega), sm_zero _ fun k hk => by rw [← hw, start_mid hk, Rat.zero_mul]]
      rw [← hw, start_hi, Rat.one_mul, Rat.zero_add]⟩ es.length (Nat.le_refl _)
  rwa [List.take_length, show ls.take es.length = ls by rw [B.O.len, List.take_length]] at this
theorem start_bd {w : List Int} {n m : Nat} (h : ∀ x ∈ w, Bd m x) (h0 : 1 ≤ m) : ∀ x ∈ start w n, Bd m x := by
  intro x hx
  unfold start at hx
  rcases List.mem_append.mp hx with z | z
  · rcases List.mem_append.mp z with y | y
    · exact h x y
    · rw [(List.mem_replicate.mp y).2]; exact Bd.zero _
  · rw [List.mem_singleton.mp z]
    exact (show Bd 1 1 by unfold Bd; decide).mono h0
theorem Bas.bd {β long : Nat} {kept : List (List Rat)} {ls : List (Nat × La.F)} {es : List (Nat × List Int)} {bots : List Nat} (B : Bas β long kept ls es bots) {w : List Int} {m : Nat} (hw : ∀ x ∈ w, Bd m x) (h0 : 1 ≤ m) {i : Nat} (hi : i ≤ es.length) : ∀ x ∈ La.led (es.take i) (start w es.length), Bd (m + tot β i) x := by
  have := La.led_bd (b := fun j => β + tot β j) (start_bd (n := es.length) hw h0) (fun j e he => B.bits j e he) i hi
  rwa [tot_sum] at this
theorem Bas.down {β long : Nat} {kept : List (List Rat)} {ls : List (Nat × La.F)} {es : List (Nat × List Int)} {bots : List Nat} (B : Bas β long kept ls es bots) {gh : List Ob} {b : Nat} (H : Hold gh b bots es) {r : List Rat} (hr : r.length = long) {m : Nat} (hw : ∀ x ∈ wn r, Bd m x) (h0 : 1 ≤ m) (hm : m + tot β es.length < 8999) (hL : long + es.length < 500) :
    f_RowBasis_led_down [.glb b, intv (wn r)] gh = .ok (.tup [intv ((La.led es (start (wn r) es.length)).take long), intv ((La.led es (start (wn r) es.length)).drop long)]) gh := by
  have hwl : (wn r).length = long := (wn_len r).trans hr
  have := led_down_ok (w := wn r) H (by omega) (fun i e he => by
    have hi : i < es.length := (List.getElem?_eq_some_iff.mp he).1
    refine ⟨m + tot β i, β + tot β i, ?_, B.bd hw h0 (by omega), B.bits i e he⟩
    have := tot_mono β (i := i + 1) (j := es.length) (by omega)
    rw [tot] at this
    omega) (fun e he => by
    obtain ⟨j, hj⟩ := List.mem_iff_getElem?.mp he
    have hi : j < es.length := (List.getElem?_eq_some_iff.mp hj).1
    obtain ⟨_, q1, q2, _⟩ := B.O.at_ j e _ hj (List.getElem?_eq_getElem (by rw [← B.O.len]; exact hi))
    omega)
  rwa [hwl] at this
theorem red_wn (ls : List (Nat × La.F)) (r : List Rat) : La.red ls (La.nth (wn r)) = fun c => (wb r : Rat) * La.red ls (fn r) c := by
  rw [wn_fn, La.red_smul]
theorem wb_ne (r : List Rat) : (wb r : Rat) ≠ 0 := La.rat_ne (i := (wb r : Int)) (by have := wb_pos r; omega)
theorem fn_out {r : List Rat} {c : Nat} (h : r.length ≤ c) : fn r c = 0 := by
  unfold fn
  rw [List.getD_eq_getElem?_getD, List.getElem?_eq_none h]
  rfl
theorem Bas.left {β long : Nat} {kept : List (List Rat)} {ls : List (Nat × La.F)} {es : List (Nat × List Int)} {bots : List Nat} (B : Bas β long kept ls es bots) {r : List Rat} (hr : r.length = long) {c : Nat} (hc : c < long) :
    (La.led es (start (wn r) es.length)).getD c 0 = 0 ↔ La.red ls (fn r) c = 0 := by
  have I := B.inv hr
  have h1 := I.red c hc
  rw [red_wn] at h1
  simp only at h1
  constructor
  · intro z
    have : La.nth (La.led es (start (wn r) es.length)) c = 0 := by unfold La.nth; rw [z]; rfl
    rw [this] at h1
    rcases Rat.mul_eq_zero.mp h1.symm with q | q
    · exact absurd q I.s0
    · rcases Rat.mul_eq_zero.mp q with q | q
      · exact absurd q (wb_ne r)
      · exact q
  · intro z
    rw [z, Rat.mul_zero, Rat.mul_zero] at h1
    exact Classical.byContradiction fun q => La.rat_ne q h1
theorem Bas.out {β long : Nat} {kept : List (List Rat)} {ls : List (Nat × La.F)} {es : List (Nat × List Int)} {bots : List Nat} (B : Bas β long kept ls es bots) {r : List Rat} (hr : r.length = long) {c : Nat} (hc : long ≤ c) : La.red ls (fn r) c = 0 := La.red_len0 (fun l hl => B.sup l hl c hc) (fn_out (by omega))
theorem any_take {f : List Int} {long : Nat} (h : long ≤ f.length) : ((f.take long).any fun i => i != 0) = true ↔ ∃ c, c < long ∧ f.getD c 0 ≠ 0 := by
  rw [List.any_eq_true]
  constructor
  · rintro ⟨x, hx, h0⟩
    obtain ⟨j, hj⟩ := List.mem_iff_getElem?.mp hx
    rw [List.getElem?_take] at hj
    split at hj
    · rename_i hlt
      refine ⟨j, hlt, ?_⟩
      rw [List.getD_eq_getElem?_getD, hj]
      simpa using h0
    · cases hj
  · rintro ⟨c, hc, h0⟩
    have hcf : c < f.length := by omega
    rw [List.getD_eq_getElem?_getD, List.getElem?_eq_getElem hcf] at h0
    refine ⟨f[c], ?_, by simpa using h0⟩
    exact List.mem_iff_getElem?.mpr ⟨c, by rw [List.getElem?_take, if_pos hc, List.getElem?_eq_getElem hcf]⟩
theorem Bas.any {β long : Nat} {kept : List (List Rat)} {ls : List (Nat × La.F)} {es : List (Nat × List Int)} {bots : List Nat} (B : Bas β long kept ls es bots) {r : List Rat} (hr : r.length = long) :
    (((La.led es (start (wn r) es.length)).take long).any fun i => i != 0) = true ↔ La.red ls (fn r) ≠ fun _ => 0 := by
  have I := B.inv hr
  rw [any_take (by rw [I.len]; omega)]
  constructor
  · rintro ⟨c, hc, h⟩ z
    exact h ((B.left hr hc).mpr (congrFun z c))
  · intro h
    refine Classical.byContradiction fun hno => h (funext fun c => ?_)
    by_cases hc : c < long
    · exact Classical.byContradiction fun q => hno ⟨c, hc, fun z => q ((B.left hr hc).mp z)⟩
    · exact B.out hr (by omega)
theorem zw_range {α β : Type} (g : α → β → Rat) (as : List α) (bs : List β) (h : Nat → Rat) (hl : as.length = bs.length) (e : ∀ (k : Nat) a b, as[k]? = some a → bs[k]? = some b → g a b = h k) : List.zipWith g as bs = (List.range as.length).map h := by
  refine List.ext_getElem (by simp; omega) fun i h1 h2 => ?_
  simp only [List.length_zipWith, List.length_map, List.length_range] at h1 h2
  rw [List.getElem_zipWith, List.getElem_map, List.getElem_range]
  exact e i _ _ (List.getElem?_eq_getElem _) (List.getElem?_eq_getElem _)
theorem lin_sm {as : List Rat} {ks : List La.F} {c : Nat} (g : Nat → Rat) (hl : as.length = ks.length) (e : ∀ (k : Nat) a f, as[k]? = some a → ks[k]? = some f → a * f c = g k) : La.lin as ks c = La.sm as.length g := by
  rw [La.sm_list, ← zw_range (fun a k => a * k c) as ks g hl e]
  rfl
theorem inv_neg' {a : Rat} (h : a ≠ 0) : (-a)⁻¹ = -(a⁻¹) := by
  have h1 : (-a) * (-a)⁻¹ = 1 := Rat.mul_inv_cancel _ (fun z => h (by grind))
  have h2 := Rat.mul_inv_cancel _ h
  have h3 : (-a)⁻¹ = (-a)⁻¹ * (a * a⁻¹) := by rw [h2, Rat.mul_one]
  generalize (-a)⁻¹ = u at *
  generalize a⁻¹ = v at *
  grind
def facs (long : Nat) (f : List Int) (bots : List Nat) (wr : Nat) : List Rat := List.zipWith (fun (a : Int) (b : Nat) => Rat.divInt (a * (b : Int)) (-(f.getD (long + bots.length) 0) * (wr : Int))) ((f.drop long).take bots.length) bots
theorem Bas.facs_ok {β long : Nat} {kept : List (List Rat)} {ls : List (Nat × La.F)} {es : List (Nat × List Int)} {bots : List Nat} (B : Bas β long kept ls es bots) {r : List Rat} (hr : r.length = long) (h0 : La.red ls (fn r) = fun _ => 0) :
    (facs long (La.led es (start (wn r) es.length)) bots (wb r)).length = kept.length ∧ La.lin (facs long (La.led es (start (wn r) es.length)) bots (wb r)) (kept.map fn) = fn r := by
  have I := B.inv hr
  have hbl : bots.length = kept.length := by rw [B.bt, List.length_map]
  have hen := B.n
  generalize La.led es (start (wn r) es.length) = f at I
  rw [hen] at I
  have hfl : f.length = long + kept.length + 1 := I.len
  have hl : (facs long f bots (wb r)).length = kept.length := by
    unfold facs
    simp [hbl]
    omega
  refine ⟨hl, funext fun c => ?_⟩
  by_cases hc : c < long
  · have hrel := I.rel c hc
    have hz := I.red c hc
    rw [red_wn, h0] at hz
    simp only [Rat.mul_zero] at hz
    rw [hz, wn_fn] at hrel
    simp only at hrel
    have hs0 := I.s0
    have hw0 := wb_ne r
    rw [lin_sm (fun k => (-(1 / (La.nth f (long + kept.length) * wb r))) * (La.nth f (long + k) * La.nth (wn (kept.getD k [])) c) + 0 * 0) (by simp [hl]) (fun k a g ha hg => by
      have hk : k < kept.length := by rw [← hl]; exact (List.getElem?_eq_some_iff.mp ha).1
      rw [List.getElem?_map, List.getElem?_eq_getElem hk] at hg
      cases hg
      have hbk : bots[k]? = some (wb kept[k]) := by rw [B.bt, List.getElem?_map, List.getElem?_eq_getElem hk]; rfl
      unfold facs at ha
      rw [List.getElem?_zipWith, List.getElem?_take, if_pos (by omega), List.getElem?_drop, List.getElem?_eq_getElem (show long + k < f.length by omega), hbk] at ha
      simp only [Option.some.injEq] at ha
      rw [← ha, hbl, Rat.divInt_eq_div, Rat.intCast_mul, Rat.intCast_mul, Rat.intCast_neg]
      have e1 : kept.getD k [] = kept[k] := by rw [List.getD_eq_getElem?_getD, List.getElem?_eq_getElem hk]; rfl
      have e2 : La.nth f (long + k) = (f[long + k]'(by omega) : Int) := by unfold La.nth; rw [List.getD_eq_getElem?_getD, List.getElem?_eq_getElem (show long + k < f.length by omega)]; rfl
      rw [e1, e2, wn_fn]
      simp only
      have e3 : ((wb kept[k] : Int) : Rat) = (wb kept[k] : Rat) := rfl
      have e4 : ((wb r : Int) : Rat) = (wb r : Rat) := rfl
      have e5 : ((f.getD (long + kept.length) 0 : Int) : Rat) = La.nth f (long + kept.length) := rfl
      rw [e3, e4, e5]
      generalize La.nth f (long + kept.length) = s at hs0 ⊢
      generalize (wb r : Rat) = w at hw0 ⊢
      have hsw : s * w ≠ 0 := fun z => (Rat.mul_eq_zero.mp z).elim hs0 hw0
      have e6 : -s * w = -(s * w) := by grind
      rw [e6, Rat.div_def, Rat.div_def, Rat.one_mul, inv_neg' hsw]
      grind), La.sm_lin, hl]
    have e7 : La.sm kept.length (fun k => La.nth f (long + k) * La.nth (wn (kept.getD k [])) c) = -(La.nth f (long + kept.length) * ((wb r : Rat) * fn r c)) := by grind
    rw [e7]
    generalize La.nth f (long + kept.length) = s at hs0 ⊢
    generalize (wb r : Rat) = w at hw0 ⊢
    have hsw : s * w ≠ 0 := fun z => (Rat.mul_eq_zero.mp z).elim hs0 hw0
    have e8 := Rat.mul_inv_cancel _ hsw
    rw [Rat.div_def, Rat.one_mul]
    grind
  · rw [La.lin_len0 (fun k hk => by
      obtain ⟨x, hx, rfl⟩ := List.mem_map.mp hk
      exact fn_out (by rw [B.len x hx]; omega)), fn_out (by omega)]
theorem split_last {f : List Int} {a n : Nat} (h : f.length = a + n + 1) : f.drop a = ((f.drop a).take n) ++ [f.getD (a + n) 0] := by
  have h1 : a + n < f.length := by omega
  have h2 : (f.drop a).drop n = [f.getD (a + n) 0] := by
    rw [List.drop_drop, List.drop_eq_getElem_cons h1, List.drop_eq_nil_of_le (by omega), List.getD_eq_getElem?_getD, List.getElem?_eq_getElem h1]
    rfl
  rw [← h2, List.take_append_drop]
theorem frz_dat {r : List Rat} {x : DV} (hx : x = .lst (r.map rv) ∨ x = .tup (r.map rv)) (s : Sta) : frz x s = .ok x s := by
  rcases hx with rfl | rfl <;> rfl
theorem factors_ok {β long : Nat} {kept : List (List Rat)} {ls : List (Nat × La.F)} {es : List (Nat × List Int)} {bots : List Nat} (B : Bas β long kept ls es bots) {gh : List Ob} {b : Nat} (H : Hold gh b bots es) {r : List Rat} {x : DV} (hx : x = .lst (r.map rv) ∨ x = .tup (r.map rv)) (hr : r.length = long) {m n : Nat} (hs : Szs n r) (hn : n + (1 + n * r.length) < 9000) (hw : ∀ x ∈ wn r, Bd m x) (hwb : wb r < 2 ^ m) (h0 : 1 ≤ m) (hβ : β ≤ m) (hm : m + tot β es.length + m < 8999) (hL : long + es.length < 500) :
    (La.red ls (fn r) ≠ (fun _ => 0) → f_RowBasis_factors [.glb b, x] gh = .ok .non gh) ∧
    (La.red ls (fn r) = (fun _ => 0) → ∃ fs : List Rat, f_RowBasis_factors [.glb b, x] gh = .ok (.tup (fs.map rv)) gh ∧ fs.length = kept.length ∧ La.lin fs (kept.map fn) = fn r ∧ Szs (m + tot β es.length + m) fs) := by
  have e0 : f_RowBasis_factors [.glb b, x] gh = leave (b_RowBasis_factors ⟨[some (.glb b), some x, none, none, none, none, none, none, none], [], gh⟩) := rfl
  have hfx := frz_dat hx
  have hwr := whole_row_ok (gh := gh) hx hs hn (by omega)
  have hd := B.down H hr hw h0 (by omega) hL
  have I := B.inv hr
  have hany := B.any hr
  have hbd := B.bd hw h0 (Nat.le_refl es.length)
  rw [List.take_length] at hbd
  have hfc := B.facs_ok hr
  have hbl : bots.length = es.length := H.len
  generalize La.led es (start (wn r) es.length) = f at *
  have hfl : f.length = long + es.length + 1 := I.len
  rw [e0]
  unfold b_RowBasis_factors
  constructor
  · intro hne
    have ha := hany.mpr hne
    have hA : anyF [intv (f.take long)] = some (.bl true) := by simp only [anyF, intv, intsOf_ints, ha]
    simp [-List.map_take, -List.map_drop, hfx, hwr, H.i, fGet, metO, hd, hA]
  · intro hz
    have ha : ((f.take long).any fun i => i != 0) = false := by
      cases h : ((f.take long).any fun i => i != 0) with
      | false => rfl
      | true => exact absurd hz (hany.mp h)
    have hA : anyF [intv (f.take long)] = some (.bl false) := by simp only [anyF, intv, intsOf_ints, ha]
    obtain ⟨q1, q2⟩ := hfc hz
    have hlast : f.getD (long + es.length) 0 ≠ 0 := fun z => I.s0 (by unfold La.nth; rw [z]; rfl)
    have hsplit : f.drop long = ((f.drop long).take es.length) ++ [f.getD (long + es.length) 0] := split_last hfl
    have hdrop : intv (f.drop long) = .lst (((f.drop long).take es.length).map .int ++ [.int (f.getD (long + es.length) 0)]) := by
      conv => lhs; rw [hsplit]
      simp [-List.map_take, -List.map_drop, intv]
    have c1 : slF none (some (-1)) (intv (f.drop long)) = some (.lst (((f.drop long).take es.length).map .int)) := by rw [hdrop]; exact cut_last
    have c2 : ixF (intv (f.drop long)) (.int (-1)) = some (.int (f.getD (long + es.length) 0)) := by rw [hdrop]; exact ix_last
    have hlb : Bd (m + tot β es.length) (f.getD (long + es.length) 0) := La.getD_bd hbd _
    have hwz : Bd m ((wb r : Nat) : Int) := by unfold Bd; rw [Int.natAbs_natCast]; exact hwb
    have hmul := mul_ii (mulOk_bd hlb.neg hwz (by omega))
    have hby := hlb.neg.mul hwz
    have hby0 : -(f.getD (long + es.length) 0) * (wb r : Int) ≠ 0 := Int.mul_ne_zero (by omega) (by have := wb_pos r; omega)
    have hmm : ∀ x ∈ (f.drop long).take es.length, Bd (m + tot β es.length) x := fun x hx => hbd x (List.mem_of_mem_drop (List.mem_of_mem_take hx))
    have hbt : ∀ x ∈ bots, x < 2 ^ β := by
      rw [B.bt]
      intro x hx
      obtain ⟨y, hy, rfl⟩ := List.mem_map.mp hx
      exact B.wbit y hy
    refine ⟨facs long f bots (wb r), ?_, q1, q2, ?_⟩
    · have hlc := lc_zip (i := 7) (j := 8) (own := [7, 8]) (f := calD f_ratio_of (consE (vw2 mulF (var 7) (var 8)) (consE (var 6) nilE))) (s0 := ⟨[some (.glb b), some x, some (intv (wn r)), some (.int (wb r : Nat)), some (intv (f.take long)), some (intv (f.drop long)), some (.int (-(f.getD (long + es.length) 0) * (wb r : Int))), none, none], [], gh⟩) (gd := [.glb (b + 1)]) (r := (f.drop long).take es.length) (s := bots) (u := DV.int) (v := fun n => .int ((n : Nat) : Int)) (w := rv) (op := fun a b => Rat.divInt (a * (b : Int)) (-(f.getD (long + es.length) 0) * (wb r : Int))) (fun k a b' h1 h2 => by
        have ba := hmm a (List.mem_of_getElem? h1)
        have bb : Bd β ((b' : Nat) : Int) := by unfold Bd; rw [Int.natAbs_natCast]; exact hbt b' (List.mem_of_getElem? h2)
        have k1 := mul_ii (mulOk_bd ba bb (by omega))
        have k2 := ratio_of_ok (gh := gh) (a := a * (b' : Int)) hby0 hby (by omega)
        generalize -(f.getD (long + es.length) 0) * (wb r : Int) = by' at *
        simp [k1, k2])
      simp only at hlc
      have hzl : (zipL (((f.drop long).take es.length).map DV.int) (bots.map fun n => DV.int ((n : Nat) : Int))).length ≤ sizeLine := sl_of (by simp [zipL]; omega)
      have hll : (((f.drop long).take es.length).map DV.int).length = (bots.map fun n => DV.int ((n : Nat) : Int)).length := by simp; omega
      have hfl2 : (List.zipWith (fun (a : Int) (b : Nat) => Rat.divInt (a * (b : Int)) (-(f.getD (long + es.length) 0) * (wb r : Int))) ((f.drop long).take es.length) bots).length ≤ sizeLine := sl_of (by simp; omega)
      unfold facs
      rw [hbl]
      generalize hF : List.zipWith (fun (a : Int) (b : Nat) => Rat.divInt (a * (b : Int)) (-(f.getD (long + es.length) 0) * (wb r : Int))) ((f.drop long).take es.length) bots = F at *
      generalize f.getD (long + es.length) 0 = la at *
      generalize hA1 : ((f.drop long).take es.length).map DV.int = A1 at *
      generalize hA2 : (bots.map fun n => DV.int ((n : Nat) : Int)) = A2 at *
      have hb1 := H.b1
      rw [hA2] at hb1
      simp [-List.map_take, -List.map_drop, hfx, hwr, H.i, hb1, fGet, metO, hd, hA, c1, c2, hmul, hlc, hzl, hll, hfl2, stays_same]
    · intro q hq
      unfold facs at hq
      obtain ⟨k, hk⟩ := List.mem_iff_getElem?.mp hq
      rw [List.getElem?_zipWith] at hk
      cases h1 : ((f.drop long).take bots.length)[k]? with
      | none => rw [h1] at hk; cases hk
      | some a =>
        cases h2 : bots[k]? with
        | none => rw [h1, h2] at hk; cases hk
        | some b' =>
          rw [h1, h2] at hk
          cases hk
          rw [hbl] at h1 ⊢
          have ba := hmm a (List.mem_of_getElem? h1)
          have bb : Bd β ((b' : Nat) : Int) := by unfold Bd; rw [Int.natAbs_natCast]; exact hbt b' (List.mem_of_getElem? h2)
          exact Sz.divInt hby0 ((ba.mul bb).mono (by omega)) hby
theorem lc_places {α : Type} {i j : Nat} {own : List Nat} {c : Ex} {s0 : Sta} {gd : List DV} {xs : List α} {u : α → DV} {pr : Nat → Bool}
    (h : ∀ (k : Nat) a, xs[k]? = some a → c ⟨((wipeE s0.env own).set i (some (.int (k : Nat)))).set j (some (u a)), s0.lh, s0.gh⟩ = .ok (.bl (pr k)) ⟨((wipeE s0.env own).set i (some (.int (k : Nat)))).set j (some (u a)), s0.lh, s0.gh⟩ ∧ out (var i) ⟨((wipeE s0.env own).set i (some (.int (k : Nat)))).set j (some (u a)), s0.lh, s0.gh⟩ = .ok (.int (k : Nat)) ⟨((wipeE s0.env own).set i (some (.int (k : Nat)))).set j (some (u a)), s0.lh, s0.gh⟩) :
    lcGo (.many [i, j]) own c (var i) s0.env s0 gd (enuL 0 (xs.map u)) s0 [] = .ok (((List.range xs.length).filter pr).map fun (k : Nat) => DV.int (k : Nat)) s0 := by
  have hlen : (enuL 0 (xs.map u)).length = xs.length := by
    have : ∀ (ds : List DV) (n : Nat), (enuL n ds).length = ds.length := fun ds => by
      induction ds with
      | nil => intro n; rfl
      | cons d ds ih => intro n; simp [enuL, ih]
    rw [this, List.length_map]
  obtain ⟨st', acc', h1, h2, h3, h4⟩ := lc_ok (t := .many [i, j]) (own := own) (c := c) (f := var i) (env0 := s0.env) (s0 := s0) (gd := gd) (ds := enuL 0 (xs.map u)) (fun k st acc => st.lh = s0.lh ∧ st.gh = s0.gh ∧ acc = ((List.range k).filter pr).map fun (k : Nat) => DV.int (k : Nat)) (st := s0) ⟨rfl, rfl, rfl⟩ (fun k d st acc hd ⟨e1, e2, e3⟩ => by
    rw [enuL_get, List.getElem?_map, Nat.zero_add] at hd
    cases hx : xs[k]? with
    | none => rw [hx] at hd; cases hd
    | some a =>
      rw [hx] at hd; cases hd
      obtain ⟨g1, g2⟩ := h k a hx
      have est : ({ st with env := wipeE s0.env own } : Sta) = ⟨wipeE s0.env own, s0.lh, s0.gh⟩ := by
        rw [← e1, ← e2]
      refine ⟨_, by rw [est]; rfl, ?_⟩
      simp only [ap_setE] at *
      cases hp : pr k with
      | true =>
        rw [hp] at g1
        exact .inl ⟨_, _, _, g1, g2, stays_same rfl rfl, rfl, rfl, by rw [e3, List.range_succ, List.filter_append, List.map_append]; simp [hp]⟩
      | false =>
        rw [hp] at g1
        exact .inr ⟨_, g1, stays_same rfl rfl, rfl, rfl, by rw [e3, List.range_succ, List.filter_append, List.map_append]; simp [hp]⟩)
  rw [h1]
  have e0 : { st' with env := s0.env } = s0 := by
    cases st'; cases s0; simp only at h2 h3; subst h2 h3; rfl
  rw [e0, h4, hlen]
def pls (long : Nat) (x : La.F) : List Nat := (List.range long).filter fun c => decide (x c ≠ 0)
theorem pls_mem {long c : Nat} {x : La.F} : c ∈ pls long x ↔ c < long ∧ x c ≠ 0 := by simp [pls]
theorem pls_nil {long : Nat} {x : La.F} (h : ∀ c, long ≤ c → x c = 0) : pls long x = [] ↔ x = fun _ => 0 := by
  constructor
  · intro e
    funext c
    by_cases hc : c < long
    · exact Classical.byContradiction fun q => by
        have := pls_mem.mpr ⟨hc, q⟩
        rw [e] at this
        cases this
    · exact h c (by omega)
  · intro e
    rw [e]
    simp [pls]
theorem Bas.snoc {β long : Nat} {kept : List (List Rat)} {ls : List (Nat × La.F)} {es : List (Nat × List Int)} {bots : List Nat} (B : Bas β long kept ls es bots) {r : List Rat} (hr : r.length = long) (hw : ∀ x ∈ wn r, Bd β x) (hwb : wb r < 2 ^ β) (h0 : 1 ≤ β) {p : Nat} (hpl : p < long) (hp0 : La.red ls (fn r) p ≠ 0) :
    Bas β long (kept ++ [r]) (ls ++ [(p, La.red ls (fn r))]) (es ++ [(p, La.led es (start (wn r) es.length))]) (bots ++ [wb r]) := by
  have I := B.inv hr
  have hbd := B.bd hw h0 (Nat.le_refl es.length)
  rw [List.take_length] at hbd
  have hen := B.n
  generalize La.led es (start (wn r) es.length) = f at *
  have hfl : f.length = long + es.length + 1 := I.len
  have hkn : ∀ k, k < kept.length → (kept ++ [r]).getD k [] = kept.getD k [] := fun k hk => by
    rw [List.getD_eq_getElem?_getD, List.getD_eq_getElem?_getD, List.getElem?_append_left hk]
  have hkr : (kept ++ [r]).getD kept.length [] = r := by
    rw [List.getD_eq_getElem?_getD, List.getElem?_append_right (Nat.le_refl _), Nat.sub_self]
    rfl
  refine ⟨fun q hq => ?_, ?_, fun l hl c hc => ?_, ⟨by simp [B.O.len], fun j e l he hl => ?_⟩, by rw [B.bt, List.map_append]; rfl, fun j e he => ?_, fun q hq => ?_, fun q hq => ?_⟩
  · rcases List.mem_append.mp hq with z | z
    · exact B.len q z
    · rw [List.mem_singleton.mp z]; exact hr
  · rw [List.map_append]
    exact B.E.snoc hp0
  · rcases List.mem_append.mp hl with z | z
    · exact B.sup l z c hc
    · rw [List.mem_singleton.mp z]; exact B.out hr hc
  · by_cases hj : j < es.length
    · rw [List.getElem?_append_left hj] at he
      rw [List.getElem?_append_left (by rw [← B.O.len]; exact hj)] at hl
      obtain ⟨a1, a2, a3, a4, a5⟩ := B.O.at_ j e l he hl
      refine ⟨a1, a2, a3, a4, fun c hc => ?_⟩
      rw [a5 c hc]
      exact La.sm_congr _ fun k hk => by rw [hkn k (by omega)]
    · have hj2 : j = es.length := by
        have := (List.getElem?_eq_some_iff.mp he).1
        simp at this
        omega
      subst hj2
      rw [List.getElem?_append_right (Nat.le_refl _), Nat.sub_self] at he
      rw [B.O.len, List.getElem?_append_right (Nat.le_refl _), Nat.sub_self] at hl
      cases he
      cases hl
      refine ⟨rfl, hpl, hfl, ⟨La.nth f (long + es.length) * wb r, fun z => (Rat.mul_eq_zero.mp z).elim I.s0 (wb_ne r), fun c hc => ?_⟩, fun c hc => ?_⟩
      · rw [I.red c hc, red_wn]
        simp only
        rw [Rat.mul_assoc]
      · rw [I.rel c hc, La.sm, hen, hkr]
        congr 1
        exact La.sm_congr _ fun k hk => by rw [hkn k hk]
  · by_cases hj : j < es.length
    · rw [List.getElem?_append_left hj] at he
      exact B.bits j e he
    · have hj2 : j = es.length := by
        have := (List.getElem?_eq_some_iff.mp he).1
        simp at this
        omega
      subst hj2
      rw [List.getElem?_append_right (Nat.le_refl _), Nat.sub_self] at he
      cases he
      exact hbd
  · rcases List.mem_append.mp hq with z | z
    · exact B.wbit q z
    · rw [List.mem_singleton.mp z]; exact hwb
  · rcases List.mem_append.mp hq with z | z
    · exact B.wnb q z
    · rw [List.mem_singleton.mp z]; exact hw
structure Else (b : Nat) (gh gh' : List Ob) : Prop where
  len : gh'.length = gh.length
  same : ∀ k, k ≠ b + 1 → k ≠ b + 2 → gh'[k]? = gh[k]?
theorem put_ok {β long : Nat} {kept : List (List Rat)} {ls : List (Nat × La.F)} {es : List (Nat × List Int)} {bots : List Nat} (B : Bas β long kept ls es bots) {gh : List Ob} {b : Nat} (H : Hold gh b bots es) {r : List Rat} {x : DV} (hx : x = .lst (r.map rv) ∨ x = .tup (r.map rv)) (hr : r.length = long) {n : Nat} (hs : Szs n r) (hn : n + (1 + n * r.length) < 9000) (hw : ∀ x ∈ wn r, Bd β x) (hwb : wb r < 2 ^ β) (h0 : 1 ≤ β) (hm : β + tot β es.length < 8999) (hL : long + es.length < 500) :
    (La.red ls (fn r) = (fun _ => 0) → f_RowBasis_put [.glb b, x] gh = .ok (.bl false) gh) ∧
    (La.red ls (fn r) ≠ (fun _ => 0) → ∃ gh' es' p ps, f_RowBasis_put [.glb b, x] gh = .ok (.bl true) gh' ∧ pls long (La.red ls (fn r)) = p :: ps ∧ Hold gh' b (bots ++ [wb r]) es' ∧ Else b gh gh' ∧ Bas β long (kept ++ [r]) (ls ++ [(p, La.red ls (fn r))]) es' (bots ++ [wb r])) := by
  have e0 : f_RowBasis_put [.glb b, x] gh = leave (b_RowBasis_put ⟨[some (.glb b), some x, none, none, none, none, none, none, none], [], gh⟩) := rfl
  have hfx := frz_dat hx
  have hwr := whole_row_ok (gh := gh) hx hs hn (by omega)
  have hd := B.down H hr hw h0 (by omega) hL
  have I := B.inv hr
  have hany := B.any hr
  have hleft := fun c (hc : c < long) => B.left hr hc
  have hbd := B.bd hw h0 (Nat.le_refl es.length)
  rw [List.take_length] at hbd
  have hbl : bots.length = es.length := H.len
  have hen := B.n
  have hsn := fun p (h1 : p < long) => B.snoc hr hw hwb h0 (p := p) h1
  generalize La.led es (start (wn r) es.length) = f at *
  have hfl : f.length = long + es.length + 1 := I.len
  rw [e0]
  unfold b_RowBasis_put
  constructor
  · intro hz
    have ha : ((f.take long).any fun i => i != 0) = false := by
      cases h : ((f.take long).any fun i => i != 0) with
      | false => rfl
      | true => exact absurd hz (hany.mp h)
    have hA : anyF [intv (f.take long)] = some (.bl false) := by simp only [anyF, intv, intsOf_ints, ha]
    simp [-List.map_take, -List.map_drop, hfx, hwr, H.i, fGet, metO, hd, hA]
  · intro hne
    have ha := hany.mpr hne
    have hA : anyF [intv (f.take long)] = some (.bl true) := by simp only [anyF, intv, intsOf_ints, ha]
    have hpn : pls long (La.red ls (fn r)) ≠ [] := fun z => hne ((pls_nil fun c hc => B.out hr hc).mp z)
    obtain ⟨p, ps, hps⟩ := List.exists_cons_of_ne_nil hpn
    have hpm : p ∈ pls long (La.red ls (fn r)) := by rw [hps]; exact List.mem_cons_self
    obtain ⟨hpl, hp0⟩ := pls_mem.mp hpm
    have hlc := lc_places (i := 7) (j := 8) (own := [7, 8]) (c := vw2 neF (var 8) (cst (.int 0))) (s0 := ⟨[some (.glb b), some x, some (intv (wn r)), some (.int (wb r : Nat)), some (intv (f.take long)), some (intv (f.drop long)), none, none, none], [], gh⟩) (gd := []) (xs := f.take long) (u := DV.int) (pr := fun c => decide (La.red ls (fn r) c ≠ 0)) (fun k a hk => by
      have hkl : k < long := by
        have := (List.getElem?_eq_some_iff.mp hk).1
        simp at this
        omega
      rw [List.getElem?_take, if_pos hkl] at hk
      have e1 : f.getD k 0 = a := by rw [List.getD_eq_getElem?_getD, hk]; rfl
      have e2 : decide (a ≠ 0) = decide (La.red ls (fn r) k ≠ 0) := by
        rw [decide_eq_decide, ← e1]
        exact not_congr (hleft k hkl)
      refine ⟨vw2_st (a := .int a) (b := .int 0) (by simp) rfl ?_, by simp⟩
      rw [look_int, look_int, ne_ii, e2])
    have htl : (f.take long).length = long := by simp; omega
    rw [htl] at hlc
    have hpl' : ((List.range long).filter fun c => decide (La.red ls (fn r) c ≠ 0)) = p :: ps := hps
    simp only [hpl'] at hlc
    have hcat : addF (intv (f.take long)) (intv (f.drop long)) = some (intv f) := by
      rw [add_int (by simp; omega), List.take_append_drop]
    have hz1 : (p :: ps).length ≤ sizeLine := by
      rw [← hps]
      refine sl_of (Nat.le_trans (List.length_filter_le _ _) (by simp; omega))
    have hz2 : (enuL 0 ((f.take long).map DV.int)).length ≤ sizeLine := by
      have : ∀ (ds : List DV) (n : Nat), (enuL n ds).length = ds.length := fun ds => by
        induction ds with
        | nil => intro n; rfl
        | cons d ds ih => intro n; simp [enuL, ih]
      rw [this]
      exact sl_of (by simp; omega)
    have hix : ixF (.lst ((p :: ps).map fun (k : Nat) => DV.int (k : Nat))) (.int 0) = some (.int (p : Nat)) := by
      obtain ⟨d, h1, h2, h3⟩ := at_nat (ds := (p :: ps).map fun (k : Nat) => DV.int (k : Nat)) (r := 0) (by decide) (by simp)
      rw [h2]
      exact h1.symm
    have l1 : es.length < sizeLine := Nat.lt_of_lt_of_le (show es.length < 1000 by omega) (sl_of (Nat.le_refl 1000))
    have l2 : bots.length < sizeLine := by rw [hbl]; exact l1
    refine ⟨(gh.set (b + 2) (.lst (es.map ed ++ [ed (p, f)]))).set (b + 1) (.lst ((bots.map fun n => DV.int ((n : Nat) : Int)) ++ [.int (wb r : Nat)])), es ++ [(p, f)], p, ps, ?_, hps, ?_, ?_, ?_⟩
    · have hb1 := H.b1
      have hb2 := H.b2
      have hi := H.i
      have hset1 : (gh.set (b + 2) (.lst (es.map ed ++ [ed (p, f)])))[b + 1]? = gh[b + 1]? := List.getElem?_set_ne (by omega)
      have hset0 : (gh.set (b + 2) (.lst (es.map ed ++ [ed (p, f)])))[b]? = gh[b]? := List.getElem?_set_ne (by omega)
      have hed : ed (p, f) = .tup [.int (p : Nat), intv f] := rfl
      rw [hed] at *
      have l1' : (es.map ed).length < sizeLine := by simpa using l1
      have l2' : (bots.map fun n => DV.int ((n : Nat) : Int)).length < sizeLine := by simpa using l2
      generalize es.map ed = E at *
      generalize (bots.map fun n => DV.int ((n : Nat) : Int)) = T at *
      generalize ((p :: ps).map fun (k : Nat) => DV.int (k : Nat)) = P at *
      simp [-List.map_take, -List.map_drop, hfx, hwr, hi, hb1, hb2, fGet, metO, hd, hA, hlc, hz2, hix, hcat, chg, appR, hset0, hset1, l1', l2', sl_of (show 2 ≤ 1000 by decide)]
    · have k1 : b + 1 < gh.length := (List.getElem?_eq_some_iff.mp H.b1).1
      have k2 : b + 2 < gh.length := (List.getElem?_eq_some_iff.mp H.b2).1
      refine ⟨?_, ?_, ?_, by simp [hbl]⟩
      · rw [List.getElem?_set_ne (by omega), List.getElem?_set_ne (by omega)]
        exact H.i
      · rw [List.getElem?_set_self (by simpa using k1), List.map_append]
        rfl
      · rw [List.getElem?_set_ne (by omega), List.getElem?_set_self k2, List.map_append]
        rfl
    · exact ⟨by simp, fun k h1 h2 => by rw [List.getElem?_set_ne (fun z => h1 z.symm), List.getElem?_set_ne (fun z => h2 z.symm)]⟩
    · exact hsn p hpl hp0
theorem few_of : ∀ (n : Nat) (xs : List Nat), xs.Nodup → (∀ x ∈ xs, x < n) → xs.length ≤ n
  | 0, xs, _, h => by
    cases xs with
    | nil => exact Nat.le_refl _
    | cons x xs => exact absurd (h x List.mem_cons_self) (by omega)
  | n + 1, xs, hd, h => by
    by_cases hn : n ∈ xs
    · have h1 := few_of n (xs.erase n) (hd.erase n) (fun x hx => by
        have h2 := h x (List.mem_of_mem_erase hx)
        have h3 : x ≠ n := fun z => by
          rw [z] at hx
          exact (hd.not_mem_erase hx)
        omega)
      rw [List.length_erase_of_mem hn] at h1
      omega
    · have h1 := few_of n xs hd (fun x hx => by
        have h2 := h x hx
        have h3 : x ≠ n := fun z => hn (z ▸ hx)
        omega)
      omega
theorem lin_eq (fs : List Rat) (rows : List (List Rat)) : La.lin fs (rows.map fn) = fun c => lin fs rows c := by
  funext c
  unfold La.lin lin
  rw [List.zipWith_map_right]
  rfl
theorem fn_comb {long : Nat} {fs : List Rat} {kept : List (List Rat)} (h : ∀ r ∈ kept, r.length = long) : fn (comb long fs kept) = La.lin fs (kept.map fn) := by
  funext c
  rw [lin_eq]
  by_cases hc : c < long
  · exact getD_map_range long _ c hc
  · rw [fn_out (by simp [comb]; omega)]
    have := La.lin_len0 (as := fs) (ks := kept.map fn) (c := c) (fun k hk => by
      obtain ⟨x, hx, rfl⟩ := List.mem_map.mp hk
      exact fn_out (by rw [h x hx]; omega))
    rw [lin_eq] at this
    exact this.symm
theorem fn_inj {long : Nat} {r s : List Rat} (h1 : r.length = long) (h2 : s.length = long) (h : fn r = fn s) : r = s := by
  refine List.ext_getElem (by omega) fun i hi hj => ?_
  have := congrFun h i
  unfold fn at this
  rwa [List.getD_eq_getElem?_getD, List.getD_eq_getElem?_getD, List.getElem?_eq_getElem hi, List.getElem?_eq_getElem hj] at this
theorem comb_len (long : Nat) (fs : List Rat) (rows : List (List Rat)) : (comb long fs rows).length = long := by simp [comb]
theorem row_scaled_ok {m n : Nat} {r : List Rat} {c : Rat} {gh : List Ob} (hr : Szs n r) (hc : Sz m c) (l : n + m < 9000) (hl : r.length ≤ 1000) : f_row_scaled [row r, rv c] gh = .ok (row (r.map fun x => x * c)) gh := by
  have e0 : f_row_scaled [row r, rv c] gh = leave (b_row_scaled ⟨[some (row r), some (rv c), none], [], gh⟩) := rfl
  rw [e0]
  unfold b_row_scaled
  have h := lc_one (i := 2) (own := [2]) (f := calD f_ratio_product (consE (var 2) (consE (var 1) nilE))) (s0 := ⟨[some (row r), some (rv c), none], [], gh⟩) (gd := []) (r := r) (u := rv) (w := rv) (op := fun x => x * c) (fun j q hq => by
    have := ratio_product_ok (gh := gh) (hr.at hq) hc l
    simp [this])
  simp only at h
  simp [row, h, sl_of hl]
theorem row_sum_ok {m n : Nat} {r s : List Rat} {gh : List Ob} (hr : Szs m r) (hs : Szs n s) (l : m + n < 9000) (he : r.length = s.length) (hl : r.length ≤ 1000) : f_row_sum [row r, row s] gh = .ok (row (List.zipWith (fun a b => a + b) r s)) gh := by
  have e0 : f_row_sum [row r, row s] gh = leave (b_row_sum ⟨[some (row r), some (row s), none, none], [], gh⟩) := rfl
  rw [e0]
  unfold b_row_sum
  have h := lc_zip (i := 2) (j := 3) (own := [2, 3]) (f := calD f_ratio_sum (consE (var 2) (consE (var 3) nilE))) (s0 := ⟨[some (row r), some (row s), none, none], [], gh⟩) (gd := []) (r := r) (s := s) (u := rv) (v := rv) (w := rv) (op := fun a b => a + b) (fun k a b ha hb => by
    have := ratio_sum_ok (gh := gh) (hr.at ha) (hs.at hb) l
    simp [this])
  simp only at h
  have hz : (zipL (r.map rv) (s.map rv)).length ≤ sizeLine := sl_of (by simp [zipL]; omega)
  have ho : (List.zipWith (fun a b => a + b) r s).length ≤ sizeLine := sl_of (by simp; omega)
  generalize List.zipWith (fun a b => a + b) r s = o at *
  simp [row, h, hz, ho, he]
def unit (n p : Nat) : List Rat := (List.range n).map fun k => if k = p then 1 else 0
theorem unit_rows_ok {n : Nat} {gh : List Ob} (hn : n ≤ 1000) : f_unit_rows [.int (n : Nat)] gh = .ok (tab ((List.range n).map (unit n))) gh := by
  have e0 : f_unit_rows [.int (n : Nat)] gh = leave (b_unit_rows ⟨[some (.int (n : Nat)), none, none], [], gh⟩) := rfl
  rw [e0]
  unfold b_unit_rows
  have hlen : (rngL 0 n).length ≤ sizeLine := sl_of (by simp [rngL]; exact hn)
  have hr1 : ∀ (a b : Option DV), rng1 (var 0) ⟨[some (.int (n : Nat)), a, b], [], gh⟩ = .ok ⟨rngL 0 n, []⟩ ⟨[some (.int (n : Nat)), a, b], [], gh⟩ := fun a b => rng_ok (by simp) (by omega)
  have h1 := lc_rng (i := 1) (n := n) (own := [1]) (f := bltE tupF [(lcE .val (.one 2) [2] (rng1 (var 0)) (cst (.bl true)) (ife (vw2 eqF (var 2) (var 1)) (cst c_ONE) (cst c_NONE)))]) (s0 := ⟨[some (.int (n : Nat)), none, none], [], gh⟩) (gd := []) (w := row) (op := unit n) (fun p hp => by
    have h2 := lc_rng (i := 2) (n := n) (own := [2]) (f := ife (vw2 eqF (var 2) (var 1)) (cst c_ONE) (cst c_NONE)) (s0 := ⟨[some (.int (n : Nat)), some (.int (p : Nat)), none], [], gh⟩) (gd := []) (w := rv) (op := fun k => if k = p then 1 else 0) (fun k hk => by
      by_cases e : k = p
      · subst e
        simp [eq_ii]
        rfl
      · have : ¬ ((k : Int) = (p : Int)) := by omega
        simp [eq_ii, this, e]
        rfl)
    simp only at h2
    have hu : ((List.range n).map fun k => if k = p then (1 : Rat) else 0) = unit n p := rfl
    rw [hu] at h2
    simp [hr1, hlen, h2])
  simp only at h1
  simp [hr1, hlen, h1]
theorem eq_of_ne {a b : DV} {v : Bool} (h : neF a b = some (.bl v)) : eqF a b = some (.bl (!v)) := by
  unfold neF at h
  unfold eqF
  cases e : eqB a b with
  | none => rw [e] at h; cases h
  | some c =>
    rw [e] at h
    simp at h
    simp [← h]
def quo (r : List Rat) (t : List (List Rat)) : List Rat := List.zipWith (fun q s => Rat.divInt q.num ((q.den : Int) * (wb s : Int))) r t
theorem quo_eq {q : Rat} {s : List Rat} : Rat.divInt q.num ((q.den : Int) * (wb s : Int)) = q / (wb s : Rat) := by
  have h1 : (q.num : Rat) / ((q.den : Int) : Rat) = q := by
    have := Rat.num_divInt_den q
    rwa [Rat.divInt_eq_div] at this
  have hd : ((q.den : Int) : Rat) ≠ 0 := La.rat_ne (den_ne q)
  have hw : ((wb s : Int) : Rat) ≠ 0 := La.rat_ne (by have := wb_pos s; omega)
  rw [Rat.divInt_eq_div, Rat.intCast_mul]
  have e3 : ((wb s : Int) : Rat) = (wb s : Rat) := rfl
  rw [← e3]
  conv => rhs; rw [← h1]
  generalize ((q.den : Int) : Rat) = d at *
  generalize ((wb s : Int) : Rat) = w at *
  rw [Rat.div_def, Rat.div_def, Rat.div_def, Rat.inv_mul_rev]
  grind
theorem sum_cast : ∀ (xs : List Int), ((xs.sum : Int) : Rat) = (xs.map fun (x : Int) => (x : Rat)).sum
  | [] => rfl
  | x :: xs => by rw [List.sum_cons, List.map_cons, List.sum_cons, Rat.intCast_add, sum_cast xs]
theorem sum_mul (c : Rat) : ∀ (xs : List Rat), (xs.map fun x => c * x).sum = c * xs.sum
  | [] => by simp
  | x :: xs => by
    rw [List.map_cons, List.sum_cons, List.sum_cons, sum_mul c xs]
    grind
theorem wn_get {r : List Rat} {j : Nat} {q : Rat} (h : r[j]? = some q) : ∃ z, (wn r)[j]? = some z ∧ ((z : Int) : Rat) = (wb r : Rat) * q := by
  refine ⟨q.num * ((wb r : Int) / (q.den : Int)), ?_, wn_rat (den_dvd (List.mem_of_getElem? h))⟩
  unfold wn
  rw [List.getElem?_map, h]
  rfl
theorem led_val {r : List Rat} {t : List (List Rat)} {w k : Nat} (hl : r.length = t.length) (hw : ∀ s ∈ t, s.length = w) (hk : k < w) :
    Rat.divInt (List.zipWith (fun (a : Int) (s : List Rat) => a * (wn s).getD k 0) (wn (quo r t)) t).sum (wb (quo r t) : Nat) = dot r (col t k) := by
  have hq : (quo r t).length = t.length := by simp [quo]; omega
  rw [Rat.divInt_eq_div, sum_cast, List.map_zipWith]
  have e : List.zipWith (fun (a : Int) (s : List Rat) => ((a * (wn s).getD k 0 : Int) : Rat)) (wn (quo r t)) t = (List.zipWith (fun a b => a * b) r (col t k)).map fun x => (wb (quo r t) : Rat) * x := by
    refine List.ext_getElem (by simp [wn_len, hq, col]; omega) fun i h1 h2 => ?_
    simp only [List.length_zipWith, wn_len, hq, Nat.min_self] at h1
    rw [List.getElem_map, List.getElem_zipWith, List.getElem_zipWith]
    have hir : i < r.length := by omega
    have hs := List.getElem?_eq_getElem h1
    have hlen := hw _ (List.getElem_mem h1)
    have hqi : (quo r t)[i]? = some (r[i] / (wb t[i] : Rat)) := by
      unfold quo
      rw [List.getElem?_zipWith, List.getElem?_eq_getElem hir, hs]
      simp only [quo_eq]
    obtain ⟨z, hz1, hz2⟩ := wn_get hqi
    have hz3 : (wn (quo r t))[i]'(by rw [wn_len]; omega) = z := by
      rw [List.getElem?_eq_getElem (by rw [wn_len]; omega)] at hz1
      exact Option.some.inj hz1
    have hkl : k < (t[i]).length := by omega
    obtain ⟨y, hy1, hy2⟩ := wn_get (List.getElem?_eq_getElem hkl)
    have hy3 : (wn t[i]).getD k 0 = y := by rw [List.getD_eq_getElem?_getD, hy1]; rfl
    have hc : (col t k)[i]'(by simp [col]; omega) = t[i][k] := by
      unfold col
      rw [List.getElem_map, List.getD_eq_getElem?_getD, List.getElem?_eq_getElem hkl]
      rfl
    rw [hz3, hy3, hc, Rat.intCast_mul, hz2, hy2]
    have hwn := La.rat_ne (i := (wb t[i] : Int)) (by have := wb_pos t[i]; omega)
    have e3 : ((wb t[i] : Int) : Rat) = (wb t[i] : Rat) := rfl
    rw [e3] at hwn
    generalize (wb t[i] : Rat) = d at *
    have := Rat.mul_inv_cancel _ hwn
    rw [Rat.div_def]
    grind
  rw [e, sum_mul]
  have hwn := La.rat_ne (i := (wb (quo r t) : Int)) (by have := wb_pos (quo r t); omega)
  have e3 : ((wb (quo r t) : Int) : Rat) = (wb (quo r t) : Rat) := rfl
  have e4 : (((wb (quo r t) : Nat) : Int) : Rat) = (wb (quo r t) : Rat) := rfl
  rw [e3] at hwn
  rw [e4]
  show _ = (List.zipWith (fun a b => a * b) r (col t k)).sum
  generalize (List.zipWith (fun a b => a * b) r (col t k)).sum = s
  generalize (wb (quo r t) : Rat) = d at *
  have := Rat.mul_inv_cancel _ hwn
  rw [Rat.div_def]
  grind
def wd (s : List Rat) : DV := .tup [intv (wn s), .int (wb s : Nat)]
@[simp] theorem look_wd (st : Sta) (s : List Rat) : look st (wd s) = wd s := rfl
@[simp] theorem frz_wd (st : Sta) (s : List Rat) : frz (wd s) st = .ok (wd s) st := rfl
@[simp] theorem ix_wd0 (s : List Rat) : ixF (wd s) (.int 0) = some (intv (wn s)) := rfl
@[simp] theorem ix_wd1 (s : List Rat) : ixF (wd s) (.int 1) = some (.int (wb s : Nat)) := rfl
theorem row_led_ok {t : List (List Rat)} {w m n : Nat} {r : List Rat} {gh : List Ob} (h : Tb t w m) (h0 : t ≠ []) (hr : Szs n r) (hl : r.length = t.length) (hm : m ≤ 1919) (hn : n ≤ 1919) (l1 : m + (1 + m * w) < 9000) (l2 : (n + (1 + m * w)) + (1 + (n + (1 + m * w)) * t.length) < 9000) :
    f_row_led [row r, tab t] gh = .ok (row ((List.range w).map fun k => dot r (col t k))) gh := by
  obtain ⟨r0, hr0⟩ : ∃ r, t[0]? = some r := by cases t with
    | nil => exact absurd rfl h0
    | cons a t => exact ⟨a, rfl⟩
  have hw0 := (h.mem hr0).1
  have htl := h.l1
  have hwl := h.l2
  have htp : 0 < t.length := List.length_pos_iff.mpr h0
  obtain ⟨ps, hps⟩ := Rps.of (k := 1) (n := 3849) (ds := r.map rv) fun d hd => by
    obtain ⟨q, hq, rfl⟩ := List.mem_map.mp hd
    exact Rp.rv ((hr q hq).mono hn)
  have hne := ne_tup0 hps (by decide)
  have he : (r.map rv).isEmpty = false := by
    cases r with
    | nil => simp at hl; omega
    | cons a r => rfl
  rw [he] at hne
  have heq := eq_of_ne hne
  have e0 : f_row_led [row r, tab t] gh = leave (b_row_led ⟨[some (row r), some (tab t), none, none, none, none, none, none, none, none], [], gh⟩) := rfl
  have hwb : ∀ s ∈ t, wb s < 2 ^ (1 + m * w) := fun s hs => by
    have := wb_lt (h.sz s hs)
    rwa [h.len s hs] at this
  have c1 := lc_one (i := 7) (own := [7]) (f := calD f_whole_row (consE (var 7) nilE)) (s0 := ⟨[some (row r), some (tab t), none, none, none, none, none, none, none, none], [], gh⟩) (gd := []) (r := t) (u := row) (w := wd) (op := fun s => s) (fun j s hs => by
    obtain ⟨a1, a2⟩ := h.mem hs
    have := whole_row_ok (gh := gh) (x := row s) (.inr rfl) a2 (by rw [a1]; exact l1) (by omega)
    simp [this, wd])
  rw [List.map_id'] at c1
  have hqs : Szs (n + (1 + m * w)) (quo r t) := fun x hx => by
    obtain ⟨k, hk⟩ := List.mem_iff_getElem?.mp hx
    unfold quo at hk
    rw [List.getElem?_zipWith] at hk
    cases h1 : r[k]? with
    | none => rw [h1] at hk; cases hk
    | some q =>
      cases h2 : t[k]? with
      | none => rw [h1, h2] at hk; cases hk
      | some s =>
        rw [h1, h2] at hk
        cases hk
        have sq := hr.at h1
        have sb : Bd (1 + m * w) ((wb s : Nat) : Int) := by unfold Bd; rw [Int.natAbs_natCast]; exact hwb s (List.mem_of_getElem? h2)
        exact Sz.divInt (Int.mul_ne_zero (den_ne q) (by have := wb_pos s; omega)) (sq.num.mono (by omega)) (sq.den.mul sb)
  have c2 := lc_zip (i := 8) (j := 7) (own := [8, 7]) (f := calD f_ratio_of (consE (vw2 ixF (var 8) (cst (.int 0))) (consE (vw2 mulF (vw2 ixF (var 8) (cst (.int 1))) (vw2 ixF (var 7) (cst (.int 1)))) nilE))) (s0 := ⟨[some (row r), some (tab t), some (.lst (t.map wd)), none, none, none, none, none, none, none], [], gh⟩) (gd := []) (r := r) (s := t) (u := rv) (v := wd) (w := rv) (op := fun q s => Rat.divInt q.num ((q.den : Int) * (wb s : Int))) (fun k q s hq hs => by
    have sq := hr.at hq
    have sb : Bd (1 + m * w) ((wb s : Nat) : Int) := by unfold Bd; rw [Int.natAbs_natCast]; exact hwb s (List.mem_of_getElem? hs)
    have k1 := mul_ii (mulOk_bd sq.den sb (by omega))
    have k2 := ratio_of_ok (a := q.num) (gh := gh) (Int.mul_ne_zero (den_ne q) (by have := wb_pos s; omega)) (sq.den.mul sb) (by omega)
    generalize ((q.den : Int) * (wb s : Int)) = by' at *
    simp [k1, k2])
  have hqe : List.zipWith (fun (q : Rat) (s : List Rat) => Rat.divInt q.num ((q.den : Int) * (wb s : Int))) r t = quo r t := rfl
  rw [hqe] at c2
  have hql : (quo r t).length = t.length := by simp [quo]; omega
  have c3 := whole_row_ok (gh := gh) (x := .lst ((quo r t).map rv)) (.inl rfl) hqs (by rw [hql]; exact l2) (by omega)
  have hv := fun k (hk : k < w) => led_val (r := r) hl h.len hk
  have hbw : Bd (1 + (n + (1 + m * w)) * t.length) ((wb (quo r t) : Nat) : Int) := by
    unfold Bd
    rw [Int.natAbs_natCast]
    have := wb_lt hqs
    rwa [hql] at this
  have hb0 : ((wb (quo r t) : Nat) : Int) ≠ 0 := by have := wb_pos (quo r t); omega
  have hwq := wn_bd hqs
  have hwnl : (wn (quo r t)).length = t.length := (wn_len _).trans hql
  have hmn : (n + (1 + m * w)) * (quo r t).length = (n + (1 + m * w)) * t.length := by rw [hql]
  generalize wb (quo r t) = bq at *
  generalize wn (quo r t) = wq at *
  have c4 : ∀ (k : Nat) (y7 y8 y9 : Option DV) (L : List (Bool × Ob)), k < w → bltE sumF [(lcE .val (.many [9, 7]) [9, 7] (zipI true (var 3) (var 2)) (cst (.bl true)) (vw2 mulF (var 9) (vw2 ixF (vw2 ixF (var 7) (cst (.int 0))) (var 6))))] ⟨[some (row r), some (tab t), some (.lst (t.map wd)), some (intv wq), some (.int (bq : Nat)), some (.loc 0), some (.int (k : Nat)), y7, y8, y9], L, gh⟩ = .ok (.int (List.zipWith (fun (a : Int) (s : List Rat) => a * (wn s).getD k 0) wq t).sum) ⟨[some (row r), some (tab t), some (.lst (t.map wd)), some (intv wq), some (.int (bq : Nat)), some (.loc 0), some (.int (k : Nat)), y7, y8, y9], L, gh⟩ := fun k y7 y8 y9 L hk => by
    have hz := lc_zip (i := 9) (j := 7) (own := [9, 7]) (f := vw2 mulF (var 9) (vw2 ixF (vw2 ixF (var 7) (cst (.int 0))) (var 6))) (s0 := ⟨[some (row r), some (tab t), some (.lst (t.map wd)), some (intv wq), some (.int (bq : Nat)), some (.loc 0), some (.int (k : Nat)), y7, y8, y9], L, gh⟩) (gd := []) (r := wq) (s := t) (u := DV.int) (v := wd) (w := DV.int) (op := fun (a : Int) (s : List Rat) => a * (wn s).getD k 0) (fun j a s ha hs => by
      obtain ⟨a1, a2⟩ := h.mem hs
      have x1 := ix_int (f := wn s) (k := k) (by rw [wn_len, a1]; exact hk)
      have ba := hwq a (List.mem_of_getElem? ha)
      have bs : Bd (m + (1 + m * w)) ((wn s).getD k 0) := La.getD_bd (fun x hx => by have := wn_bd a2 x hx; rwa [a1] at this) k
      have k1 := mul_ii (mulOk_bd ba bs (by omega))
      generalize (wn s).getD k 0 = v at *
      simp [x1, k1])
    simp only at hz
    have hzl : (zipL (wq.map DV.int) (t.map wd)).length ≤ sizeLine := sl_of (by simp [zipL]; omega)
    have hll : (wq.map DV.int).length = (t.map wd).length := by simp; omega
    generalize List.zipWith (fun (a : Int) (s : List Rat) => a * (wn s).getD k 0) wq t = zs at *
    have hsum : sumF [.lst (zs.map DV.int)] = some (.int zs.sum) := by simp only [sumF, intsOf_ints, Option.map_some]
    generalize t.map wd = TW at *
    generalize hWQ : wq.map DV.int = WQ at *
    simp [hWQ, hz, hzl, hll, hsum]
  have c5 : ∀ (k : Nat) (L : List (Bool × Ob)), k < w → out (calD f_ratio_of (consE (bltE sumF [(lcE .val (.many [9, 7]) [9, 7] (zipI true (var 3) (var 2)) (cst (.bl true)) (vw2 mulF (var 9) (vw2 ixF (vw2 ixF (var 7) (cst (.int 0))) (var 6))))]) (consE (var 4) nilE))) ⟨[some (row r), some (tab t), some (.lst (t.map wd)), some (intv wq), some (.int (bq : Nat)), some (.loc 0), some (.int (k : Nat)), none, none, none], L, gh⟩ = .ok (rv (dot r (col t k))) ⟨[some (row r), some (tab t), some (.lst (t.map wd)), some (intv wq), some (.int (bq : Nat)), some (.loc 0), some (.int (k : Nat)), none, none, none], L, gh⟩ := fun k L hk => by
    have k1 := c4 k none none none L hk
    have k2 := ratio_of_ok (a := (List.zipWith (fun (a : Int) (s : List Rat) => a * (wn s).getD k 0) wq t).sum) (gh := gh) hb0 hbw (by omega)
    rw [hv k hk] at k2
    generalize (List.zipWith (fun (a : Int) (s : List Rat) => a * (wn s).getD k 0) wq t).sum = z at *
    simp [-ap_blt, k1, k2]
  have hrg : rng1 (bltE lenF [(vw2 ixF (var 1) (cst (.int 0)))]) ⟨[some (row r), some (tab t), some (.lst (t.map wd)), some (intv wq), some (.int (bq : Nat)), some (.loc 0), none, none, none, none], [(false, .lst [])], gh⟩ = .ok ⟨rngL 0 w, []⟩ ⟨[some (row r), some (tab t), some (.lst (t.map wd)), some (intv wq), some (.int (bq : Nat)), some (.loc 0), none, none, none, none], [(false, .lst [])], gh⟩ := rng_ok (by simp [ix_head hr0, hw0]) (by omega)
  have hrl : rngL 0 w = (List.range w).map fun k => DV.int (k : Nat) := by
    unfold rngL
    congr 1
    funext k
    rw [Int.zero_add]
  obtain ⟨st', g1, y6, g2⟩ := for_ok (t := .one 6) (b := expS (appE (var 5) (calD f_ratio_of (consE (bltE sumF [(lcE .val (.many [9, 7]) [9, 7] (zipI true (var 3) (var 2)) (cst (.bl true)) (vw2 mulF (var 9) (vw2 ixF (vw2 ixF (var 7) (cst (.int 0))) (var 6))))]) (consE (var 4) nilE)))))
    (s0 := ⟨[some (row r), some (tab t), some (.lst (t.map wd)), some (intv wq), some (.int (bq : Nat)), some (.loc 0), none, none, none, none], [(false, .lst [])], gh⟩) (gd := []) (ds := rngL 0 w)
    (fun i st => ∃ y6, st = (⟨[some (row r), some (tab t), some (.lst (t.map wd)), some (intv wq), some (.int (bq : Nat)), some (.loc 0), y6, none, none, none], [(false, .lst ((List.range i).map fun k => rv (dot r (col t k))))], gh⟩ : Sta))
    (st := ⟨[some (row r), some (tab t), some (.lst (t.map wd)), some (intv wq), some (.int (bq : Nat)), some (.loc 0), none, none, none, none], [(false, .lst [])], gh⟩) ⟨none, rfl⟩
    (fun i d st hd ⟨y6, hst⟩ => by
      subst hst
      rw [hrl, List.getElem?_map] at hd
      cases hx : (List.range w)[i]? with
      | none => rw [hx] at hd; cases hd
      | some k =>
        rw [hx] at hd; cases hd
        have hiw : i < w := by
          have := (List.getElem?_eq_some_iff.mp hx).1
          simpa using this
        have hki : k = i := by
          rw [List.getElem?_range hiw] at hx
          exact (Option.some.inj hx).symm
        subst hki
        refine ⟨⟨[some (row r), some (tab t), some (.lst (t.map wd)), some (intv wq), some (.int (bq : Nat)), some (.loc 0), some (.int (k : Nat)), none, none, none], [(false, .lst ((List.range k).map fun k => rv (dot r (col t k))))], gh⟩, rfl, ⟨[some (row r), some (tab t), some (.lst (t.map wd)), some (intv wq), some (.int (bq : Nat)), some (.loc 0), some (.int (k : Nat)), none, none, none], [(false, .lst ((List.range (k + 1)).map fun k => rv (dot r (col t k))))], gh⟩, .inl ?_, stays_nil _ _, _, rfl⟩
        have k1 := c5 k [(false, .lst ((List.range k).map fun k => rv (dot r (col t k))))] hiw
        have hll : ((List.range k).map fun k => rv (dot r (col t k))).length < sizeLine := Nat.lt_of_lt_of_le (show _ < 1000000 by simp; omega) (by decide)
        rw [List.range_succ, List.map_append]
        generalize ((List.range k).map fun k => rv (dot r (col t k))) = acc at *
        simp [-ap_out, k1, chg, appR, hll])
  have hlen : (rngL 0 w).length = w := by simp [rngL]
  rw [hlen] at g2
  subst g2
  simp only at c1 c2
  have hl1 : t.length ≤ sizeLine := sl_of htl
  have hzl2 : (zipL (r.map rv) (t.map wd)).length ≤ sizeLine := sl_of (by simp [zipL]; omega)
  have hll2 : (r.map rv).length = (t.map wd).length := by simp; omega
  have hq2 : ((quo r t).map rv).length ≤ sizeLine := sl_of (by simp; omega)
  have hz0 : 0 ≤ sizeLine := Nat.zero_le _
  have hacc : ((List.range w).map fun k => rv (dot r (col t k))) = (((List.range w).map fun k => dot r (col t k)).map rv) := by rw [List.map_map]; rfl
  rw [hacc] at g1
  rw [e0]
  unfold b_row_led
  generalize (List.range w).map (fun k => dot r (col t k)) = res at *
  have s1 : ifS (vw2 eqF (var 0) (tupE nilE)) (retS (tupE nilE)) pasS ⟨[some (row r), some (tab t), none, none, none, none, none, none, none, none], [], gh⟩ = .ok .nx ⟨[some (row r), some (tab t), none, none, none, none, none, none, none, none], [], gh⟩ := by
    simp [heq, hz0]
  have s2 : asgS (.one 2) (lcE .val (.one 7) [7] (seqI (var 1)) (cst (.bl true)) (calD f_whole_row (consE (var 7) nilE))) ⟨[some (row r), some (tab t), none, none, none, none, none, none, none, none], [], gh⟩ = .ok .nx ⟨[some (row r), some (tab t), some (.lst (t.map wd)), none, none, none, none, none, none, none], [], gh⟩ := by
    simp [hl1, c1]
  have s3 : asgS (.many [3, 4]) (calD f_whole_row (consE (lcE .val (.many [8, 7]) [8, 7] (zipI true (var 0) (var 2)) (cst (.bl true)) (calD f_ratio_of (consE (vw2 ixF (var 8) (cst (.int 0))) (consE (vw2 mulF (vw2 ixF (var 8) (cst (.int 1))) (vw2 ixF (var 7) (cst (.int 1)))) nilE)))) nilE)) ⟨[some (row r), some (tab t), some (.lst (t.map wd)), none, none, none, none, none, none, none], [], gh⟩ = .ok .nx ⟨[some (row r), some (tab t), some (.lst (t.map wd)), some (intv wq), some (.int (bq : Nat)), none, none, none, none, none], [], gh⟩ := by
    generalize (quo r t).map rv = QT at *
    have hz3 : (zipL (r.map rv) (t.map wd)).length ≤ sizeLine := hzl2
    generalize t.map wd = TW at *
    simp [hz3, hll2, c2, c3]
  have s5 : forS (.one 6) (rng1 (bltE lenF [(vw2 ixF (var 1) (cst (.int 0)))])) (expS (appE (var 5) (calD f_ratio_of (consE (bltE sumF [(lcE .val (.many [9, 7]) [9, 7] (zipI true (var 3) (var 2)) (cst (.bl true)) (vw2 mulF (var 9) (vw2 ixF (vw2 ixF (var 7) (cst (.int 0))) (var 6))))]) (consE (var 4) nilE))))) ⟨[some (row r), some (tab t), some (.lst (t.map wd)), some (intv wq), some (.int (bq : Nat)), some (.loc 0), none, none, none, none], [(false, .lst [])], gh⟩ = .ok .nx ⟨[some (row r), some (tab t), some (.lst (t.map wd)), some (intv wq), some (.int (bq : Nat)), some (.loc 0), y6, none, none, none], [(false, .lst (res.map rv))], gh⟩ := by
    rw [ap_for, hrg]
    exact g1
  rw [ap_seq, s1]
  simp only [Out.bind]
  rw [ap_seq, s2]
  simp only [Out.bind]
  rw [ap_seq, s3]
  simp only [Out.bind]
  have s4 : asgS (.one 5) (lstE .loc nilE) ⟨[some (row r), some (tab t), some (.lst (t.map wd)), some (intv wq), some (.int (bq : Nat)), none, none, none, none, none], [], gh⟩ = .ok .nx ⟨[some (row r), some (tab t), some (.lst (t.map wd)), some (intv wq), some (.int (bq : Nat)), some (.loc 0), none, none, none, none], [(false, .lst [])], gh⟩ := by
    simp [hz0]
  rw [ap_seq, s4]
  simp only [Out.bind]
  rw [ap_seq, s5]
  simp only [Out.bind]
  simp
theorem col_szs {t : List (List Rat)} {w m k : Nat} (h : Tb t w m) (hk : k < w) : Szs m (col t k) := fun x hx => by
  obtain ⟨q, hq, rfl⟩ := List.mem_map.mp hx
  have hkl : k < q.length := by rw [h.len q hq]; exact hk
  rw [List.getD_eq_getElem?_getD, List.getElem?_eq_getElem hkl]
  exact h.sz q hq _ (List.getElem_mem hkl)
theorem Tb.cols {t : List (List Rat)} {w m : Nat} (h : Tb t w m) : Tb ((List.range w).map (col t)) t.length m where
  len := fun r hr => by
    obtain ⟨k, _, rfl⟩ := List.mem_map.mp hr
    simp [col]
  sz := fun r hr => by
    obtain ⟨k, hk, rfl⟩ := List.mem_map.mp hr
    exact col_szs h (List.mem_range.mp hk)
  l1 := by simp; exact h.l2
  l2 := h.l1
theorem col_cols {t : List (List Rat)} {w m k : Nat} (h : Tb t w m) (hk : k < t.length) : col ((List.range w).map (col t)) k = t[k] := by
  have hl := h.len _ (List.getElem_mem hk)
  refine List.ext_getElem (by simp [col, hl]) fun i h1 h2 => ?_
  have hi : i < w := by omega
  simp only [col, List.map_map]
  rw [List.getElem_map, List.getElem_range]
  simp only [Function.comp]
  rw [List.getD_eq_getElem?_getD]
  unfold col
  rw [List.getElem?_map, List.getElem?_eq_getElem hk]
  simp only [Option.map_some, Option.getD_some]
  rw [List.getD_eq_getElem?_getD, List.getElem?_eq_getElem h2]
  rfl
theorem dot_comm (r s : List Rat) : dot r s = dot s r := by
  unfold dot
  rw [List.zipWith_comm]
  congr 1
  congr 1
  funext a b
  exact Rat.mul_comm _ _
theorem column_led_ok {t : List (List Rat)} {w m n : Nat} {c : List Rat} {gh : List Ob} (h : Tb t w m) (h0 : t ≠ []) (hw : 1 ≤ w) (hc : Szs n c) (hl : c.length = w) (hm : m ≤ 1919) (hn : n ≤ 1919) (l1 : m + (1 + m * t.length) < 9000) (l2 : (n + (1 + m * t.length)) + (1 + (n + (1 + m * t.length)) * w) < 9000) :
    f_column_led [tab t, row c] gh = .ok (row (t.map fun r => dot r c)) gh := by
  have e0 : f_column_led [tab t, row c] gh = leave (b_column_led ⟨[some (tab t), some (row c)], [], gh⟩) := rfl
  have ha := across_ok (gh := gh) h hm h0
  have hcl : ((List.range w).map (col t)).length = w := by simp
  have hr := row_led_ok (gh := gh) (r := c) h.cols (fun z => by rw [z] at hcl; simp at hcl; omega) hc (by rw [hcl, hl]) hm hn l1 (by rw [hcl]; exact l2)
  have e : ((List.range t.length).map fun k => dot c (col ((List.range w).map (col t)) k)) = t.map fun r => dot r c := by
    refine List.ext_getElem (by simp) fun i h1 h2 => ?_
    simp only [List.length_map, List.length_range] at h1
    rw [List.getElem_map, List.getElem_map, List.getElem_range, col_cols h h1, dot_comm]
  rw [e] at hr
  rw [e0]
  unfold b_column_led
  generalize (List.range w).map (col t) = cs at *
  simp [ha, hr]
theorem tables_led_ok {t o : List (List Rat)} {w m n : Nat} {gh : List Ob} (h : Tb o w m) (h0 : o ≠ []) (ht : ∀ r ∈ t, Szs n r ∧ r.length = o.length) (htl : t.length ≤ 1000) (hm : m ≤ 1919) (hn : n ≤ 1919) (l1 : m + (1 + m * w) < 9000) (l2 : (n + (1 + m * w)) + (1 + (n + (1 + m * w)) * o.length) < 9000) :
    f_tables_led [tab t, tab o] gh = .ok (tab (t.map fun r => (List.range w).map fun k => dot r (col o k))) gh := by
  have e0 : f_tables_led [tab t, tab o] gh = leave (b_tables_led ⟨[some (tab t), some (tab o), none], [], gh⟩) := rfl
  rw [e0]
  unfold b_tables_led
  have h1 := lc_one (i := 2) (own := [2]) (f := calD f_row_led (consE (var 2) (consE (var 1) nilE))) (s0 := ⟨[some (tab t), some (tab o), none], [], gh⟩) (gd := []) (r := t) (u := row) (w := row) (op := fun r => (List.range w).map fun k => dot r (col o k)) (fun j r hr => by
    obtain ⟨a1, a2⟩ := ht r (List.mem_of_getElem? hr)
    have := row_led_ok (gh := gh) h h0 a1 a2 hm hn l1 l2
    simp [this])
  simp only at h1
  generalize (t.map fun r => (List.range w).map fun k => dot r (col o k)) = res at *
  simp [h1, sl_of htl]
theorem all_in {n p : Nat} {xs : List Nat} (hd : xs.Nodup) (h : ∀ x ∈ xs, x < n) (hl : xs.length = n) (hp : p < n) : p ∈ xs := Classical.byContradiction fun hno => by
  have := few_of n (p :: xs) (List.nodup_cons.mpr ⟨hno, hd⟩) (fun x hx => by
    rcases List.mem_cons.mp hx with z | z
    · omega
    · exact h x z)
  simp at this
  omega
theorem full_zero {n : Nat} {ls : List (Nat × La.F)} {ks : List La.F} (E : La.Ech ls ks) (hp : ∀ l ∈ ls, l.1 < n) (hs : ∀ l ∈ ls, ∀ c, n ≤ c → l.2 c = 0) (hl : ks.length = n) {x : La.F} (hx : ∀ c, n ≤ c → x c = 0) : La.red ls x = fun _ => 0 := by
  have hf := E.few hp
  funext c
  by_cases hc : c < n
  · have hm := all_in hf (fun y hy => by obtain ⟨l, hl', rfl⟩ := List.mem_map.mp hy; exact hp l hl') (by rw [List.length_map, E.len, hl]) hc
    obtain ⟨e, he, rfl⟩ := List.mem_map.mp hm
    obtain ⟨j, hj⟩ := List.mem_iff_getElem?.mp he
    have := E.noughts ls.length (Nat.le_refl _) x j e (List.getElem?_eq_some_iff.mp hj).1 hj
    rwa [List.take_length] at this
  · exact La.red_len0 (fun l hl' => hs l hl' c (by omega)) (hx c (by omega))
theorem dot_eq_sm {r s : List Rat} (hl : r.length = s.length) : dot r s = La.sm r.length fun k => r.getD k 0 * s.getD k 0 := by
  rw [La.sm_list]
  unfold dot
  congr 1
  refine List.ext_getElem (by simp; omega) fun i h1 h2 => ?_
  simp only [List.length_map, List.length_range] at h2
  rw [List.getElem_zipWith, List.getElem_map, List.getElem_range, List.getD_eq_getElem?_getD, List.getD_eq_getElem?_getD, List.getElem?_eq_getElem h2, List.getElem?_eq_getElem (show i < s.length by omega)]
  rfl
theorem sm_pick {g : Nat → Rat} {p : Nat} : ∀ n, p < n → (∀ k, k < n → k ≠ p → g k = 0) → La.sm n g = g p
  | 0, h, _ => by omega
  | n + 1, h, hz => by
    rw [La.sm]
    by_cases e : p = n
    · subst e
      have : La.sm p g = La.sm p fun _ => 0 := La.sm_congr p fun k hk => hz k (by omega) (by omega)
      have h0 : ∀ m, La.sm m (fun _ => (0 : Rat)) = 0 := fun m => by
        induction m with
        | zero => rfl
        | succ m ih => rw [La.sm, ih, Rat.add_zero]
      rw [this, h0, Rat.zero_add]
    · rw [sm_pick n (by omega) fun k hk hne => hz k (by omega) hne, hz n (by omega) (fun z => e z.symm), Rat.add_zero]
theorem unit_len (n p : Nat) : (unit n p).length = n := by simp [unit]
theorem unit_get {n p k : Nat} (h : k < n) : (unit n p).getD k 0 = if k = p then 1 else 0 := by
  unfold unit
  exact getD_map_range n _ k h
theorem units_led {o : List (List Rat)} {w m : Nat} (h : Tb o w m) : ((List.range o.length).map (unit o.length)).map (fun r => (List.range w).map fun k => dot r (col o k)) = o := by
  refine List.ext_getElem (by simp) fun p h1 h2 => ?_
  rw [List.getElem_map, List.getElem_map, List.getElem_range]
  have hl := h.len _ (List.getElem_mem h2)
  refine List.ext_getElem (by simp [hl]) fun k h3 h4 => ?_
  rw [List.getElem_map, List.getElem_range, dot_eq_sm (by rw [unit_len]; simp [col]), unit_len, sm_pick (p := p) o.length h2 fun j hj hne => by rw [unit_get hj, if_neg hne, Rat.zero_mul]]
  rw [unit_get h2, if_pos rfl, Rat.one_mul]
  unfold col
  rw [List.getD_eq_getElem?_getD, List.getElem?_map, List.getElem?_eq_getElem h2]
  simp only [Option.map_some, Option.getD_some]
  rw [List.getD_eq_getElem?_getD, List.getElem?_eq_getElem h4]
  rfl
theorem szs_unit (n p : Nat) : Szs 1 (unit n p) := fun q hq => by
  obtain ⟨k, _, rfl⟩ := List.mem_map.mp hq
  by_cases e : k = p
  · rw [if_pos e]; unfold Sz; decide
  · rw [if_neg e]; unfold Sz; decide
theorem cols_indep {n m : Nat} {t : List (List Rat)} (h : Tb t n m) (hn : t.length = n) {ls : List (Nat × La.F)} (E : La.Ech ls (t.map fn)) (hp : ∀ l ∈ ls, l.1 < n) (hs : ∀ l ∈ ls, ∀ c, n ≤ c → l.2 c = 0) : La.Indep (((List.range n).map (col t)).map fn) := by
  intro bs hb hz
  have hbl : bs.length = n := by simpa using hb
  intro b hmem
  obtain ⟨p, hpb⟩ := List.mem_iff_getElem?.mp hmem
  have hpn : p < n := by have := (List.getElem?_eq_some_iff.mp hpb).1; omega
  have hred := full_zero E hp hs (by simpa using hn) (x := fn (unit n p)) (fun c hc => fn_out (by rw [unit_len]; exact hc))
  obtain ⟨as, ha, he⟩ := E.span0 hred
  rw [List.length_map, hn] at ha
  have hget : ∀ i k, i < n → k < n → fn (t.getD i []) k = fn (col t k) i := fun i k hi hk => by
    have hit : i < t.length := by omega
    have e1 : t.getD i [] = t[i] := by rw [List.getD_eq_getElem?_getD, List.getElem?_eq_getElem hit]; rfl
    have e2 : (col t k).getD i 0 = (t[i]).getD k 0 := by
      unfold col
      rw [List.getD_eq_getElem?_getD, List.getElem?_map, List.getElem?_eq_getElem hit]
      rfl
    unfold fn
    rw [e1, e2]
  have h1 : ∀ c, fn (unit n p) c = La.sm n fun i => as.getD i 0 * fn (t.getD i []) c := fun c => by
    rw [he, lin_sm (fun i => as.getD i 0 * fn (t.getD i []) c) (by simp [ha, hn]) (fun i a f h1 h2 => by
      rw [List.getElem?_map] at h2
      cases h3 : t[i]? with
      | none => rw [h3] at h2; cases h2
      | some r =>
        rw [h3] at h2
        cases h2
        rw [List.getD_eq_getElem?_getD, h1, List.getD_eq_getElem?_getD, h3]
        rfl), ha]
  have h2 : ∀ i, i < n → (La.sm n fun k => bs.getD k 0 * fn (t.getD i []) k) = 0 := fun i hi => by
    have h3 := congrFun hz i
    rw [lin_sm (fun k => bs.getD k 0 * fn (t.getD i []) k) (by simpa using hb) (fun k a f h4 h5 => by
      have hk : k < n := by have := (List.getElem?_eq_some_iff.mp h4).1; omega
      rw [List.getElem?_map, List.getElem?_map, List.getElem?_range hk] at h5
      cases h5
      rw [List.getD_eq_getElem?_getD, h4, hget i k hi hk]
      rfl), hbl] at h3
    exact h3
  have h6 : La.sm n (fun c => bs.getD c 0 * fn (unit n p) c) = bs.getD p 0 := by
    rw [sm_pick (p := p) n hpn fun k hk hne => by unfold fn; rw [unit_get hk, if_neg hne, Rat.mul_zero]]
    unfold fn
    rw [unit_get hpn, if_pos rfl, Rat.mul_one]
  have h7 : La.sm n (fun c => bs.getD c 0 * fn (unit n p) c) = 0 := by
    have e : (fun c => bs.getD c 0 * fn (unit n p) c) = fun c => La.sm n fun i => as.getD i 0 * (bs.getD c 0 * fn (t.getD i []) c) := by
      funext c
      rw [h1 c, ← La.sm_smul]
      congr 1
      funext i
      grind
    rw [e, La.sm_swap]
    rw [La.sm_congr (h := fun _ => 0) n fun i hi => by rw [La.sm_smul, h2 i hi, Rat.mul_zero]]
    exact La.sm_zeros n
  rw [h6, List.getD_eq_getElem?_getD, hpb] at h7
  exact h7
def sumf (f : Nat → Nat) : Nat → Nat
  | 0 => 0
  | n + 1 => f 0 + sumf (fun i => f (i + 1)) n
theorem fold_lt2 : ∀ (r : List Rat) (f : Nat → Nat) (b m : Nat), (∀ (i : Nat) q, r[i]? = some q → q.den < 2 ^ f i) → b < 2 ^ m → 0 < b → r.foldl (fun b q => Nat.lcm b q.den) b < 2 ^ (m + sumf f r.length)
  | [], f, b, m, _, h, _ => by simpa [sumf] using h
  | q :: r, f, b, m, hr, h, h0 => by
    have h1 : Nat.lcm b q.den < 2 ^ (m + f 0) := by
      rw [Nat.pow_add]
      have : Nat.lcm b q.den ≤ b * q.den := Nat.le_of_dvd (Nat.mul_pos h0 q.den_pos) (Nat.lcm_dvd_mul _ _)
      exact Nat.lt_of_le_of_lt this (Nat.mul_lt_mul'' h (hr 0 q rfl))
    have := fold_lt2 r (fun i => f (i + 1)) _ (m + f 0) (fun i x hx => hr (i + 1) x (by simpa using hx)) h1 (lcm_pos' h0 q.den_pos)
    rw [List.length_cons, sumf]
    simp only [List.foldl_cons]
    rwa [show m + (f 0 + sumf (fun i => f (i + 1)) r.length) = m + f 0 + sumf (fun i => f (i + 1)) r.length by omega]
theorem wb_lt2 {r : List Rat} {f : Nat → Nat} (h : ∀ (i : Nat) q, r[i]? = some q → q.den < 2 ^ f i) : wb r < 2 ^ (1 + sumf f r.length) := fold_lt2 r f 1 1 h (by decide) (by decide)
theorem wn_bd2 {r : List Rat} {n m : Nat} (h : Szs n r) (hw : wb r < 2 ^ m) : ∀ x ∈ wn r, Bd (n + m) x := by
  intro x hx
  obtain ⟨q, hq, rfl⟩ := List.mem_map.mp hx
  refine Bd.mul (h q hq).1 (La.div_bd ?_)
  unfold Bd
  rw [Int.natAbs_natCast]
  exact hw
theorem forGo_or {t : Tg} {b : Sm} {s0 : Sta} {gd : List DV} {ds : List DV} (I : Nat → Sta → Prop) (R : DV → Sta → Prop)
    (step : ∀ (i : Nat) d st, ds[i]? = some d → I i st → ∃ s1, t.bind d st = .ok () s1 ∧ ((∃ s2, b s1 = .ok .nx s2 ∧ stays gd s0 s2 ∧ I (i + 1) s2) ∨ ∃ y s2, b s1 = .ok (.rt y) s2 ∧ R y s2)) :
    ∀ (n i : Nat) (st : Sta), n + i = ds.length → I i st → (∃ st', forGo t b s0 gd (ds.drop i) st = .ok .nx st' ∧ I ds.length st') ∨ ∃ y st', forGo t b s0 gd (ds.drop i) st = .ok (.rt y) st' ∧ R y st'
  | 0, i, st, e, h => .inl ⟨st, by rw [List.drop_eq_nil_of_le (by omega)]; rfl, by rw [← e, Nat.zero_add]; exact h⟩
  | n + 1, i, st, e, h => by
    have hi : i < ds.length := by omega
    obtain ⟨s1, h1, h2⟩ := step i ds[i] st (List.getElem?_eq_getElem hi) h
    rw [List.drop_eq_getElem_cons hi]
    unfold forGo
    rw [h1]
    simp only [Out.bind_ok]
    rcases h2 with ⟨s2, h2, h3, h4⟩ | ⟨y, s2, h2, h3⟩
    · rw [h2]
      simp only [Out.bind_ok]
      rw [if_pos h3]
      exact forGo_or I R step n (i + 1) s2 (by omega) h4
    · rw [h2]
      exact .inr ⟨y, s2, rfl, h3⟩
theorem for_or {t : Tg} {b : Sm} {s0 : Sta} {gd : List DV} {ds : List DV} (I : Nat → Sta → Prop) (R : DV → Sta → Prop) {st : Sta} (h0 : I 0 st)
    (step : ∀ (i : Nat) d st, ds[i]? = some d → I i st → ∃ s1, t.bind d st = .ok () s1 ∧ ((∃ s2, b s1 = .ok .nx s2 ∧ stays gd s0 s2 ∧ I (i + 1) s2) ∨ ∃ y s2, b s1 = .ok (.rt y) s2 ∧ R y s2)) :
    (∃ st', forGo t b s0 gd ds st = .ok .nx st' ∧ I ds.length st') ∨ ∃ y st', forGo t b s0 gd ds st = .ok (.rt y) st' ∧ R y st' := by
  have := forGo_or I R step ds.length 0 st (by omega) h0
  rwa [List.drop_zero] at this
theorem put_lin {n m : Nat} {t : List (List Rat)} {c : List Rat} (h : Tb t n m) (htl : t.length = n) (hc : c.length = n) : fn (t.map fun r => dot r c) = La.lin c (((List.range n).map (col t)).map fn) := by
  funext i
  by_cases hi : i < n
  · have hit : i < t.length := by omega
    have hl := h.len _ (List.getElem_mem hit)
    rw [lin_sm (fun k => c.getD k 0 * (t[i]).getD k 0) (by simp [hc]) (fun k a f h4 h5 => by
      have hk : k < n := by have := (List.getElem?_eq_some_iff.mp h4).1; omega
      rw [List.getElem?_map, List.getElem?_map, List.getElem?_range hk] at h5
      cases h5
      have e2 : fn (col t k) i = (t[i]).getD k 0 := by
        unfold fn col
        rw [List.getD_eq_getElem?_getD, List.getElem?_map, List.getElem?_eq_getElem hit]
        rfl
      rw [e2, List.getD_eq_getElem?_getD (l := c), h4]
      rfl)]
    unfold fn
    rw [List.getD_eq_getElem?_getD, List.getElem?_map, List.getElem?_eq_getElem hit]
    show dot t[i] c = _
    rw [dot_comm, dot_eq_sm (by omega)]
  · rw [fn_out (by simp; omega), La.lin_len0 fun k hk => by
      obtain ⟨x, hx, rfl⟩ := List.mem_map.mp hk
      obtain ⟨j, _, rfl⟩ := List.mem_map.mp hx
      exact fn_out (by simp [col]; omega)]
theorem Src.two {gh : List Ob} {k : Nat} (S : Src gh k) : 2 ≤ gh.length := by
  obtain ⟨c, a, b, d, g1, g2, g⟩ := S
  have := (List.getElem?_eq_some_iff.mp g2).1
  omega
theorem repr_lst2 {a b : DV} {k m : Nat} {p q : PyData} (h1 : Rp k m a p) (h2 : Rp k m b q) (hk : k ≤ 50) (hm : m ≤ 1000000) : ∃ x, reprF [.lst [a, b]] = some (.str x) := by
  have := Rp.lst (.cons h1 (.cons h2 .nil))
  have hl : 2 * (m + 2) + 3 ≤ 3000000 := by omega
  exact ⟨_, this.repr (by omega) (Nat.le_trans hl (by decide))⟩
theorem cal1_at {F : Fn} {f : Ex} {st s1 : Sta} {a d : DV} {gh' : List Ob} (h1 : Cv.out f st = .ok a s1) (h4 : F [a] s1.gh = .ok d gh') : calD F (consE f nilE) st = .ok d { s1 with gh := gh' } := by
  simp [-ap_out, h1, h4]
theorem cal2_at {F : Fn} {f g : Ex} {st s1 s2 : Sta} {a b d : DV} {gh' : List Ob} (h1 : Cv.out f st = .ok a s1) (h2 : Cv.out g s1 = .ok b s2) (h4 : F [a, b] s2.gh = .ok d gh') : calD F (consE f (consE g nilE)) st = .ok d { s2 with gh := gh' } := by
  simp [-ap_out, h1, h2, h4]
theorem out_tup {f : Ex} {st s : Sta} {ds : List DV} (h : f st = .ok (.tup ds) s) : Cv.out f st = .ok (.tup ds) s := by simp [h]
theorem repr_tab {t : List (List Rat)} {w : Nat} (hl : t.length ≤ 10) (hw : w ≤ 10) (h : ∀ r ∈ t, r.length ≤ w ∧ Szs 1919 r) : ∃ x, reprF [tab t] = some (.str x) := by
  obtain ⟨p, hp⟩ := rp_tab h
  have h1 : w * 3851 + 5 ≤ 38515 := by omega
  have h2 : t.length * (w * 3851 + 5) ≤ 10 * 38515 := Nat.mul_le_mul hl h1
  exact ⟨_, hp.repr (by decide) (Nat.le_trans (Nat.add_le_add_right h2 3) (by decide))⟩
theorem cal3_at {F : Fn} {f g h : Ex} {st s3 : Sta} {a b c d : DV} {gh' : List Ob} (h1 : out f st = .ok a st) (h2 : out g st = .ok b st) (h3 : out h st = .ok c s3) (h4 : F [a, b, c] s3.gh = .ok d gh') : calD F (consE f (consE g (consE h nilE))) st = .ok d { s3 with gh := gh' } := by
  simp [-ap_out, h1, h2, h3, h4]
theorem mul_rep {d : DV} {n : Nat} (h : n ≤ 1000) : mulF (.lst [d]) (.int (n : Nat)) = some (.lst (List.replicate n d)) := by
  have : n ≤ sizeLine := sl_of h
  have h2 : (n : Int) < 2 ^ 63 := by omega
  have e : (List.replicate n [d]).flatten = List.replicate n d := by
    induction n with
    | zero => rfl
    | succ n ih => rw [List.replicate_succ, List.flatten_cons, ih (by omega) (by omega) (by omega), List.replicate_succ]; rfl
  simp only [mulF]
  rw [if_pos ⟨by omega, h2, by simpa using this⟩, Int.toNat_natCast, e]
theorem repr_row {r : List Rat} {n : Nat} (h : Szs n r) (hn : n ≤ 1919) (hl : r.length ≤ 1000) : ∃ t, reprF [row r] = some (.str t) := by
  obtain ⟨p, hp⟩ := rp_row (h.mono hn)
  exact ⟨_, hp.repr (by decide) (Nat.le_trans (Nat.add_le_add_right (Nat.mul_le_mul_right _ hl) 3) (by decide))⟩
theorem seq_ok {f g : Sm} {st s : Sta} {r : Out Sta Fl} (h : f st = .ok .nx s) (k : g s = r) : seqS f g st = r := by
  rw [ap_seq, h]
  exact k
def Old (ks : List La.F) : Prop := ∃ (ls : List (Nat × La.F)) (j : Nat) (k : La.F), ks[j]? = some k ∧ La.Ech ls (ks.take j) ∧ La.red ls k = fun _ => 0
def Free (n : Nat) (ks : List La.F) : Prop := ∃ ls : List (Nat × La.F), La.Ech ls ks ∧ (∀ l ∈ ls, l.1 < n) ∧ ∀ l ∈ ls, ∀ c, n ≤ c → l.2 c = 0
theorem old_free {ks : List La.F} (I : La.Indep ks) (O : Old ks) : False := by
  obtain ⟨ls, j, k, h1, h2, h3⟩ := O
  exact I.new h1 h2 h3
theorem led_nil {gh : List Ob} : f_row_led [.tup [], .tup []] gh = .ok (.tup []) gh := by
  have h : eqF (.tup []) (.tup []) = some (.bl true) := eq_self (Rp.tup (Rps.nil (k := 0) (n := 0))) rfl (by decide)
  have s0 : 0 ≤ sizeLine := Nat.zero_le _
  simp [f_row_led, runF, entry, b_row_led, h, s0]
theorem across_nil {gh : List Ob} : f_across [.tup []] gh = .ok (.tup []) gh := by
  have h : neF (.tup []) (.tup []) = some (.bl false) := ne_self (Rp.tup (Rps.nil (k := 0) (n := 0))) rfl (by decide)
  have s0 : 0 ≤ sizeLine := Nat.zero_le _
  simp [f_across, runF, entry, b_across, h, s0]
theorem ne_bb (b : Bool) : neF (.bl b) (.bl b) = some (.bl false) := ne_self (Rp.bl b) rfl (by decide)
end K07
end
section
set_option Elab.async false
set_option linter.all false
set_option maxRecDepth 100000
set_option exponentiation.threshold 20000
namespace K07
open PySem L2 Cv
theorem part_loop (y : Option DV) : ∀ (k : Nat) (a b : Int) (gh : List Ob), 0 ≤ a → 0 ≤ b → b < k → wl (vw2 gtF (var 2) (cst (.int 0))) (parS [0, 2] [(var 2), (vw2 modF (bltE intF [(var 0)]) (var 2))]) k ⟨[some (.int a), y, some (.int b)], [], gh⟩ =
    .ok .nx ⟨[some (.int (Nat.gcd a.natAbs b.natAbs : Nat)), y, some (.int 0)], [], gh⟩
  | 0, a, b, gh, ha, hb, h => by omega
  | k + 1, a, b, gh, ha, hb, h => by
    unfold wl
    by_cases hc : 0 < b
    · have hm0 := Int.emod_nonneg a (Int.ne_of_gt hc)
      have hm1 := Int.emod_lt_of_pos a hc
      have ih := part_loop y k b (a % b) gh hb hm0 (by omega)
      have e : a.fmod b = a % b := Int.fmod_eq_emod_of_nonneg a hb
      have eg : Nat.gcd b.natAbs (a % b).natAbs = Nat.gcd a.natAbs b.natAbs := by
        have : (a % b).natAbs = a.natAbs % b.natAbs := by
          rw [Int.natAbs_emod_of_nonneg ha]
        rw [this, Nat.gcd_comm a.natAbs, Nat.gcd_rec b.natAbs a.natAbs, Nat.gcd_comm]
      rw [eg] at ih
      simp [hc, mod_ii (Int.ne_of_gt hc), e]
      exact ih
    · have : b = 0 := by omega
      subst this
      have : ((a.natAbs : Nat) : Int) = a := by omega
      simp [this]
theorem law_part_ok {a b : Int} {gh : List Ob} : f__law_part [.int a, .int b] gh = .ok (.int (Nat.gcd a.natAbs b.natAbs : Nat)) gh := by
  have h := part_loop (some (.int b)) ((if b < 0 then -b else b).toNat + 1) (if a < 0 then -a else a) (if b < 0 then -b else b) gh (by split <;> omega) (by split <;> omega) (by split <;> omega)
  have ea : (if a < 0 then -a else a).natAbs = a.natAbs := by split <;> omega
  have eb : (if b < 0 then -b else b).natAbs = b.natAbs := by split <;> omega
  rw [ea, eb] at h
  have hw := whlS_eq (f := vw2 gtF (var 2) (cst (.int 0))) (b := parS [0, 2] [(var 2), (vw2 modF (bltE intF [(var 0)]) (var 2))]) (n := (if b < 0 then -b else b).toNat + 1) (st := ⟨[some (.int (if a < 0 then -a else a)), some (.int b), some (.int (if b < 0 then -b else b))], [], gh⟩) (by rw [h]; simp)
  simp [f__law_part, runF, entry, b__law_part]
  rw [hw, h]
  simp
theorem law_num_ok {n : Nat} {a b : Int} {gh : List Ob} (hb : b ≠ 0) (h : Bd n b) (l : n < 9000) : f__law_num [.int a, .int b] gh = .ok (rv (Rat.divInt a b)) gh := by
  have hp := part_ok (a := a) hb h l
  have h1 := low_num (a := a) hb
  have h2 := low_den (a := a) hb
  by_cases hc : 0 < b
  · rw [if_pos hc] at hp h1 h2
    simp [f__law_num, runF, entry, b__law_num, hc, law_part_ok, fdv_ii hp, h1, h2, sizeLine, rv]
  · rw [if_neg hc] at hp h1 h2
    simp [f__law_num, runF, entry, b__law_num, hc, law_part_ok, fdv_ii hp, h1, h2, sizeLine, rv]
theorem law_add_ok {m n : Nat} {p q : Rat} {gh : List Ob} (hp : Sz m p) (hq : Sz n q) (l : m + n < 9000) : f__law_add [rv p, rv q] gh = .ok (rv (p + q)) gh := by
  have h1 := law_num_ok (a := p.num * q.den + q.num * p.den) (gh := gh) (den2_ne p q) (hp.den.mul hq.den) l
  rw [add_divInt] at h1
  simp [f__law_add, runF, entry, b__law_add, mul_ii (mulOk_bd hp.num hq.den (by omega)), mul_ii (mulOk_bd hq.num hp.den (by omega)), mul_ii (mulOk_bd hp.den hq.den (by omega)), h1]
theorem law_mul_ok {m n : Nat} {p q : Rat} {gh : List Ob} (hp : Sz m p) (hq : Sz n q) (l : m + n < 9000) : f__law_mul [rv p, rv q] gh = .ok (rv (p * q)) gh := by
  have h1 := law_num_ok (a := p.num * q.num) (gh := gh) (den2_ne p q) (hp.den.mul hq.den) l
  rw [mul_divInt] at h1
  simp [f__law_mul, runF, entry, b__law_mul, mul_ii (mulOk_bd hp.num hq.num (by omega)), mul_ii (mulOk_bd hp.den hq.den (by omega)), h1]
theorem ratio_less_ok {m n : Nat} {p q : Rat} {gh : List Ob} (hp : Sz m p) (hq : Sz n q) (l : m + n < 9000) : f_ratio_less [rv p, rv q] gh = .ok (rv (p - q)) gh := by
  have h1 := ratio_of_ok (a := p.num * q.den - q.num * p.den) (gh := gh) (den2_ne p q) (hp.den.mul hq.den) l
  rw [sub_divInt] at h1
  simp [f_ratio_less, runF, entry, b_ratio_less, mul_ii (mulOk_bd hp.num hq.den (by omega)), mul_ii (mulOk_bd hq.num hp.den (by omega)), mul_ii (mulOk_bd hp.den hq.den (by omega)), h1]
theorem ratio_quotient_ok {m n : Nat} {p q : Rat} {gh : List Ob} (hp : Sz m p) (hq : Sz n q) (h0 : q ≠ 0) (l : m + n < 9000) : f_ratio_quotient [rv p, rv q] gh = .ok (rv (p / q)) gh := by
  have h1 := ratio_of_ok (a := p.num * q.den) (gh := gh) (Int.mul_ne_zero (den_ne p) (num_ne h0)) (hp.den.mul hq.num) l
  rw [div_divInt] at h1
  simp [f_ratio_quotient, runF, entry, b_ratio_quotient, mul_ii (mulOk_bd hp.num hq.den (by omega)), mul_ii (mulOk_bd hp.den hq.num (by omega)), h1]
theorem law_is_ok {n m : Nat} {a b : Int} {gh : List Ob} (hb : b ≠ 0) (ha : Bd n a) (hbb : Bd n b) (hm : n + n < 9000) : f__law_is [rv (Rat.divInt a b), .int a, .int b] gh = .ok (.bl true) gh := by
  have hq : Sz n (Rat.divInt a b) := Sz.divInt hb ha hbb
  have hcross : (Rat.divInt a b).num * b = a * (Rat.divInt a b).den := by
    have h1 := Rat.num_divInt_den (Rat.divInt a b)
    exact (Rat.divInt_eq_divInt_iff (den_ne _) hb).mp h1
  generalize Rat.divInt a b = q at *
  have hg : Nat.gcd q.num.natAbs q.den = 1 := q.reduced
  have hd : ¬ ((q.den : Nat) : Int) ≤ 0 := by have := q.den_pos; omega
  have hn1 : neF (.int ((Nat.gcd q.num.natAbs ((q.den : Nat) : Int).natAbs : Nat) : Int)) (.int 1) = some (.bl false) := by
    rw [Int.natAbs_natCast, hg, ne_ii]; rfl
  have hm1 := mul_ii (mulOk_bd hq.num hbb (by omega))
  have hm2 := mul_ii (mulOk_bd ha hq.den (by omega))
  have he : eqF (.int (q.num * b)) (.int (a * q.den)) = some (.bl true) := by rw [hcross, eq_ii, decide_eq_true rfl]
  rw [Int.natAbs_natCast] at hn1
  have hd2 : ¬ q.den = 0 := q.den_nz
  simp [f__law_is, runF, entry, b__law_is, hd2, law_part_ok, hn1, hm1, hm2, he]
theorem is_ratio_ok {n : Nat} {q : Rat} {gh : List Ob} (hq : Sz n q) : f_is_ratio [rv q] gh = .ok (.bl true) gh := by
  have hg : Nat.gcd q.num.natAbs q.den = 1 := q.reduced
  have hd : (0 : Int) < ((q.den : Nat) : Int) := by have := q.den_pos; omega
  have hw : ∀ i : Int, f_is_whole [.int i] gh = .ok (.bl true) gh := fun i => by
    simp [f_is_whole, runF, entry, b_is_whole, isiF, isiTs, tyN, isiB]
  have hl : neF (.int 2) (.int 2) = some (.bl false) := by rw [ne_ii]; rfl
  have he : eqF (.int ((Nat.gcd q.num.natAbs ((q.den : Nat) : Int).natAbs : Nat) : Int)) (.int 1) = some (.bl true) := by
    rw [Int.natAbs_natCast, hg, eq_ii]; rfl
  have hi : isiF "tuple" (rv q) = some (.bl true) := by simp [isiF, isiTs, tyN, isiB, rv]
  have hlen : lenF [rv q] = some (.int 2) := rfl
  rw [Int.natAbs_natCast] at he
  have hd2 : 0 < q.den := q.den_pos
  simp [f_is_ratio, runF, entry, b_is_ratio, hi, hlen, hl, hw, hd2, he]
structure Dn (q : Rat) : Prop where
  sz : Sz 104 q
  den : q.den ≤ 12
theorem drawn_ok {gh : List Ob} {k : Nat} (S : Src gh (k + 4)) : ∃ (q : Rat) (gh' : List Ob), f__law_drawn [.glb 1] gh = .ok (rv q) gh' ∧ Dn q ∧ Src gh' k ∧ Fr gh gh' := by
  obtain ⟨p1, g1, a1, a2, a3, a4, a5⟩ := pick_ok (many := 19) (k := k + 3) S (by omega) (by unfold Bd; decide)
  obtain ⟨p2, g2, b1, b2, b3, b4, b5⟩ := pick_ok (many := 6) (k := k + 2) a4 (by omega) (by unfold Bd; decide)
  have fin : ∀ (t : Int) (g3 : List Ob), -(9 * 10 ^ 30 + 6) ≤ t → t ≤ 9 * 10 ^ 30 + 6 → ∀ (p4 : Int) (g4 : List Ob), 0 ≤ p4 → p4 < 12 → f__law_num [.int t, .int (1 + p4)] g4 = .ok (rv (Rat.divInt t (1 + p4))) g4 ∧ Dn (Rat.divInt t (1 + p4)) := fun t g3 h1 h2 p4 g4 h3 h4 => by
    have hb : (1 : Int) + p4 ≠ 0 := by omega
    have hbd : Bd 4 (1 + p4) := by unfold Bd; omega
    have htb : Bd 104 t := by
      unfold Bd
      have : (9 * 10 ^ 30 + 6 : Nat) < 2 ^ 104 := by decide
      omega
    refine ⟨law_num_ok hb hbd (by omega), Sz.divInt hb htb (hbd.mono (by omega)), ?_⟩
    rw [Rat.den_divInt, if_neg hb]
    have := Nat.div_le_self (1 + p4).natAbs ((1 + p4).gcd t)
    omega
  by_cases hp : p2 = 0
  · obtain ⟨p3, g3, c1, c2, c3, c4, c5⟩ := pick_ok (many := 7) (k := k + 1) b4 (by omega) (by unfold Bd; decide)
    obtain ⟨p4, g4, d1, d2, d3, d4, d5⟩ := pick_ok (many := 12) (k := k) c4 (by omega) (by unfold Bd; decide)
    have e10 : (10 : Int) ^ (30 : Int).toNat = 10 ^ 30 := rfl
    have hpow : powF (.int 10) (.int 30) = some (.int (10 ^ 30)) := by
      simp only [powF]
      rw [if_pos ⟨by decide, by decide, by decide⟩]
      rfl
    have hm : mulOk (p1 - 9) (10 ^ 30) := mulOk_bd (m := 5) (n := 101) (by unfold Bd; omega) (by unfold Bd; decide) (by omega)
    obtain ⟨f1, f2⟩ := fin ((p1 - 9) * 10 ^ 30 + p3) g3 (by omega) (by omega) p4 g4 d2 d3
    refine ⟨_, g4, ?_, f2, d4, ((a5.trans b5).trans c5).trans d5⟩
    have hmm := mul_ii hm
    clear e10 hm
    generalize ((10 : Int) ^ 30) = N at *
    simp [f__law_drawn, runF, entry, b__law_drawn, a1, b1, hp, eq_ii, hpow, hmm, c1, d1, f1]
  · obtain ⟨p4, g4, d1, d2, d3, d4, d5⟩ := pick_ok (many := 12) (k := k + 1) b4 (by omega) (by unfold Bd; decide)
    obtain ⟨f1, f2⟩ := fin (p1 - 9) g2 (by omega) (by omega) p4 g4 d2 d3
    refine ⟨_, g4, ?_, f2, d4.mono (by omega), (a5.trans b5).trans d5⟩
    simp [f__law_drawn, runF, entry, b__law_drawn, a1, b1, hp, eq_ii, d1, f1]
theorem law_sum_ok {m : Nat} {r : List Rat} {gh : List Ob} (hr : Szs m r) (l : 1 + r.length * (m + 1) + m < 9000) : f__law_sum [.lst (r.map rv)] gh = .ok (rv r.sum) gh ∧ Sz (1 + r.length * (m + 1)) r.sum := by
  have e0 : f__law_sum [.lst (r.map rv)] gh = leave (b__law_sum ⟨[some (.lst (r.map rv)), none, none], [], gh⟩) := rfl
  rw [e0]
  unfold b__law_sum
  have er0 : rv 0 = .tup [.int 0, .int 1] := rfl
  obtain ⟨st', g1, u, g2, g3⟩ := for_ok (t := .one 2) (b := asgS (.one 1) (calD f__law_add (consE (var 1) (consE (var 2) nilE))))
    (s0 := ⟨[some (.lst (r.map rv)), some (rv 0), none], [], gh⟩) (gd := []) (ds := r.map rv)
    (fun i st => ∃ u, st = (⟨[some (.lst (r.map rv)), some (rv (r.take i).sum), u], [], gh⟩ : Sta) ∧ Sz (1 + i * (m + 1)) (r.take i).sum)
    (st := ⟨[some (.lst (r.map rv)), some (rv 0), none], [], gh⟩) ⟨none, by simp, by simp; exact Sz.zero⟩
    (fun i d st hd ⟨u, hst, hz⟩ => by
      subst hst
      rw [List.getElem?_map] at hd
      cases hri : r[i]? with
      | none => rw [hri] at hd; cases hd
      | some a =>
        rw [hri] at hd; cases hd
        have hi : i < r.length := (List.getElem?_eq_some_iff.mp hri).1
        have him : i * (m + 1) ≤ r.length * (m + 1) := Nat.mul_le_mul_right _ (by omega)
        have hs : (r.take (i + 1)).sum = (r.take i).sum + a := by
          rw [List.take_add_one, hri]
          simp [List.sum_append, Rat.add_zero]
        refine ⟨_, rfl, ⟨[some (.lst (r.map rv)), some (rv (r.take (i + 1)).sum), some (rv a)], [], gh⟩, .inl ?_, stays_nil _ _, _, rfl, ?_⟩
        · rw [hs]
          simp [law_add_ok hz (hr.at hri) (by omega)]
        · rw [hs]
          exact (hz.add (hr.at hri)).mono (by rw [Nat.succ_mul]; omega))
  rw [List.length_map, List.take_length] at g2 g3
  subst g2
  refine ⟨?_, g3⟩
  rw [er0] at g1
  simp [sizeLine, g1]
theorem prod_szs {m n : Nat} {r s : List Rat} (hr : Szs m r) (hs : Szs n s) : Szs (m + n) (List.zipWith (fun a b => a * b) r s) := fun x hx => by
  obtain ⟨i, hi⟩ := List.mem_iff_getElem?.mp hx
  rw [List.getElem?_zipWith] at hi
  cases h1 : r[i]? with
  | none => rw [h1] at hi; cases hi
  | some a =>
    cases h2 : s[i]? with
    | none => rw [h1, h2] at hi; cases hi
    | some b =>
      rw [h1, h2] at hi; cases hi
      exact (hr.at h1).mul (hs.at h2)
theorem law_led_ok {t : List (List Rat)} {w m n : Nat} {r : List Rat} {gh : List Ob} (h : Tb t w m) (h0 : t ≠ []) (hr : Szs n r) (hl : r.length = t.length) (l : 1 + t.length * (n + m + 1) + (n + m) < 9000) : f__law_led [row r, tab t] gh = .ok (row ((List.range w).map fun k => dot r (col t k))) gh := by
  obtain ⟨r0, hr0⟩ : ∃ r, t[0]? = some r := by cases t with
    | nil => exact absurd rfl h0
    | cons a t => exact ⟨a, rfl⟩
  have hw := (h.mem hr0).1
  have e0 : f__law_led [row r, tab t] gh = leave (b__law_led ⟨[some (row r), some (tab t), none, none, none], [], gh⟩) := rfl
  rw [e0]
  unfold b__law_led
  have ho := lc_rng (i := 2) (n := w) (own := [2]) (f := calD f__law_sum (consE (lcE .val (.many [3, 4]) [3, 4] (zipI false (var 0) (var 1)) (cst (.bl true)) (calD f__law_mul (consE (var 3) (consE (vw2 ixF (var 4) (var 2)) nilE)))) nilE)) (s0 := ⟨[some (row r), some (tab t), none, none, none], [], gh⟩) (gd := []) (w := rv) (op := fun k => dot r (col t k)) (fun k hk => by
    have hl2 := lc_zip (i := 3) (j := 4) (own := [3, 4]) (f := calD f__law_mul (consE (var 3) (consE (vw2 ixF (var 4) (var 2)) nilE))) (s0 := ⟨[some (row r), some (tab t), some (.int (k : Nat)), none, none], [], gh⟩) (gd := []) (r := r) (s := t) (u := rv) (v := row) (w := rv) (op := fun a line => a * line.getD k 0) (fun j a q ha hq => by
      have hkl : k < q.length := by rw [(h.mem hq).1]; exact hk
      have hz : Sz m (q.getD k 0) := by
        rw [List.getD_eq_getElem?_getD, List.getElem?_eq_getElem hkl]
        exact (h.mem hq).2 _ (List.getElem_mem hkl)
      have hx := ix_row hkl
      have hlm := law_mul_ok (gh := gh) (hr.at ha) hz (by omega)
      show Gv _ (rv (a * q.getD k 0)) _
      generalize q.getD k 0 = z at *
      simp [hx, hlm])
    simp only at hl2
    have hcs : Szs m (col t k) := fun x hx => by
      obtain ⟨q, hq, rfl⟩ := List.mem_map.mp hx
      have hkl : k < q.length := by rw [h.len q hq]; exact hk
      rw [List.getD_eq_getElem?_getD, List.getElem?_eq_getElem hkl]
      exact h.sz q hq _ (List.getElem_mem hkl)
    have hp : List.zipWith (fun a line => a * line.getD k 0) r t = List.zipWith (fun a b => a * b) r (col t k) := by
      unfold col
      rw [List.zipWith_map_right]
    rw [hp] at hl2
    have hpl : (List.zipWith (fun a b => a * b) r (col t k)).length = t.length := by simp [col]; omega
    have hs := (law_sum_ok (gh := gh) (prod_szs hr hcs) (by rw [hpl]; exact l)).1
    have hz : (zipL (r.map rv) (t.map row)).length ≤ sizeLine := sl_of (by have := h.l1; simp [zipL]; omega)
    have hd : (List.zipWith (fun a b => a * b) r (col t k)).sum = dot r (col t k) := rfl
    rw [hd] at hs
    generalize (List.zipWith (fun a b => a * b) r (col t k)).map rv = PP at *
    rw [show tab t = .tup (t.map row) from rfl] at *
    rw [show row r = .tup (r.map rv) from rfl] at *
    generalize t.map row = TT at *
    generalize r.map rv = RR at *
    simp [hz, hl2, hs])
  simp only at ho
  have hrg : rng1 (bltE lenF [(vw2 ixF (var 1) (cst (.int 0)))]) ⟨[some (row r), some (tab t), none, none, none], [], gh⟩ = .ok ⟨rngL 0 w, []⟩ ⟨[some (row r), some (tab t), none, none, none], [], gh⟩ := rng_ok (by simp [ix_head hr0, hw]) (by have := h.l2; omega)
  have hlen : (rngL 0 w).length ≤ sizeLine := sl_of (by simp [rngL]; exact h.l2)
  simp [hrg, hlen, ho]
end K07
end
section
set_option Elab.async false
set_option linter.all false
set_option maxRecDepth 100000
set_option exponentiation.threshold 20000
namespace K07
open PySem L2 Cv
structure CS (gh : List Ob) (b n β : Nat) (ks : List (List Rat)) (ls : List (Nat × La.F)) (es : List (Nat × List Int)) (bots : List Nat) : Prop where
  H : Hold gh b bots es
  B : Bas β n ks ls es bots
  P : ∀ l ∈ ls, l.1 < n
theorem CS.n {gh : List Ob} {b n β : Nat} {ks : List (List Rat)} {ls : List (Nat × La.F)} {es : List (Nat × List Int)} {bots : List Nat} (C : CS gh b n β ks ls es bots) : ks.length ≤ n ∧ es.length = ks.length := by
  have h2 := few_of n _ (C.B.E.few C.P) (fun x hx => by
    obtain ⟨l, hl, rfl⟩ := List.mem_map.mp hx
    exact C.P l hl)
  have h3 := C.B.E.len
  simp only [List.length_map] at h2 h3
  exact ⟨by omega, C.B.n⟩
structure Bits (n m w β s v M : Nat) : Prop where
  n4 : n ≤ 4
  h1 : m + (1 + m * n) < 9000
  h2 : m + w ≤ β
  h3 : 1 ≤ β
  h4 : β + tot β 4 < 8999
  h5 : s + (1 + s * n) < 9000
  h6 : s + v ≤ M
  h7 : β ≤ M
  h8 : M + tot β 4 + M < 8999
theorem CS.put {gh : List Ob} {b n m w β s v M : Nat} {ks : List (List Rat)} {ls : List (Nat × La.F)} {es : List (Nat × List Int)} {bots : List Nat} (N : Bits n m w β s v M) (C : CS gh b n β ks ls es bots) {r : List Rat} (hr : r.length = n) (hs : Szs m r) (hwb : wb r < 2 ^ w) :
    (La.red ls (fn r) = (fun _ => 0) → f_RowBasis_put [.glb b, row r] gh = .ok (.bl false) gh) ∧
    (La.red ls (fn r) ≠ (fun _ => 0) → ∃ gh' ls' es', f_RowBasis_put [.glb b, row r] gh = .ok (.bl true) gh' ∧ CS gh' b n β (ks ++ [r]) ls' es' (bots ++ [wb r]) ∧ Else b gh gh') := by
  obtain ⟨n1, n2⟩ := C.n
  have h4 := N.h4
  have hn4 := N.n4
  have ht := tot_mono β (i := es.length) (j := 4) (by omega)
  have h2 := N.h2
  obtain ⟨p1, p2⟩ := put_ok C.B C.H (x := row r) (.inr rfl) hr hs (by rw [hr]; exact N.h1) (fun x hx => (wn_bd2 hs hwb x hx).mono h2) (Nat.lt_of_lt_of_le hwb (Nat.pow_le_pow_right (by decide) (by omega))) N.h3 (by omega) (by omega)
  refine ⟨p1, fun hne => ?_⟩
  obtain ⟨gh', es', p, ps, q1, q2, q3, q4, q5⟩ := p2 hne
  have hpm : p < n := (pls_mem.mp (show p ∈ pls n (La.red ls (fn r)) by rw [q2]; exact List.mem_cons_self)).1
  refine ⟨gh', _, es', q1, ⟨q3, q5, fun l hl => ?_⟩, q4⟩
  rcases List.mem_append.mp hl with z | z
  · exact C.P l z
  · rw [List.mem_singleton.mp z]; exact hpm
theorem one_solution_ok {t : List (List Rat)} {n m w β s v M : Nat} {r : List Rat} {gh : List Ob} (N : Bits n m w β s v M) (h : Tb t n m) (hm : m ≤ 1919) (hn1 : 1 ≤ n) (htl : t.length = n) (hcw : ∀ k, k < n → wb (col t k) < 2 ^ w) (hr : r.length = n) (hs : Szs s r) (hwr : wb r < 2 ^ v) :
    ∃ gh' y, f_one_solution [tab t, row r] gh = .ok y gh' ∧ (∀ k, k < gh.length → gh'[k]? = gh[k]?) ∧
      ((∃ ls j k, ((List.range n).map (col t))[j]? = some k ∧ La.Ech ls ((((List.range n).map (col t)).map fn).take j) ∧ La.red ls (fn k) = (fun _ => 0) ∧ y = .non) ∨
       ∃ ls, La.Ech ls (((List.range n).map (col t)).map fn) ∧ (∀ l ∈ ls, l.1 < n) ∧ (∀ l ∈ ls, ∀ c, n ≤ c → l.2 c = 0) ∧ ∃ fs : List Rat, y = .tup (fs.map rv) ∧ fs.length = n ∧ La.lin fs (((List.range n).map (col t)).map fn) = fn r) := by
  have e0 : f_one_solution [tab t, row r] gh = leave (b_one_solution ⟨[some (tab t), some (row r), none, none], [], gh⟩) := rfl
  have ha := across_ok (gh := gh ++ [.ins "RowBasis" ["bottoms", "echelon"] [.glb (gh.length + 1), .glb (gh.length + 2)], .lst [], .lst []]) h hm (fun z => by rw [z] at htl; simp at htl; omega)
  have hi := init_ok (gh := gh) (st := ⟨[some (tab t), some (row r), none, none], [], gh⟩) rfl
  have hcl : ((List.range n).map (col t)).length = n := by simp
  have hcs : ∀ (j : Nat) k, ((List.range n).map (col t))[j]? = some k → k.length = n ∧ Szs m k ∧ wb k < 2 ^ w := fun j k hk => by
    obtain ⟨i, hi, rfl⟩ := List.mem_map.mp (List.mem_of_getElem? hk)
    have hin := List.mem_range.mp hi
    exact ⟨by simp [col, htl], col_szs h hin, hcw i hin⟩
  generalize (List.range n).map (col t) = cs at *
  have hfo := for_or (t := .one 3) (b := ifS (notE (metE "RowBasis" "put" f_RowBasis_put (var 2) (consE (var 3) nilE))) (retS (cst .non)) pasS)
    (s0 := ⟨[some (tab t), some (row r), some (.glb gh.length), none], [], gh ++ [.ins "RowBasis" ["bottoms", "echelon"] [.glb (gh.length + 1), .glb (gh.length + 2)], .lst [], .lst []]⟩) (gd := []) (ds := cs.map row)
    (fun i st => ∃ y3 gh' ls es bots, st = (⟨[some (tab t), some (row r), some (.glb gh.length), y3], [], gh'⟩ : Sta) ∧ CS gh' gh.length n β (cs.take i) ls es bots ∧ ∀ k, k < gh.length → gh'[k]? = gh[k]?)
    (fun y st => y = .non ∧ (∀ k, k < gh.length → st.gh[k]? = gh[k]?) ∧ ∃ ls j k, cs[j]? = some k ∧ La.Ech ls ((cs.map fn).take j) ∧ La.red ls (fn k) = (fun _ => 0))
    (st := ⟨[some (tab t), some (row r), some (.glb gh.length), none], [], gh ++ [.ins "RowBasis" ["bottoms", "echelon"] [.glb (gh.length + 1), .glb (gh.length + 2)], .lst [], .lst []]⟩)
    ⟨none, _, [], [], [], rfl, ⟨Hold.new gh, Bas.nil β n, by simp⟩, fun k hk => List.getElem?_append_left hk⟩
    (fun i d st hd ⟨y3, gh', ls, es, bots, hst, C, hsame⟩ => by
      subst hst
      rw [List.getElem?_map] at hd
      cases hx : cs[i]? with
      | none => rw [hx] at hd; cases hd
      | some k =>
        rw [hx] at hd; cases hd
        obtain ⟨a1, a2, a3⟩ := hcs i k hx
        obtain ⟨p1, p2⟩ := C.put N a1 a2 a3
        refine ⟨⟨[some (tab t), some (row r), some (.glb gh.length), some (row k)], [], gh'⟩, rfl, ?_⟩
        by_cases hz : La.red ls (fn k) = fun _ => 0
        · refine .inr ⟨.non, ⟨[some (tab t), some (row r), some (.glb gh.length), some (row k)], [], gh'⟩, ?_, rfl, hsame, ls, i, k, hx, ?_, hz⟩
          · simp [C.H.i, fGet, metO, p1 hz]
          · have := C.B.E
            rwa [List.map_take] at this
        · obtain ⟨gh2, ls', es', q1, q2, q3⟩ := p2 hz
          refine .inl ⟨⟨[some (tab t), some (row r), some (.glb gh.length), some (row k)], [], gh2⟩, ?_, stays_nil _ _, some (row k), gh2, ls', es', bots ++ [wb k], rfl, ?_, fun j hj => by rw [q3.same j (by omega) (by omega)]; exact hsame j hj⟩
          · simp [C.H.i, fGet, metO, q1]
          · rw [List.take_add_one, hx]
            exact q2)
  rcases hfo with ⟨st', g1, y3, gh', ls, es, bots, hst, C, hsame⟩ | ⟨y, st', g1, hy, hsame, ls, j, k, hj, E, hz⟩
  · subst hst
    rw [List.length_map, List.take_length] at C
    obtain ⟨n1, n2⟩ := C.n
    have hn4 := N.n4
    have ht := tot_mono β (i := es.length) (j := 4) (by omega)
    have h6 := N.h6
    have h8 := N.h8
    have h3 := N.h3
    have h7 := N.h7
    have hf := (factors_ok C.B C.H (x := row r) (.inr rfl) hr hs (by rw [hr]; exact N.h5) (m := M) (fun x hx => (wn_bd2 hs hwr x hx).mono h6) (Nat.lt_of_lt_of_le hwr (Nat.pow_le_pow_right (by decide) (by omega))) (by omega) h7 (by omega) (by omega)).2 (full_zero C.B.E C.P C.B.sup (by simpa using hcl) fun c hc => fn_out (by omega))
    obtain ⟨fs, f1, f2, f3, f4⟩ := hf
    refine ⟨gh', .tup (fs.map rv), ?_, hsame, .inr ⟨ls, C.B.E, C.P, C.B.sup, fs, rfl, f2.trans hcl, f3⟩⟩
    rw [e0]
    unfold b_one_solution
    simp [-ap_mak, hi, ha, g1, C.H.i, fGet, metO, f1]
  · subst hy
    refine ⟨st'.gh, .non, ?_, hsame, .inl ⟨ls, j, k, hj, E, hz, rfl⟩⟩
    rw [e0]
    unfold b_one_solution
    simp [-ap_mak, hi, ha, g1]
theorem sol_ok {t : List (List Rat)} {n m w β s v M : Nat} {r : List Rat} {gh : List Ob} (N : Bits n m w β s v M) (h : Tb t n m) (hm : m ≤ 1919) (hn1 : 1 ≤ n) (htl : t.length = n) (hcw : ∀ k, k < n → wb (col t k) < 2 ^ w) (hr : r.length = n) (hs : Szs s r) (hwr : wb r < 2 ^ v) :
    ∃ gh' y, f_one_solution [tab t, row r] gh = .ok y gh' ∧ (∀ k, k < gh.length → gh'[k]? = gh[k]?) ∧ (¬ La.Indep (t.map fn) → y = .non) ∧
      ∀ c : List Rat, c.length = n → r = (t.map fun q => dot q c) → (y = .non ∨ y = row c) ∧ (La.Indep (((List.range n).map (col t)).map fn) → y = row c) := by
  obtain ⟨gh', y, h1, h2, h3⟩ := one_solution_ok (gh := gh) N h hm hn1 htl hcw hr hs hwr
  have hcl : (((List.range n).map (col t)).map fn).length = n := by simp
  refine ⟨gh', y, h1, h2, fun hd => ?_, fun c hc hrc => ?_⟩
  · rcases h3 with ⟨ls, j, k, g1, g2, g3, g4⟩ | ⟨ls, g1, g2, g3, fs, g4, g5, g6⟩
    · exact g4
    · have hl : ((List.range n).map (col t)).length = n := by simp
      have hcb := h.cols
      rw [htl] at hcb
      have I := cols_indep hcb hl g1 g2 g3
      have e : (List.range n).map (col ((List.range n).map (col t))) = t := by
        refine List.ext_getElem (by simp [htl]) fun i h1 h2 => ?_
        rw [List.getElem_map, List.getElem_range, col_cols h h2]
      rw [e] at I
      exact absurd I hd
  · rcases h3 with ⟨ls, j, k, g1, g2, g3, g4⟩ | ⟨ls, g1, g2, g3, fs, g4, g5, g6⟩
    · exact ⟨.inl g4, fun I => (old_free I ⟨ls, j, fn k, by rw [List.getElem?_map, g1]; rfl, g2, g3⟩).elim⟩
    · have : fs = c := g1.uniq (by rw [hcl, g5]) (by rw [hcl, hc]) (by rw [g6, hrc, put_lin h htl hc])
      rw [g4, this]
      exact ⟨.inr rfl, fun _ => rfl⟩
theorem twice_dep {a : La.F} {ks : List La.F} : ¬ La.Indep (a :: a :: ks) := fun I => by
  have := I (1 :: (-1) :: List.replicate ks.length 0) (by simp) (by
    rw [La.lin_cons, La.lin_cons]
    have hz : ∀ (n : Nat) (js : List La.F), La.lin (List.replicate n 0) js = fun _ => 0 := fun n => by
      induction n with
      | zero => intro js; exact La.lin_nil js
      | succ n ih =>
        intro js
        cases js with
        | nil => exact La.lin_nil' _
        | cons x js =>
          rw [List.replicate_succ, La.lin_cons, ih js]
          funext c
          grind
    rw [hz]
    funext c
    grind) 1 (by simp)
  exact absurd this (by decide)
def tri (n : Nat) : List (List Rat) := (List.range n).map fun j => (List.range n).map fun k => if k ≤ j then 1 else 0
theorem tri_get {n j k : Nat} (hj : j < n) (hk : k < n) : ((tri n).getD j []).getD k 0 = if k ≤ j then 1 else 0 := by
  unfold tri
  have e : ((List.range n).map fun j => (List.range n).map fun k => if k ≤ j then (1 : Rat) else 0).getD j [] = (List.range n).map fun k => if k ≤ j then (1 : Rat) else 0 := by
    rw [List.getD_eq_getElem?_getD, List.getElem?_map, List.getElem?_range hj]; rfl
  rw [e]
  exact getD_map_range n _ k hk
theorem tri_indep {n : Nat} (h1 : 1 ≤ n) (h3 : n ≤ 3) : La.Indep (((List.range n).map (col (tri n))).map fn) := by
  have : n = 1 ∨ n = 2 ∨ n = 3 := by omega
  rcases this with rfl | rfl | rfl
  · intro as hl hz a ha
    match as, hl with
    | [x], _ =>
      have e0 := congrFun hz 0
      simp [La.lin, tri, col, fn, List.range_succ] at e0
      simp at ha
      rw [ha]
      rwa [Rat.add_zero] at e0
  · intro as hl hz a ha
    match as, hl with
    | [x, y], _ =>
      have e0 := congrFun hz 0
      have e1 := congrFun hz 1
      simp [La.lin, tri, col, fn, List.range_succ] at e0 e1
      simp at ha
      rcases ha with rfl | rfl <;> grind
  · intro as hl hz a ha
    match as, hl with
    | [x, y, z], _ =>
      have e0 := congrFun hz 0
      have e1 := congrFun hz 1
      have e2 := congrFun hz 2
      simp [La.lin, tri, col, fn, List.range_succ] at e0 e1 e2
      simp at ha
      rcases ha with rfl | rfl | rfl <;> grind
theorem unit_led {r : List Rat} {n : Nat} (hr : r.length = n) : ((List.range n).map fun k => dot r (col ((List.range n).map (unit n)) k)) = r := by
  refine List.ext_getElem (by simp [hr]) fun k h1 h2 => ?_
  have hk : k < n := by simpa using h1
  rw [List.getElem_map, List.getElem_range, dot_eq_sm (by simp [col, hr]), hr, sm_pick (p := k) n hk fun j hj hne => ?_]
  · have : (col ((List.range n).map (unit n)) k).getD k 0 = 1 := by
      unfold col
      rw [List.getD_eq_getElem?_getD, List.getElem?_map, List.getElem?_map, List.getElem?_range hk]
      show (unit n k).getD k 0 = 1
      rw [unit_get hk, if_pos rfl]
    rw [this, Rat.mul_one, List.getD_eq_getElem?_getD, List.getElem?_eq_getElem h2]
    rfl
  · have : (col ((List.range n).map (unit n)) k).getD j 0 = 0 := by
      unfold col
      rw [List.getD_eq_getElem?_getD, List.getElem?_map, List.getElem?_map, List.getElem?_range hj]
      show (unit n j).getD k 0 = 0
      rw [unit_get hk, if_neg fun z => hne z.symm]
    rw [this, Rat.mul_zero]
end K07
end
section
set_option Elab.async false
set_option linter.all false
set_option maxRecDepth 100000
set_option exponentiation.threshold 20000
namespace K07
open PySem L2 Cv
theorem whole_ok (i : Int) (gh : List Ob) : f_is_whole [.int i] gh = .ok (.bl true) gh := by
  simp [f_is_whole, runF, entry, b_is_whole, isiF, isiTs, tyN, isiB]
theorem whole_bl (b : Bool) (gh : List Ob) : f_is_whole [.bl b] gh = .ok (.bl false) gh := by
  simp [f_is_whole, runF, entry, b_is_whole, isiF, isiTs, tyN, isiB]
theorem whole_str (x : Str) (gh : List Ob) : f_is_whole [.str x] gh = .ok (.bl false) gh := by
  simp [f_is_whole, runF, entry, b_is_whole, isiF, isiTs, tyN, isiB]
theorem isi_tup (ds : List DV) : isiF "tuple" (.tup ds) = some (.bl true) := by simp [isiF, isiTs, tyN, isiB]
theorem odd_no {d : DV} {gh : List Ob} (h : isiF "tuple" d = some (.bl false)) (hl : ∀ s, look s d = d) : f_is_ratio [d] gh = .ok (.bl false) gh := by
  simp [f_is_ratio, runF, entry, b_is_ratio, hl, h]
theorem odd_len {ds : List DV} {gh : List Ob} (h : ds.length ≠ 2) : f_is_ratio [.tup ds] gh = .ok (.bl false) gh := by
  have hn : neF (.int (ds.length : Nat)) (.int 2) = some (.bl true) := by
    rw [ne_ii, decide_eq_true]
    omega
  simp [f_is_ratio, runF, entry, b_is_ratio, isi_tup, hn]
theorem len2 : neF (.int 2) (.int 2) = some (.bl false) := by rw [ne_ii]; rfl
theorem odd_fst {a b : DV} {gh : List Ob} (h : f_is_whole [a] gh = .ok (.bl false) gh) (ha : ∀ s, frz a s = .ok a s) : f_is_ratio [.tup [a, b]] gh = .ok (.bl false) gh := by
  have hn := len2
  simp [f_is_ratio, runF, entry, b_is_ratio, isi_tup, hn, ha, h]
theorem odd_snd {a b : DV} {gh : List Ob} (h1 : f_is_whole [a] gh = .ok (.bl true) gh) (h : f_is_whole [b] gh = .ok (.bl false) gh) (ha : ∀ s, frz a s = .ok a s) (hb : ∀ s, frz b s = .ok b s) : f_is_ratio [.tup [a, b]] gh = .ok (.bl false) gh := by
  have hn := len2
  simp [f_is_ratio, runF, entry, b_is_ratio, isi_tup, hn, ha, hb, h1, h]
theorem odd_int {a b : Int} {gh : List Ob} (h : ¬ (0 < b ∧ Nat.gcd a.natAbs b.natAbs = 1)) : f_is_ratio [.tup [.int a, .int b]] gh = .ok (.bl false) gh := by
  have hn := len2
  have hw := fun i => whole_ok i gh
  by_cases hb : 0 < b
  · have hg : eqF (.int (Nat.gcd a.natAbs b.natAbs : Nat)) (.int 1) = some (.bl false) := by
      rw [eq_ii, decide_eq_false]
      intro z
      exact h ⟨hb, by omega⟩
    simp [f_is_ratio, runF, entry, b_is_ratio, isi_tup, hn, hw, hb, hg]
  · simp [f_is_ratio, runF, entry, b_is_ratio, isi_tup, hn, hw, hb]
def odds : List DV := [.tup [.int 2, .int 4], .tup [.int 1, .int 0], .tup [.int 1, .int (-2)], .lst [.int 1, .int 2], .tup [.int 1], .tup [.int 1, .int 2, .int 3], .tup [.bl true, .int 1], .tup [.int 1, .bl true], .tup [.int 0, .int 3], .non, .int 1, .tup [.str "1", .int 2]]
theorem odds_ok {d : DV} {gh : List Ob} (h : d ∈ odds) : f_is_ratio [d] gh = .ok (.bl false) gh := by
  simp only [odds, List.mem_cons, List.not_mem_nil, or_false] at h
  rcases h with rfl | rfl | rfl | rfl | rfl | rfl | rfl | rfl | rfl | rfl | rfl | rfl
  · exact odd_int (by decide)
  · exact odd_int (by decide)
  · exact odd_int (by decide)
  · exact odd_no (by simp [isiF, isiTs, tyN, isiB]) fun _ => rfl
  · exact odd_len (by decide)
  · exact odd_len (by decide)
  · exact odd_fst (whole_bl _ _) fun _ => rfl
  · exact odd_snd (whole_ok _ _) (whole_bl _ _) (fun _ => rfl) fun _ => rfl
  · exact odd_int (by decide)
  · exact odd_no (by simp [isiF, isiTs, tyN, isiB]) fun _ => rfl
  · exact odd_no (by simp [isiF, isiTs, tyN, isiB]) fun _ => rfl
  · exact odd_fst (whole_str _ _) fun _ => rfl
theorem far_398 : (PySem.intText? (("1" : Str) ++ Txt.mul "0" ((398 : Nat) : Int)) = some ((10 : Int) ^ (398 : Nat)) ∧ (("1" : Str) ++ Txt.mul "0" ((398 : Nat) : Int)).length ≤ 640) ∧ ("1" : Str).length + (Txt.mul "0" ((398 : Nat) : Int)).length ≤ sizeLine := by decide +kernel
theorem far_399 : (PySem.intText? (("1" : Str) ++ Txt.mul "0" ((399 : Nat) : Int)) = some ((10 : Int) ^ (399 : Nat)) ∧ (("1" : Str) ++ Txt.mul "0" ((399 : Nat) : Int)).length ≤ 640) ∧ ("1" : Str).length + (Txt.mul "0" ((399 : Nat) : Int)).length ≤ sizeLine := by decide +kernel
theorem far_400 : (PySem.intText? (("1" : Str) ++ Txt.mul "0" ((400 : Nat) : Int)) = some ((10 : Int) ^ (400 : Nat)) ∧ (("1" : Str) ++ Txt.mul "0" ((400 : Nat) : Int)).length ≤ 640) ∧ ("1" : Str).length + (Txt.mul "0" ((400 : Nat) : Int)).length ≤ sizeLine := by decide +kernel
theorem far_401 : (PySem.intText? (("1" : Str) ++ Txt.mul "0" ((401 : Nat) : Int)) = some ((10 : Int) ^ (401 : Nat)) ∧ (("1" : Str) ++ Txt.mul "0" ((401 : Nat) : Int)).length ≤ 640) ∧ ("1" : Str).length + (Txt.mul "0" ((401 : Nat) : Int)).length ≤ sizeLine := by decide +kernel
theorem far_text {k : Nat} (h1 : 398 ≤ k) (h2 : k ≤ 401) : (PySem.intText? (("1" : Str) ++ Txt.mul "0" (k : Int)) = some ((10 : Int) ^ k) ∧ (("1" : Str) ++ Txt.mul "0" (k : Int)).length ≤ 640) ∧ ("1" : Str).length + (Txt.mul "0" (k : Int)).length ≤ sizeLine := by
  by_cases e1 : k = 398
  · rw [e1]; exact far_398
  by_cases e2 : k = 399
  · rw [e2]; exact far_399
  by_cases e3 : k = 400
  · rw [e3]; exact far_400
  rw [show k = 401 by omega]; exact far_401
theorem far_ok {k : Nat} (h1 : 398 ≤ k) (h2 : k ≤ 401) : addF (.str "1") (.str (Txt.mul "0" (k : Int))) = some (.str (("1" : Str) ++ Txt.mul "0" (k : Int))) ∧ intF [.str (("1" : Str) ++ Txt.mul "0" (k : Int))] = some (.int (10 ^ k)) ∧ mulF (.str "0") (.int (k : Int)) = some (.str (Txt.mul "0" (k : Int))) := by
  obtain ⟨⟨t1, t2⟩, t3⟩ := far_text h1 h2
  refine ⟨?_, ?_, ?_⟩
  · simp only [addF]
    rw [if_pos t3]
  · simp only [intF]
    rw [if_pos t2, t1]
    rfl
  · simp only [mulF]
    rw [if_pos ⟨by decide, by omega, by omega⟩]
theorem not_long_ok {a b : Int} {gh : List Ob} : f_not_long [.tup [.int a, .int b]] gh = if (10 : Int) ^ 400 ≤ (if a < 0 then -a else a) ∨ (10 : Int) ^ 400 ≤ b then .ex (.xc "TooGreat" ["number"] [.int 1]) gh else .ok (.tup [.int a, .int b]) gh := by
  obtain ⟨h1, h2, h3⟩ := far_ok (k := 400) (by omega) (by omega)
  have e0 : f_not_long [.tup [.int a, .int b]] gh = leave (b_not_long ⟨[some (.tup [.int a, .int b]), none], [], gh⟩) := rfl
  have k1 : asgS (.one 1) (bltE intF [(vw2 addF (cst (.str "1")) (vw2 mulF (cst (.str "0")) (cst c_MOST_FIGURES)))]) ⟨[some (.tup [.int a, .int b]), none], [], gh⟩ = .ok .nx ⟨[some (.tup [.int a, .int b]), some (.int (10 ^ 400))], [], gh⟩ := by
    have k2 := vw2_st (r := mulF) (f := cst (.str "0")) (g := cst c_MOST_FIGURES) (st := ⟨[some (.tup [.int a, .int b]), none], [], gh⟩) (a := .str "0") (b := .int ((400 : Nat) : Int)) rfl rfl h3
    have k3 := vw2_st (r := addF) (f := cst (.str "1")) (st := ⟨[some (.tup [.int a, .int b]), none], [], gh⟩) (a := .str "1") rfl k2 h1
    generalize Txt.mul "0" ((400 : Nat) : Int) = T at *
    rw [ap_asg, ap_blt, ap_evs, k3]
    simp only [Out.bind_ok, ap_evs0, List.map_cons, List.map_nil, look_str]
    rw [h2]
    simp
  rw [e0]
  unfold b_not_long
  rw [ap_seq, k1]
  simp only [Out.bind_ok]
  generalize (10 : Int) ^ 400 = N
  by_cases c1 : N ≤ (if a < 0 then -a else a)
  · simp [c1, raiS]
    rfl
  · by_cases c2 : N ≤ b
    · simp [c1, c2, raiS]
      rfl
    · simp [c1, c2]
end K07
end
section
set_option Elab.async false
set_option linter.all false
set_option maxRecDepth 100000
set_option exponentiation.threshold 20000
namespace K07
open PySem L2 Cv
theorem pow_400 {k : Nat} : (10 : Int) ^ 400 ≤ 10 ^ k ↔ 400 ≤ k := by
  constructor
  · intro h
    refine Classical.byContradiction fun hn => ?_
    have h1 : k < 400 := by omega
    have h2 : (10 : Nat) ^ k < 10 ^ 400 := Nat.pow_lt_pow_right (by decide) h1
    have h3 : (((10 : Nat) ^ 400 : Nat) : Int) ≤ ((10 ^ k : Nat) : Int) := by
      rw [Int.natCast_pow, Int.natCast_pow]
      exact h
    omega
  · intro h
    have h2 : (10 : Nat) ^ 400 ≤ 10 ^ k := Nat.pow_le_pow_right (by decide) h
    have h3 : (((10 : Nat) ^ 400 : Nat) : Int) ≤ ((10 ^ k : Nat) : Int) := Int.ofNat_le.mpr h2
    rw [Int.natCast_pow, Int.natCast_pow] at h3
    exact h3
noncomputable def figT : Sm := (seqS (tryS (asgS (.one 5) (calD f_not_long (consE (var 4) nilE))) [("TooGreat", true)] 6 (xAnd (xOp eqF (xFld "number") (xCon (.int 1))) (xOp gtF (xVar 1) (xCon (.int 400)))))
  (retS (andE (vw2 eqF (var 5) (var 4)) (vw2 leF (var 1) (cst (.int 400))))))
theorem figT_ok {x0 x2 x3 : Option DV} {k : Nat} {a b : Int} {gh : List Ob} (h : ((10 : Int) ^ 400 ≤ (if a < 0 then -a else a) ∨ (10 : Int) ^ 400 ≤ b) ↔ 400 ≤ k) (ha : Bd 1919 a) (hb : Bd 1919 b) : leave (figT ⟨[x0, some (.int ((k + 1 : Nat) : Int)), x2, x3, some (.tup [.int a, .int b]), none, none], [], gh⟩) = .ok (.bl true) gh := by
  have hn := not_long_ok (a := a) (b := b) (gh := gh)
  by_cases hc : 400 ≤ k
  · rw [if_pos (h.mpr hc)] at hn
    have c1 : asgS (.one 5) (calD f_not_long (consE (var 4) nilE)) ⟨[x0, some (.int ((k + 1 : Nat) : Int)), x2, x3, some (.tup [.int a, .int b]), none, none], [], gh⟩ = .ex (.xc "TooGreat" ["number"] [.int 1]) ⟨[x0, some (.int ((k + 1 : Nat) : Int)), x2, x3, some (.tup [.int a, .int b]), none, none], [], gh⟩ := by
      simp [hn]
    have hx : xAnd (xOp eqF (xFld "number") (xCon (.int 1))) (xOp gtF (xVar 1) (xCon (.int 400))) ["number"] [.int 1] ⟨[x0, some (.int ((k + 1 : Nat) : Int)), x2, x3, some (.tup [.int a, .int b]), none, none], [], gh⟩ = some (.bl true) := by
      have e1 : eqF (.int 1) (.int 1) = some (.bl true) := by rw [eq_ii]; rfl
      have e2 : (400 : Int) < ((k + 1 : Nat) : Int) := by omega
      generalize ((k + 1 : Nat) : Int) = z at *
      simp [xAnd, xOp, xFld, xCon, xVar, fGet, isRef, e1, e2]
    unfold figT
    rw [ap_seq]
    unfold tryS
    rw [c1]
    have hlk : List.lookup "TooGreat" [("TooGreat", true)] = some true := by decide
    simp only [hlk]
    rw [if_pos (by simp)]
    have e3 : ([x0, some (.int ((k + 1 : Nat) : Int)), x2, x3, some (.tup [.int a, .int b]), none, none] : List (Option DV)).set 6 none = [x0, some (.int ((k + 1 : Nat) : Int)), x2, x3, some (.tup [.int a, .int b]), none, none] := rfl
    rw [e3, hx]
    rfl
  · rw [if_neg (fun z => hc (h.mp z))] at hn
    have c1 : asgS (.one 5) (calD f_not_long (consE (var 4) nilE)) ⟨[x0, some (.int ((k + 1 : Nat) : Int)), x2, x3, some (.tup [.int a, .int b]), none, none], [], gh⟩ = .ok .nx ⟨[x0, some (.int ((k + 1 : Nat) : Int)), x2, x3, some (.tup [.int a, .int b]), some (.tup [.int a, .int b]), none], [], gh⟩ := by
      simp [hn]
    have he : eqF (.tup [.int a, .int b]) (.tup [.int a, .int b]) = some (.bl true) := eq_self (Rp.tup (.cons (Rp.int ha) (.cons (Rp.int hb) .nil))) rfl (by decide)
    have e2 : ((k + 1 : Nat) : Int) ≤ 400 := by omega
    unfold figT
    rw [ap_seq]
    unfold tryS
    rw [c1]
    generalize ((k + 1 : Nat) : Int) = z at *
    simp [he, e2]
theorem bd_pow {k : Nat} (h : k ≤ 401) : Bd 1919 ((10 : Int) ^ k) := by
  unfold Bd
  rw [Int.natAbs_pow]
  exact Nat.lt_of_le_of_lt (Nat.pow_le_pow_right (by decide) h) (by decide +kernel)
noncomputable def g1S : Sm := parS [1, 2] [(vw2 addF (cst (.int 399)) (calD f__law_pick (consE (var 0) (consE (cst (.int 4)) nilE)))), (vw2 eqF (calD f__law_pick (consE (var 0) (consE (cst (.int 2)) nilE))) (cst (.int 0)))]
noncomputable def g2S : Sm := asgS (.one 3) (bltE intF [(vw2 addF (cst (.str "1")) (vw2 mulF (cst (.str "0")) (vw2 subF (var 1) (cst (.int 1)))))])
noncomputable def g3S : Sm := asgS (.one 4) (ife (var 2) (tupE (consE (var 3) (consE (cst (.int 1)) nilE))) (tupE (consE (cst (.int 1)) (consE (var 3) nilE))))
noncomputable def g4S : Sm := asgS (.one 4) (ife (vw2 eqF (calD f__law_pick (consE (var 0) (consE (cst (.int 2)) nilE))) (cst (.int 0))) (var 4) (tupE (consE (vw2 subF (cst (.int 0)) (vw2 ixF (var 4) (cst (.int 0)))) (consE (vw2 ixF (var 4) (cst (.int 1))) nilE))))
theorem b_fig_eq : b__law_figures_right = seqS g1S (seqS g2S (seqS g3S (seqS g4S figT))) := rfl
theorem fig1 {gh g1 g2 : List Ob} {n p2 : Int} (a1 : f__law_pick [.glb 1, .int 4] gh = .ok (.int n) g1) (b1 : f__law_pick [.glb 1, .int 2] g1 = .ok (.int p2) g2) : g1S ⟨[some (.glb 1), none, none, none, none, none, none], [], gh⟩ = .ok .nx ⟨[some (.glb 1), some (.int (399 + n)), some (.bl (decide (p2 = 0))), none, none, none, none], [], g2⟩ := by
  unfold g1S
  simp [a1, b1, eq_ii]
theorem fig2 {g2 : List Ob} {z u F : Int} {x2 : DV} {T : Str} (e : z - 1 = u) (h3 : mulF (.str "0") (.int u) = some (.str T)) (h1 : addF (.str "1") (.str T) = some (.str (("1" : Str) ++ T))) (h2 : intF [.str (("1" : Str) ++ T)] = some (.int F)) : g2S ⟨[some (.glb 1), some (.int z), some x2, none, none, none, none], [], g2⟩ = .ok .nx ⟨[some (.glb 1), some (.int z), some x2, some (.int F), none, none, none], [], g2⟩ := by
  unfold g2S
  have q1 : vw2 subF (var 1) (cst (.int 1)) ⟨[some (.glb 1), some (.int z), some x2, none, none, none, none], [], g2⟩ = .ok (.int u) ⟨[some (.glb 1), some (.int z), some x2, none, none, none, none], [], g2⟩ := by
    rw [← e]
    simp
  have q2 := vw2_st (r := mulF) (f := cst (.str "0")) (a := .str "0") rfl q1 h3
  have q3 := vw2_st (r := addF) (f := cst (.str "1")) (a := .str "1") rfl q2 h1
  rw [ap_asg, ap_blt, ap_evs, q3]
  simp only [Out.bind_ok, ap_evs0, List.map_cons, List.map_nil, look_str]
  rw [h2]
  simp
theorem fig3 {z F G p2 p3 : Int} {g2 g3 : List Ob} {m : Nat} (c1 : f__law_pick [.glb 1, .int 2] g2 = .ok (.int p3) g3) (hpw : G ≤ F ↔ 400 ≤ m) (hpos : 0 < F) (h40 : 1 < G) (hbd : Bd 1919 F) : ∃ a b : Int, seqS g3S g4S
      ⟨[some (.glb 1), some (.int z), some (.bl (decide (p2 = 0))), some (.int F), none, none, none], [], g2⟩ = .ok .nx ⟨[some (.glb 1), some (.int z), some (.bl (decide (p2 = 0))), some (.int F), some (.tup [.int a, .int b]), none, none], [], g3⟩ ∧
      ((G ≤ (if a < 0 then -a else a) ∨ G ≤ b) ↔ 400 ≤ m) ∧ Bd 1919 a ∧ Bd 1919 b := by
  have s2 : 2 ≤ sizeLine := sl_of (by decide)
  have hone : Bd 1919 1 := by unfold Bd; decide
  have hneg : Bd 1919 (-F) := by unfold Bd at *; rwa [Int.natAbs_neg]
  have hmone : Bd 1919 (-1) := by unfold Bd; decide
  unfold g3S g4S
  by_cases hp2 : p2 = 0 <;> by_cases hp3 : p3 = 0
  · refine ⟨F, 1, by simp [hp2, hp3, c1, eq_ii, s2], ?_, hbd, hone⟩
    rw [if_neg (by omega)]
    omega
  · refine ⟨-F, 1, by simp [hp2, hp3, c1, eq_ii, s2], ?_, hneg, hone⟩
    rw [if_pos (by omega)]
    omega
  · refine ⟨1, F, by simp [hp2, hp3, c1, eq_ii, s2], ?_, hone, hbd⟩
    rw [if_neg (by omega)]
    omega
  · refine ⟨-1, F, by simp [hp2, hp3, c1, eq_ii, s2], ?_, hmone, hbd⟩
    rw [if_pos (by omega)]
    omega
theorem seq_two {f g h : Sm} {st s : Sta} (e : seqS f g st = .ok .nx s) : seqS f (seqS g h) st = h s := by
  rw [ap_seq] at e ⊢
  cases hf : f st with
  | ok fl s1 =>
    rw [hf] at e
    cases fl with
    | nx =>
      simp only [Out.bind_ok] at e ⊢
      rw [ap_seq, e]
      rfl
    | _ => simp at e
  | _ => rw [hf] at e; simp at e
theorem h40 : (1 : Int) < 10 ^ 400 := by decide +kernel
theorem figures_ok {gh : List Ob} {k : Nat} (S : Src gh (k + 3)) : ∃ gh', f__law_figures_right [.glb 1] gh = .ok (.bl true) gh' ∧ Src gh' k ∧ Fr gh gh' := by
  obtain ⟨p1, g1, a1, a2, a3, a4, a5⟩ := pick_ok (many := 4) (k := k + 2) S (by omega) (by unfold Bd; decide)
  obtain ⟨p2, g2, b1, b2, b3, b4, b5⟩ := pick_ok (many := 2) (k := k + 1) a4 (by omega) (by unfold Bd; decide)
  obtain ⟨p3, g3, c1, c2, c3, c4, c5⟩ := pick_ok (many := 2) (k := k) b4 (by omega) (by unfold Bd; decide)
  obtain ⟨j, hj, j1, j2⟩ : ∃ j : Nat, 399 + p1 = ((j + 1 : Nat) : Int) ∧ 398 ≤ j ∧ j ≤ 401 := ⟨(398 + p1).toNat, by omega, by omega, by omega⟩
  obtain ⟨h1, h2, h3⟩ := far_ok (k := j) j1 j2
  have k1 := fig1 a1 b1
  have k2 := fig2 (g2 := g2) (z := 399 + p1) (x2 := .bl (decide (p2 = 0))) (by omega) h3 h1 h2
  obtain ⟨a, b, d1, d2, d3, d4⟩ := fig3 (z := 399 + p1) (p2 := p2) c1 (pow_400 (k := j)) (Int.pow_pos (by decide)) h40 (bd_pow (k := j) (by omega))
  rw [hj] at k1 k2 d1
  have fin := figT_ok (x0 := some (.glb 1)) (x2 := some (.bl (decide (p2 = 0)))) (x3 := some (.int (10 ^ j))) (gh := g3) d2 d3 d4
  have e0 : f__law_figures_right [.glb 1] gh = leave (b__law_figures_right ⟨[some (.glb 1), none, none, none, none, none, none], [], gh⟩) := rfl
  refine ⟨g3, ?_, c4, (a5.trans b5).trans c5⟩
  rw [e0, b_fig_eq, seq_ok k1 (seq_ok k2 (seq_two d1))]
  exact fin
end K07
end
section
set_option Elab.async false
set_option linter.all false
set_option maxRecDepth 100000
set_option exponentiation.threshold 20000
namespace K07
open PySem L2 Cv
noncomputable def l0 : Sm := (parS [3, 4] [(calD f__law_drawn (consE (var 1) nilE)), (calD f__law_drawn (consE (var 1) nilE))])
noncomputable def l1 : Sm := (asgS (.many [5, 6]) (var 3))
noncomputable def l2 : Sm := (asgS (.many [7, 8]) (var 4))
noncomputable def l3 : Sm := (ifS (notE (calD f__law_is (consE (calD f_ratio_sum (consE (var 3) (consE (var 4) nilE))) (consE (vw2 addF (vw2 mulF (var 5) (var 8)) (vw2 mulF (var 7) (var 6))) (consE (vw2 mulF (var 6) (var 8)) nilE)))))
 (retS (cst (.bl false)))
 pasS)
noncomputable def l4 : Sm := (ifS (notE (calD f__law_is (consE (calD f_ratio_less (consE (var 3) (consE (var 4) nilE))) (consE (vw2 subF (vw2 mulF (var 5) (var 8)) (vw2 mulF (var 7) (var 6))) (consE (vw2 mulF (var 6) (var 8)) nilE)))))
 (retS (cst (.bl false)))
 pasS)
noncomputable def l5 : Sm := (ifS (notE (calD f__law_is (consE (calD f_ratio_product (consE (var 3) (consE (var 4) nilE))) (consE (vw2 mulF (var 5) (var 7)) (consE (vw2 mulF (var 6) (var 8)) nilE)))))
 (retS (cst (.bl false)))
 pasS)
noncomputable def l6 : Sm := (ifS (andE (vw2 neF (var 7) (cst (.int 0))) (notE (calD f__law_is (consE (calD f_ratio_quotient (consE (var 3) (consE (var 4) nilE))) (consE (vw2 mulF (var 5) (var 8)) (consE (vw2 mulF (var 6) (var 7)) nilE))))))
 (retS (cst (.bl false)))
 pasS)
noncomputable def l7 : Sm := (parS [9, 10] [(vw2 subF (calD f__law_pick (consE (var 1) (consE (cst (.int 41)) nilE))) (cst (.int 20))), (calD f__law_of (consE (var 1) (consE (lstE .val (consE (cst (.int 1)) (consE (cst (.int 2)) (consE (cst (.int 6)) (consE (vw1 negF (cst (.int 1))) (consE (vw1 negF (cst (.int 4))) (consE (cst (.int 9)) (consE (vw1 negF (cst (.int 15))) nilE)))))))) nilE)))])
noncomputable def l8 : Sm := (ifS (orE (vw2 neF (bltE reprF [(calD f_ratio_of (consE (var 9) (consE (var 10) nilE)))]) (bltE reprF [(calD f__law_num (consE (var 9) (consE (var 10) nilE)))])) (vw2 nisF (calD f_is_ratio (consE (var 3) nilE)) (cst (.bl true))))
 (retS (cst (.bl false)))
 pasS)
noncomputable def lapB : Sm := (seqS l0 (seqS l1 (seqS l2 (seqS l3 (seqS l4 (seqS l5 (seqS l6 (seqS l7 l8))))))))
noncomputable def s0 : Sm := (asgS (.one 1) (calD f__law_source (consE (var 0) nilE)))
noncomputable def s1 : Sm := forS (.one 2) (rng1 (cst (.int 6))) lapB
noncomputable def s2 : Sm := (asgS (.one 11) (lstE .val (consE (tupE (consE (cst (.int 2)) (consE (cst (.int 4)) nilE))) (consE (tupE (consE (cst (.int 1)) (consE (cst (.int 0)) nilE))) (consE (tupE (consE (cst (.int 1)) (consE (vw1 negF (cst (.int 2))) nilE))) (consE (lstE .val (consE (cst (.int 1)) (consE (cst (.int 2)) nilE))) (consE (tupE (consE (cst (.int 1)) nilE)) (consE (tupE (consE (cst (.int 1)) (consE (cst (.int 2)) (consE (cst (.int 3)) nilE)))) (consE (tupE (consE (cst (.bl true)) (consE (cst (.int 1)) nilE))) (consE (tupE (consE (cst (.int 1)) (consE (cst (.bl true)) nilE))) (consE (tupE (consE (cst (.int 0)) (consE (cst (.int 3)) nilE))) (consE (cst .non) (consE (cst (.int 1)) (consE (tupE (consE (cst (.str "1")) (consE (cst (.int 2)) nilE))) nilE))))))))))))))
noncomputable def s3 : Sm := (ifS (orE (vw2 nisF (calD f_is_ratio (consE (calD f__law_of (consE (var 1) (consE (var 11) nilE))) nilE)) (cst (.bl false))) (notE (calD f__law_figures_right (consE (var 1) nilE))))
 (retS (cst (.bl false)))
 pasS)
noncomputable def s4 : Sm := (asgS (.lst [12, 13, 14]) (lcE .val (.one 25) [25] (rng1 (cst (.int 3))) (cst (.bl true)) (vw2 addF (cst (.int 1)) (calD f__law_pick (consE (var 1) (consE (cst (.int 3)) nilE))))))
noncomputable def s5 : Sm := (asgS (.one 3) (bltE tupF [(lcE .val (.one 26) [26] (rng1 (var 12)) (cst (.bl true)) (bltE tupF [(lcE .val (.one 25) [25] (rng1 (var 13)) (cst (.bl true)) (calD f__law_drawn (consE (var 1) nilE)))]))]))
noncomputable def s6 : Sm := (asgS (.one 4) (bltE tupF [(lcE .val (.one 26) [26] (rng1 (var 13)) (cst (.bl true)) (bltE tupF [(lcE .val (.one 25) [25] (rng1 (var 14)) (cst (.bl true)) (calD f__law_drawn (consE (var 1) nilE)))]))]))
noncomputable def s7 : Sm := (parS [15, 16] [(vw2 ixF (var 3) (cst (.int 0))), (bltE tupF [(lcE .val (.one 25) [25] (rng1 (var 13)) (cst (.bl true)) (calD f__law_drawn (consE (var 1) nilE)))])])
noncomputable def s8 : Sm := (ifS (vw2 neF (bltE reprF [(calD f_row_led (consE (var 15) (consE (var 4) nilE)))]) (bltE reprF [(calD f__law_led (consE (var 15) (consE (var 4) nilE)))]))
 (retS (cst (.bl false)))
 pasS)
noncomputable def s9 : Sm := (asgS (.one 18) (bltE tupF [(lcE .val (.one 17) [17] (seqI (var 3)) (cst (.bl true)) (calD f__law_sum (consE (lcE .val (.many [5, 6]) [5, 6] (zipI false (var 17) (var 16)) (cst (.bl true)) (calD f__law_mul (consE (var 5) (consE (var 6) nilE)))) nilE)))]))
noncomputable def s10 : Sm := (ifS (vw2 neF (bltE reprF [(calD f_column_led (consE (var 3) (consE (var 16) nilE)))]) (bltE reprF [(var 18)]))
 (retS (cst (.bl false)))
 pasS)
noncomputable def s11 : Sm := (ifS (vw2 neF (bltE reprF [(calD f_tables_led (consE (var 3) (consE (var 4) nilE)))]) (bltE reprF [(bltE tupF [(lcE .val (.one 17) [17] (seqI (var 3)) (cst (.bl true)) (calD f__law_led (consE (var 17) (consE (var 4) nilE))))])]))
 (retS (cst (.bl false)))
 pasS)
noncomputable def s12 : Sm := (ifS (orE (vw2 neF (bltE reprF [(calD f_across (consE (var 3) nilE))]) (bltE reprF [(bltE tupF [(lcE .val (.one 25) [25] (rng1 (var 13)) (cst (.bl true)) (bltE tupF [(lcE .val (.one 17) [17] (seqI (var 3)) (cst (.bl true)) (vw2 ixF (var 17) (var 25)))]))])])) (vw2 neF (calD f_across (consE (tupE nilE) nilE)) (tupE nilE)))
 (retS (cst (.bl false)))
 pasS)
noncomputable def s13 : Sm := (parS [19, 20] [(calD f_row_scaled (consE (var 15) (consE (vw2 ixF (var 16) (cst (.int 0))) nilE))), (vw2 ixF (var 16) (cst (.int 0)))])
noncomputable def s14 : Sm := (ifS (vw2 neF (bltE reprF [(var 19)]) (bltE reprF [(bltE tupF [(lcE .val (.one 5) [5] (seqI (var 15)) (cst (.bl true)) (calD f__law_mul (consE (var 5) (consE (var 20) nilE))))])]))
 (retS (cst (.bl false)))
 pasS)
noncomputable def s15 : Sm := (ifS (vw2 neF (bltE reprF [(calD f_row_sum (consE (var 15) (consE (var 16) nilE)))]) (bltE reprF [(bltE tupF [(lcE .val (.many [5, 6]) [5, 6] (zipI false (var 15) (var 16)) (cst (.bl true)) (calD f__law_add (consE (var 5) (consE (var 6) nilE))))])]))
 (retS (cst (.bl false)))
 pasS)
noncomputable def s16 : Sm := (asgS (.one 21) (calD f_unit_rows (consE (var 13) nilE)))
noncomputable def s17 : Sm := (ifS (orE (vw2 neF (bltE reprF [(calD f_tables_led (consE (var 3) (consE (var 21) nilE)))]) (bltE reprF [(var 3)])) (vw2 neF (bltE reprF [(calD f_row_led (consE (var 16) (consE (var 21) nilE)))]) (bltE reprF [(var 16)])))
 (retS (cst (.bl false)))
 pasS)
noncomputable def s18 : Sm := (asgS (.one 22) (bltE tupF [(lcE .val (.one 26) [26] (rng1 (var 13)) (cst (.bl true)) (bltE tupF [(lcE .val (.one 25) [25] (rng1 (var 13)) (cst (.bl true)) (calD f__law_drawn (consE (var 1) nilE)))]))]))
noncomputable def s19 : Sm := (asgS (.one 23) (calD f_column_led (consE (var 22) (consE (var 16) nilE))))
noncomputable def s20 : Sm := (asgS (.one 24) (calD f_one_solution (consE (var 22) (consE (var 23) nilE))))
noncomputable def s21 : Sm := (ifS (andE (vw2 nisF (var 24) (cst .non)) (vw2 neF (bltE reprF [(calD f_column_led (consE (var 22) (consE (var 24) nilE)))]) (bltE reprF [(var 23)])))
 (retS (cst (.bl false)))
 pasS)
noncomputable def s22 : Sm := (ifS (andE (vw2 gtF (var 13) (cst (.int 1))) (vw2 nisF (calD f_one_solution (consE (vw2 addF (vw2 mulF (slE (var 22) none (some (cst (.int 1)))) (cst (.int 2))) (slE (var 22) (some (cst (.int 2))) none)) (consE (var 23) nilE))) (cst .non)))
 (retS (cst (.bl false)))
 pasS)
noncomputable def s23 : Sm := (asgS (.one 17) (bltE tupF [(lcE .val (.one 26) [26] (rng1 (var 13)) (cst (.bl true)) (bltE tupF [(lcE .val (.one 25) [25] (rng1 (var 13)) (cst (.bl true)) (ife (vw2 leF (var 25) (var 26)) (tupE (consE (cst (.int 1)) (consE (cst (.int 1)) nilE))) (tupE (consE (cst (.int 0)) (consE (cst (.int 1)) nilE)))))]))]))
noncomputable def s24 : Sm := (retS (vw2 eqF (bltE reprF [(calD f_one_solution (consE (var 17) (consE (calD f_column_led (consE (var 17) (consE (var 16) nilE))) nilE)))]) (bltE reprF [(var 16)])))
theorem b_law_eq : b_law = (seqS s0 (seqS s1 (seqS s2 (seqS s3 (seqS s4 (seqS s5 (seqS s6 (seqS s7 (seqS s8 (seqS s9 (seqS s10 (seqS s11 (seqS s12 (seqS s13 (seqS s14 (seqS s15 (seqS s16 (seqS s17 (seqS s18 (seqS s19 (seqS s20 (seqS s21 (seqS s22 (seqS s23 s24)))))))))))))))))))))))) := rfl
theorem ov {env : List (Option DV)} {lh : List (Bool × Ob)} {gh : List Ob} {i : Nat} {d : DV} (h : env[i]? = some (some d)) (hd : ∀ s, frz d s = .ok d s := by exact fun _ => rfl) : Cv.out (var i) ⟨env, lh, gh⟩ = .ok d ⟨env, lh, gh⟩ := by
  simp [h, hd]
theorem vv {env : List (Option DV)} {lh : List (Bool × Ob)} {gh : List Ob} {i : Nat} {d : DV} (h : env[i]? = some (some d)) : var i ⟨env, lh, gh⟩ = .ok d ⟨env, lh, gh⟩ := by
  simp [h]
theorem oc {f : Ex} {st s : Sta} {d : DV} (h : f st = .ok d s) (hd : ∀ s, frz d s = .ok d s := by exact fun _ => rfl) : Cv.out f st = .ok d s := by
  rw [ap_out, h]; exact hd s
theorem if_no {c : Ex} {a : Sm} {st s : Sta} (h : c st = .ok (.bl false) s) : ifS c a pasS st = .ok .nx s := by
  rw [ap_if, h]; rfl
theorem ne_rep {f g : Ex} {st s1 s2 : Sta} {a b : DV} {x : Str} (hf : f st = .ok a s1) (hg : g s1 = .ok b s2) (la : ∀ s, look s a = a) (lb : ∀ s, look s b = b) (ha : reprF [a] = some (.str x)) (hb : reprF [b] = some (.str x)) : vw2 neF (bltE reprF [f]) (bltE reprF [g]) st = .ok (.bl false) s2 := by
  have k1 : bltE reprF [f] st = .ok (.str x) s1 := by
    rw [ap_blt, ap_evs, hf]; simp [la, ha]
  have k2 : bltE reprF [g] s1 = .ok (.str x) s2 := by
    rw [ap_blt, ap_evs, hg]; simp [lb, hb]
  rw [ap_vw2, k1]
  simp only [Out.bind_ok]
  rw [k2]
  simp only [Out.bind_ok, look_str, ne_str, optO_some]
theorem or_no {f g : Ex} {st s1 s2 : Sta} (hf : f st = .ok (.bl false) s1) (hg : g s1 = .ok (.bl false) s2) : orE f g st = .ok (.bl false) s2 := by
  rw [ap_or, hf]; simp only [Out.bind_ok]; exact hg
theorem not_yes {f : Ex} {st s : Sta} (h : f st = .ok (.bl true) s) : notE f st = .ok (.bl false) s := by
  rw [ap_not, h]; rfl
theorem asg1 {f : Ex} {env : List (Option DV)} {lh : List (Bool × Ob)} {gh : List Ob} {i : Nat} {d : DV} {s : Sta} (h : f ⟨env, lh, gh⟩ = .ok d s) : asgS (.one i) f ⟨env, lh, gh⟩ = .ok .nx ⟨s.env.set i (some d), s.lh, s.gh⟩ := by
  rw [ap_asg, h]; rfl
theorem tup1 {f : Ex} {st s : Sta} {ds : List DV} (h : f st = .ok (.lst ds) s) : bltE tupF [f] st = .ok (.tup ds) s := by
  rw [ap_blt, ap_evs, h]; simp
theorem lcv {t : Tg} {own : List Nat} {it : Ite} {c f : Ex} {st s s2 : Sta} {src : Cv.Src} {ds : List DV} (h : it st = .ok src s) (hl : src.ds.length ≤ sizeLine) (hg : lcGo t own c f s.env s src.gd src.ds s [] = .ok ds s2) : lcE .val t own it c f st = .ok (.lst ds) s2 := by
  rw [ap_lc, h]
  simp only [Out.bind_ok]
  rw [if_pos hl, hg]
  rfl
theorem sqv {f : Ex} {st s : Sta} {ds : List DV} (h : f st = .ok (.tup ds) s) : seqI f st = .ok ⟨ds, []⟩ s := by
  rw [ap_seqI, h]; rfl
theorem dn_szs {r : List Rat} (h : ∀ q ∈ r, Dn q) : Szs 104 r := fun q hq => (h q hq).sz
theorem drawn_row {i : Nat} {own : List Nat} {env : List (Option DV)} {lh : List (Bool × Ob)} {gh : List Ob} {n k : Nat} {e : Ex} (he : e ⟨env, lh, gh⟩ = .ok (.int (n : Nat)) ⟨env, lh, gh⟩) (hn : n ≤ 3) (hw : ∀ d, ((wipeE env own).set i (some d))[1]? = some (some (.glb 1))) (S : Src gh (k + 4 * n)) :
    ∃ (r : List Rat) (gh' : List Ob), bltE tupF [(lcE .val (.one i) own (rng1 e) (cst (.bl true)) (calD f__law_drawn (consE (var 1) nilE)))] ⟨env, lh, gh⟩ = .ok (row r) ⟨env, lh, gh'⟩ ∧ r.length = n ∧ (∀ q ∈ r, Dn q) ∧ Src gh' k ∧ Fr gh gh' := by
  have hlen : (rngL 0 n).length = n := by simp [rngL]
  obtain ⟨st', acc', h1, qs, h2, h3, h4, h5, h6, h7⟩ := lc_ok (t := .one i) (own := own) (c := cst (.bl true)) (f := calD f__law_drawn (consE (var 1) nilE)) (env0 := env) (s0 := ⟨env, lh, gh⟩) (gd := []) (ds := rngL 0 n)
    (fun m st acc => ∃ qs : List Rat, acc = qs.map rv ∧ qs.length = m ∧ (∀ q ∈ qs, Dn q) ∧ st.lh = lh ∧ Src st.gh (k + 4 * (n - m)) ∧ Fr gh st.gh) (st := ⟨env, lh, gh⟩) ⟨[], rfl, rfl, by simp, rfl, by simpa using S, Fr.refl _⟩
    (fun m d st acc hd ⟨qs, h1, h2, h3, h4, h5, h6⟩ => by
      have hi : m < n := by have := (List.getElem?_eq_some_iff.mp hd).1; omega
      obtain ⟨q, gh', q1, q2, q3, q4⟩ := drawn_ok (gh := st.gh) (k := k + 4 * (n - (m + 1))) (h5.mono (by omega))
      have e2 := cal1_at (F := f__law_drawn) (f := var 1) (st := ⟨(wipeE env own).set i (some d), st.lh, st.gh⟩) (s1 := ⟨(wipeE env own).set i (some d), st.lh, st.gh⟩) (a := .glb 1) (ov (hw d)) q1
      refine ⟨⟨(wipeE env own).set i (some d), st.lh, st.gh⟩, rfl, .inl ⟨⟨(wipeE env own).set i (some d), st.lh, st.gh⟩, rv q, ⟨(wipeE env own).set i (some d), st.lh, gh'⟩, rfl, oc e2, stays_nil _ _, qs ++ [q], by rw [h1]; simp, by simp [h2], ?_, h4, q3, h6.trans q4⟩⟩
      intro x hx
      rcases List.mem_append.mp hx with z | z
      · exact h3 x z
      · rw [List.mem_singleton.mp z]; exact q2)
  rw [hlen] at h3 h6
  refine ⟨qs, st'.gh, ?_, h3, h4, by simpa using h6, h7⟩
  refine tup1 (lcv (s := ⟨env, lh, gh⟩) (src := ⟨rngL 0 n, []⟩) (rng_ok he (by omega)) (sl_of (by simp only; omega)) ?_)
  simp only
  rw [h1, h2, h5]
structure DT (t : List (List Rat)) (m n : Nat) : Prop where
  l : t.length = m
  len : ∀ r ∈ t, r.length = n
  dn : ∀ r ∈ t, ∀ q ∈ r, Dn q
theorem DT.tb {t : List (List Rat)} {m n : Nat} (h : DT t m n) (hm : m ≤ 3) (hn : n ≤ 3) : Tb t n 104 := ⟨h.len, fun r hr => dn_szs (h.dn r hr), by have := h.l; omega, by omega⟩
theorem drawn_tab {i j : Nat} {env : List (Option DV)} {lh : List (Bool × Ob)} {gh : List Ob} {m n k a b : Nat} (hm : env[a]? = some (some (.int (m : Nat)))) (hn : env[b]? = some (some (.int (n : Nat)))) (m3 : m ≤ 3) (n3 : n ≤ 3) (hl : env.length = 27) (h1 : env[1]? = some (some (.glb 1))) (hi : i = 26) (hj : j = 25) (hb : b < 25) (S : Src gh (k + 12 * m)) :
    ∃ (t : List (List Rat)) (gh' : List Ob), bltE tupF [(lcE .val (.one i) [i] (rng1 (var a)) (cst (.bl true)) (bltE tupF [(lcE .val (.one j) [j] (rng1 (var b)) (cst (.bl true)) (calD f__law_drawn (consE (var 1) nilE)))]))] ⟨env, lh, gh⟩ = .ok (tab t) ⟨env, lh, gh'⟩ ∧ DT t m n ∧ Src gh' k ∧ Fr gh gh' := by
  subst hi hj
  have hlen : (rngL 0 m).length = m := by simp [rngL]
  obtain ⟨st', acc', h1, qs, h2, h3, h4, h5, h6, h7⟩ := lc_ok (t := .one 26) (own := [26]) (c := cst (.bl true)) (f := bltE tupF [(lcE .val (.one 25) [25] (rng1 (var b)) (cst (.bl true)) (calD f__law_drawn (consE (var 1) nilE)))]) (env0 := env) (s0 := ⟨env, lh, gh⟩) (gd := []) (ds := rngL 0 m)
    (fun u st acc => ∃ qs : List (List Rat), acc = qs.map row ∧ qs.length = u ∧ (∀ r ∈ qs, r.length = n ∧ ∀ q ∈ r, Dn q) ∧ st.lh = lh ∧ Src st.gh (k + 12 * (m - u)) ∧ Fr gh st.gh) (st := ⟨env, lh, gh⟩) ⟨[], rfl, rfl, by simp, rfl, by simpa using S, Fr.refl _⟩
    (fun u d st acc hd ⟨qs, g1, g2, g3, g4, g5, g6⟩ => by
      have hi : u < m := by have := (List.getElem?_eq_some_iff.mp hd).1; omega
      have w1 : ((wipeE env [26]).set 26 (some d))[1]? = some (some (.glb 1)) := by simp [List.getElem?_set, h1]
      have wb : ((wipeE env [26]).set 26 (some d))[b]? = some (some (.int (n : Nat))) := by
        rw [List.getElem?_set_ne (by omega)]
        show (env.set 26 none)[b]? = _
        rw [List.getElem?_set_ne (by omega), hn]
      obtain ⟨r, gh', q1, q2, q3, q4, q5⟩ := drawn_row (i := 25) (own := [25]) (env := (wipeE env [26]).set 26 (some d)) (lh := st.lh) (gh := st.gh) (n := n) (k := k + 12 * (m - (u + 1))) (e := var b) (vv wb) n3 (fun d' => by simp [List.getElem?_set, h1]) (g5.mono (by omega))
      refine ⟨⟨(wipeE env [26]).set 26 (some d), st.lh, st.gh⟩, rfl, .inl ⟨⟨(wipeE env [26]).set 26 (some d), st.lh, st.gh⟩, row r, ⟨(wipeE env [26]).set 26 (some d), st.lh, gh'⟩, rfl, oc q1, stays_nil _ _, qs ++ [r], by rw [g1]; simp, by simp [g2], ?_, g4, q4, g6.trans q5⟩⟩
      intro x hx
      rcases List.mem_append.mp hx with z | z
      · exact g3 x z
      · rw [List.mem_singleton.mp z]; exact ⟨q2, q3⟩)
  rw [hlen] at h3 h6
  refine ⟨qs, st'.gh, ?_, ⟨h3, fun r hr => (h4 r hr).1, fun r hr => (h4 r hr).2⟩, by simpa using h6, h7⟩
  refine tup1 (lcv (s := ⟨env, lh, gh⟩) (src := ⟨rngL 0 m, []⟩) (rng_ok (vv hm) (by omega)) (sl_of (by simp only; omega)) ?_)
  simp only
  rw [h1, h2, h5]
end K07
end
section
set_option Elab.async false
set_option linter.all false
set_option maxRecDepth 100000
set_option exponentiation.threshold 20000
namespace K07
open PySem L2 Cv
theorem w2 {F : DV → DV → Option DV} {env : List (Option DV)} {lh : List (Bool × Ob)} {gh : List Ob} {i j : Nat} {a b c : Int} (hi : env[i]? = some (some (.int a))) (hj : env[j]? = some (some (.int b))) (h : F (.int a) (.int b) = some (.int c)) : vw2 F (var i) (var j) ⟨env, lh, gh⟩ = .ok (.int c) ⟨env, lh, gh⟩ :=
  vw2_st (vv hi) (vv hj) h
theorem cal1s {F : Fn} {f : Ex} {env : List (Option DV)} {lh : List (Bool × Ob)} {gh g1 : List Ob} {a d : DV} {gh' : List Ob} (h1 : Cv.out f ⟨env, lh, gh⟩ = .ok a ⟨env, lh, g1⟩) (h4 : F [a] g1 = .ok d gh') : calD F (consE f nilE) ⟨env, lh, gh⟩ = .ok d ⟨env, lh, gh'⟩ := cal1_at h1 h4
theorem cal2s {F : Fn} {f g : Ex} {env : List (Option DV)} {lh : List (Bool × Ob)} {gh g1 g2 : List Ob} {a b d : DV} {gh' : List Ob} (h1 : Cv.out f ⟨env, lh, gh⟩ = .ok a ⟨env, lh, g1⟩) (h2 : Cv.out g ⟨env, lh, g1⟩ = .ok b ⟨env, lh, g2⟩) (h4 : F [a, b] g2 = .ok d gh') : calD F (consE f (consE g nilE)) ⟨env, lh, gh⟩ = .ok d ⟨env, lh, gh'⟩ := cal2_at h1 h2 h4
theorem cal3s {F : Fn} {f g h : Ex} {env : List (Option DV)} {lh : List (Bool × Ob)} {gh : List Ob} {a b c d : DV} {gh' : List Ob} (h1 : Cv.out f ⟨env, lh, gh⟩ = .ok a ⟨env, lh, gh⟩) (h2 : Cv.out g ⟨env, lh, gh⟩ = .ok b ⟨env, lh, gh⟩) (h3 : Cv.out h ⟨env, lh, gh⟩ = .ok c ⟨env, lh, gh⟩) (h4 : F [a, b, c] gh = .ok d gh') : calD F (consE f (consE g (consE h nilE))) ⟨env, lh, gh⟩ = .ok d ⟨env, lh, gh'⟩ := cal3_at h1 h2 h3 h4
theorem and_no1 {f g : Ex} {st s : Sta} (h : f st = .ok (.bl false) s) : andE f g st = .ok (.bl false) s := by
  rw [ap_and, h]; rfl
theorem and_no2 {f g : Ex} {st s1 s : Sta} (h : f st = .ok (.bl true) s1) (h2 : g s1 = .ok (.bl false) s) : andE f g st = .ok (.bl false) s := by
  rw [ap_and, h]; simp only [Out.bind_ok]; exact h2
theorem repr_rat {q : Rat} (h : Sz 1919 q) : ∃ x, reprF [rv q] = some (.str x) := by
  obtain ⟨p, hp⟩ := Rp.rv h
  exact ⟨_, hp.repr (by decide) (by decide)⟩
theorem cross_ok {f : Fn} {a b : Ex} {env : List (Option DV)} {lh : List (Bool × Ob)} {gh : List Ob} {p q z : Rat} {x y : Int} (h3 : env[3]? = some (some (rv p))) (h4 : env[4]? = some (some (rv q)))
    (hf : f [rv p, rv q] gh = .ok (rv z) gh) (ha : a ⟨env, lh, gh⟩ = .ok (.int x) ⟨env, lh, gh⟩) (hb : b ⟨env, lh, gh⟩ = .ok (.int y) ⟨env, lh, gh⟩) (e : Rat.divInt x y = z) (hy : y ≠ 0) (bx : Bd 500 x) (by_ : Bd 500 y) :
    notE (calD f__law_is (consE (calD f (consE (var 3) (consE (var 4) nilE))) (consE a (consE b nilE)))) ⟨env, lh, gh⟩ = .ok (.bl false) ⟨env, lh, gh⟩ := by
  have k := law_is_ok (m := 0) (gh := gh) hy bx by_ (by decide)
  rw [e] at k
  exact not_yes (cal3s (oc (cal2s (ov (d := rv p) h3) (ov (d := rv q) h4) hf)) (oc ha) (oc hb) k)
theorem neg_i (i : Int) : negF (.int i) = some (.int (-i)) := rfl
def sevens : List DV := [.int 1, .int 2, .int 6, .int (-1), .int (-4), .int 9, .int (-15)]
theorem sevens_ok {d : DV} (h : d ∈ sevens) : ∃ z : Int, d = .int z ∧ z ≠ 0 ∧ Bd 4 z := by
  simp only [sevens, List.mem_cons, List.not_mem_nil, or_false] at h
  rcases h with rfl | rfl | rfl | rfl | rfl | rfl | rfl <;> exact ⟨_, rfl, by decide, by unfold Bd; decide⟩
theorem split11 {env : List (Option DV)} (hl : env.length = 27) : ∃ x0 x1 x2 x3 x4 x5 x6 x7 x8 x9 x10 ys, env = x0 :: x1 :: x2 :: x3 :: x4 :: x5 :: x6 :: x7 :: x8 :: x9 :: x10 :: ys ∧ ys.length = 16 := by
  rcases env with _ | ⟨x0, _ | ⟨x1, _ | ⟨x2, _ | ⟨x3, _ | ⟨x4, _ | ⟨x5, _ | ⟨x6, _ | ⟨x7, _ | ⟨x8, _ | ⟨x9, _ | ⟨x10, ys⟩⟩⟩⟩⟩⟩⟩⟩⟩⟩⟩ <;> simp at hl
  exact ⟨x0, x1, x2, x3, x4, x5, x6, x7, x8, x9, x10, ys, rfl, hl⟩
theorem bd3 {m n k : Nat} {i : Int} (h : Bd m i) (l : m ≤ n) : Bd n i := h.mono l
theorem k7_ok {x0 x2 x3 x4 x5 x6 x7 x8 x9 x10 : Option DV} {ys : List (Option DV)} {lh : List (Bool × Ob)} {gh : List Ob} {k : Nat} (S : Src gh (k + 2)) :
    ∃ (a b : Int) (gh' : List Ob), l7 ⟨x0 :: some (.glb 1) :: x2 :: x3 :: x4 :: x5 :: x6 :: x7 :: x8 :: x9 :: x10 :: ys, lh, gh⟩ = .ok .nx ⟨x0 :: some (.glb 1) :: x2 :: x3 :: x4 :: x5 :: x6 :: x7 :: x8 :: some (.int a) :: some (.int b) :: ys, lh, gh'⟩ ∧ Bd 10 a ∧ b ≠ 0 ∧ Bd 4 b ∧ Src gh' k := by
  obtain ⟨p, g1, a1, a2, a3, a4, a5⟩ := pick_ok (many := 41) (k := k + 1) S (by omega) (by unfold Bd; decide)
  obtain ⟨d, g2, b1, b2, b3, b4⟩ := of_ok (gh := g1) (k := k) (ds := sevens) (x := .lst sevens) (.inl rfl) (fun d hd s => by
    obtain ⟨z, rfl, _⟩ := sevens_ok hd; rfl) a4 (by decide) (by decide)
  obtain ⟨z, rfl, z0, zb⟩ := sevens_ok b1
  refine ⟨p - 20, z, g2, ?_, by unfold Bd; omega, z0, zb, b3⟩
  have s7 : 7 ≤ sizeLine := sl_of (by decide)
  unfold sevens at b2
  unfold l7
  simp [a1, neg_i, s7, b2]
theorem lap {env : List (Option DV)} {lh : List (Bool × Ob)} {gh : List Ob} {k : Nat} (hl : env.length = 27) (h1 : env[1]? = some (some (.glb 1))) (S : Src gh (k + 10)) : ∃ env' gh', lapB ⟨env, lh, gh⟩ = .ok .nx ⟨env', lh, gh'⟩ ∧ env'.length = 27 ∧ env'[1]? = some (some (.glb 1)) ∧ Src gh' k := by
  obtain ⟨x0, x1, x2, x3, x4, x5, x6, x7, x8, x9, x10, ys, rfl, hy⟩ := split11 hl
  simp only [List.getElem?_cons_succ, List.getElem?_cons_zero, Option.some.injEq] at h1
  subst h1
  obtain ⟨p, g1, a1, a2, a3, a4⟩ := drawn_ok (gh := gh) (k := k + 6) (S.mono (by omega))
  obtain ⟨q, g2, b1, b2, b3, b4⟩ := drawn_ok (gh := g1) (k := k + 2) (a3.mono (by omega))
  obtain ⟨a, b, g3, c1, c2, c3, c4, c5⟩ := k7_ok (x0 := x0) (x2 := x2) (x3 := some (rv p)) (x4 := some (rv q)) (x5 := some (.int p.num)) (x6 := some (.int p.den)) (x7 := some (.int q.num)) (x8 := some (.int q.den)) (x9 := x9) (x10 := x10) (ys := ys) (lh := lh) (gh := g2) (k := k) b3
  refine ⟨x0 :: some (.glb 1) :: x2 :: some (rv p) :: some (rv q) :: some (.int p.num) :: some (.int p.den) :: some (.int q.num) :: some (.int q.den) :: some (.int a) :: some (.int b) :: ys, g3, ?_, by simp [hy], rfl, c5⟩
  have hp := a2.sz
  have hq := b2.sz
  have m1 := mul_ii (mulOk_bd hp.num hq.den (by omega))
  have m2 := mul_ii (mulOk_bd hq.num hp.den (by omega))
  have m3 := mul_ii (mulOk_bd hp.den hq.den (by omega))
  have m4 := mul_ii (mulOk_bd hp.num hq.num (by omega))
  have m5 := mul_ii (mulOk_bd hp.den hq.num (by omega))
  have k0 : l0 ⟨x0 :: some (.glb 1) :: x2 :: x3 :: x4 :: x5 :: x6 :: x7 :: x8 :: x9 :: x10 :: ys, lh, gh⟩ = .ok .nx ⟨x0 :: some (.glb 1) :: x2 :: some (rv p) :: some (rv q) :: x5 :: x6 :: x7 :: x8 :: x9 :: x10 :: ys, lh, g2⟩ := by
    unfold l0
    simp [a1, b1]
  have k1 : l1 ⟨x0 :: some (.glb 1) :: x2 :: some (rv p) :: some (rv q) :: x5 :: x6 :: x7 :: x8 :: x9 :: x10 :: ys, lh, g2⟩ = .ok .nx ⟨x0 :: some (.glb 1) :: x2 :: some (rv p) :: some (rv q) :: some (.int p.num) :: some (.int p.den) :: x7 :: x8 :: x9 :: x10 :: ys, lh, g2⟩ := by
    unfold l1
    simp [rv]
  have k2 : l2 ⟨x0 :: some (.glb 1) :: x2 :: some (rv p) :: some (rv q) :: some (.int p.num) :: some (.int p.den) :: x7 :: x8 :: x9 :: x10 :: ys, lh, g2⟩ = .ok .nx ⟨x0 :: some (.glb 1) :: x2 :: some (rv p) :: some (rv q) :: some (.int p.num) :: some (.int p.den) :: some (.int q.num) :: some (.int q.den) :: x9 :: x10 :: ys, lh, g2⟩ := by
    unfold l2
    simp [rv]
  have k3 : l3 ⟨x0 :: some (.glb 1) :: x2 :: some (rv p) :: some (rv q) :: some (.int p.num) :: some (.int p.den) :: some (.int q.num) :: some (.int q.den) :: x9 :: x10 :: ys, lh, g2⟩ = .ok .nx ⟨x0 :: some (.glb 1) :: x2 :: some (rv p) :: some (rv q) :: some (.int p.num) :: some (.int p.den) :: some (.int q.num) :: some (.int q.den) :: x9 :: x10 :: ys, lh, g2⟩ :=
    if_no (cross_ok rfl rfl (ratio_sum_ok hp hq (by decide)) (vw2_st (w2 (i := 5) (j := 8) rfl rfl m1) (w2 (i := 7) (j := 6) rfl rfl m2) rfl) (w2 (i := 6) (j := 8) rfl rfl m3) (add_divInt p q) (den2_ne p q) (((hp.num.mul hq.den).add (hq.num.mul hp.den)).mono (by decide)) ((hp.den.mul hq.den).mono (by decide)))
  have k4 : l4 ⟨x0 :: some (.glb 1) :: x2 :: some (rv p) :: some (rv q) :: some (.int p.num) :: some (.int p.den) :: some (.int q.num) :: some (.int q.den) :: x9 :: x10 :: ys, lh, g2⟩ = .ok .nx ⟨x0 :: some (.glb 1) :: x2 :: some (rv p) :: some (rv q) :: some (.int p.num) :: some (.int p.den) :: some (.int q.num) :: some (.int q.den) :: x9 :: x10 :: ys, lh, g2⟩ :=
    if_no (cross_ok rfl rfl (ratio_less_ok hp hq (by decide)) (vw2_st (w2 (i := 5) (j := 8) rfl rfl m1) (w2 (i := 7) (j := 6) rfl rfl m2) rfl) (w2 (i := 6) (j := 8) rfl rfl m3) (sub_divInt p q) (den2_ne p q) (((hp.num.mul hq.den).sub (hq.num.mul hp.den)).mono (by decide)) ((hp.den.mul hq.den).mono (by decide)))
  have k5 : l5 ⟨x0 :: some (.glb 1) :: x2 :: some (rv p) :: some (rv q) :: some (.int p.num) :: some (.int p.den) :: some (.int q.num) :: some (.int q.den) :: x9 :: x10 :: ys, lh, g2⟩ = .ok .nx ⟨x0 :: some (.glb 1) :: x2 :: some (rv p) :: some (rv q) :: some (.int p.num) :: some (.int p.den) :: some (.int q.num) :: some (.int q.den) :: x9 :: x10 :: ys, lh, g2⟩ :=
    if_no (cross_ok rfl rfl (ratio_product_ok hp hq (by decide)) (w2 (i := 5) (j := 7) rfl rfl m4) (w2 (i := 6) (j := 8) rfl rfl m3) (mul_divInt p q) (den2_ne p q) ((hp.num.mul hq.num).mono (by decide)) ((hp.den.mul hq.den).mono (by decide)))
  have k6 : l6 ⟨x0 :: some (.glb 1) :: x2 :: some (rv p) :: some (rv q) :: some (.int p.num) :: some (.int p.den) :: some (.int q.num) :: some (.int q.den) :: x9 :: x10 :: ys, lh, g2⟩ = .ok .nx ⟨x0 :: some (.glb 1) :: x2 :: some (rv p) :: some (rv q) :: some (.int p.num) :: some (.int p.den) :: some (.int q.num) :: some (.int q.den) :: x9 :: x10 :: ys, lh, g2⟩ := by
    by_cases h0 : q = 0
    · refine if_no (and_no1 (vw2_st (vv rfl) rfl ?_))
      show neF (.int q.num) (.int 0) = _
      rw [ne_ii, h0]; rfl
    · refine if_no (and_no2 (vw2_st (vv rfl) rfl ?_) (cross_ok rfl rfl (ratio_quotient_ok hp hq h0 (by decide)) (w2 (i := 5) (j := 8) rfl rfl m1) (w2 (i := 6) (j := 7) rfl rfl m5) (div_divInt p q) (Int.mul_ne_zero (den_ne p) (num_ne h0)) ((hp.num.mul hq.den).mono (by decide)) ((hp.den.mul hq.num).mono (by decide))))
      show neF (.int q.num) (.int 0) = _
      rw [ne_ii, decide_eq_true (num_ne h0)]
  obtain ⟨t, ht⟩ := repr_rat (q := Rat.divInt a b) ((Sz.divInt c3 c2 (c4.mono (by decide))).mono (by decide))
  have k8 : l8 ⟨x0 :: some (.glb 1) :: x2 :: some (rv p) :: some (rv q) :: some (.int p.num) :: some (.int p.den) :: some (.int q.num) :: some (.int q.den) :: some (.int a) :: some (.int b) :: ys, lh, g3⟩ = .ok .nx ⟨x0 :: some (.glb 1) :: x2 :: some (rv p) :: some (rv q) :: some (.int p.num) :: some (.int p.den) :: some (.int q.num) :: some (.int q.den) :: some (.int a) :: some (.int b) :: ys, lh, g3⟩ :=
    if_no (or_no (ne_rep (cal2s (ov (d := .int a) rfl) (ov (d := .int b) rfl) (ratio_of_ok c3 c4 (by decide))) (cal2s (ov (d := .int a) rfl) (ov (d := .int b) rfl) (law_num_ok c3 c4 (by decide))) (fun _ => rfl) (fun _ => rfl) ht ht)
      (vw2_st (cal1s (ov (d := rv p) rfl) (is_ratio_ok hp)) rfl rfl))
  exact seq_ok k0 (seq_ok k1 (seq_ok k2 (seq_ok k3 (seq_ok k4 (seq_ok k5 (seq_ok k6 (seq_ok c1 k8)))))))
end K07
end
section
set_option Elab.async false
set_option linter.all false
set_option maxRecDepth 100000
set_option exponentiation.threshold 20000
namespace K07
open PySem L2 Cv
theorem hne {env : List (Option DV)} {i j : Nat} {d : DV} {x : Option DV} (h : env[i]? = some (some d)) (n : j ≠ i) : (env.set j x)[i]? = some (some d) := by
  rw [List.getElem?_set_ne n]; exact h
theorem heq {env : List (Option DV)} {i : Nat} {d : DV} (h : i < env.length) : (env.set i (some d))[i]? = some (some d) := by
  rw [List.getElem?_set_self h]
theorem asg1s {f : Ex} {env : List (Option DV)} {lh : List (Bool × Ob)} {gh g1 : List Ob} {i : Nat} {d : DV} (h : f ⟨env, lh, gh⟩ = .ok d ⟨env, lh, g1⟩) : asgS (.one i) f ⟨env, lh, gh⟩ = .ok .nx ⟨env.set i (some d), lh, g1⟩ := asg1 h
structure A (env : List (Option DV)) (many wide deep : Nat) : Prop where
  hl : env.length = 27
  e1 : env[1]? = some (some (.glb 1))
  e12 : env[12]? = some (some (.int (many : Nat)))
  e13 : env[13]? = some (some (.int (wide : Nat)))
  e14 : env[14]? = some (some (.int (deep : Nat)))
  m1 : 1 ≤ many ∧ many ≤ 3
  w1 : 1 ≤ wide ∧ wide ≤ 3
  d1 : 1 ≤ deep ∧ deep ≤ 3
theorem A.set {env : List (Option DV)} {many wide deep j : Nat} {x : Option DV} (h : A env many wide deep) (hj : j ≠ 1 ∧ j ≠ 12 ∧ j ≠ 13 ∧ j ≠ 14) : A (env.set j x) many wide deep :=
  ⟨by rw [List.length_set]; exact h.hl, hne h.e1 hj.1, hne h.e12 hj.2.1, hne h.e13 hj.2.2.1, hne h.e14 hj.2.2.2, h.m1, h.w1, h.d1⟩
theorem odds_fz {d : DV} (h : d ∈ odds) (s : Sta) : frz d s = .ok d s := by
  simp only [odds, List.mem_cons, List.not_mem_nil, or_false] at h
  rcases h with rfl | rfl | rfl | rfl | rfl | rfl | rfl | rfl | rfl | rfl | rfl | rfl <;> rfl
theorem s2_ok {env : List (Option DV)} {lh : List (Bool × Ob)} {gh : List Ob} : s2 ⟨env, lh, gh⟩ = .ok .nx ⟨env.set 11 (some (.lst odds)), lh, gh⟩ := by
  unfold s2
  refine asg1s ?_
  have s1 : 1 ≤ sizeLine := sl_of (by decide)
  have s2 : 2 ≤ sizeLine := sl_of (by decide)
  have s3 : 3 ≤ sizeLine := sl_of (by decide)
  have s12 : 12 ≤ sizeLine := sl_of (by decide)
  unfold odds
  simp [neg_i, s1, s2, s3, s12]
theorem s3_ok {env : List (Option DV)} {lh : List (Bool × Ob)} {gh : List Ob} {k : Nat} (h1 : env[1]? = some (some (.glb 1))) (h11 : env[11]? = some (some (.lst odds))) (S : Src gh (k + 4)) : ∃ gh', s3 ⟨env, lh, gh⟩ = .ok .nx ⟨env, lh, gh'⟩ ∧ Src gh' k := by
  obtain ⟨d, g2, b1, b2, b3, b4⟩ := of_ok (gh := gh) (k := k + 3) (ds := odds) (x := .lst odds) (.inl rfl) (fun d hd s => odds_fz hd s) S (by decide) (by decide)
  obtain ⟨g3, c1, c2, c3⟩ := figures_ok (gh := g2) (k := k) b3
  have q1 : calD f_is_ratio (consE (calD f__law_of (consE (var 1) (consE (var 11) nilE))) nilE) ⟨env, lh, gh⟩ = .ok (.bl false) ⟨env, lh, g2⟩ :=
    cal1s (oc (cal2s (ov (d := .glb 1) h1) (ov (d := .lst odds) h11) b2) (odds_fz b1)) (odds_ok b1)
  have q2 : calD f__law_figures_right (consE (var 1) nilE) ⟨env, lh, g2⟩ = .ok (.bl true) ⟨env, lh, g3⟩ := cal1s (ov (d := .glb 1) h1) c1
  exact ⟨g3, if_no (or_no (vw2_at (b := .bl false) q1 rfl rfl) (not_yes q2)), c2⟩
theorem sizes_ok {env : List (Option DV)} {lh : List (Bool × Ob)} {gh : List Ob} {k : Nat} (h1 : env[1]? = some (some (.glb 1))) (S : Src gh (k + 3)) :
    ∃ (a b c : Nat) (gh' : List Ob), lcE .val (.one 25) [25] (rng1 (cst (.int 3))) (cst (.bl true)) (vw2 addF (cst (.int 1)) (calD f__law_pick (consE (var 1) (consE (cst (.int 3)) nilE)))) ⟨env, lh, gh⟩ = .ok (.lst [.int (a : Nat), .int (b : Nat), .int (c : Nat)]) ⟨env, lh, gh'⟩ ∧ (1 ≤ a ∧ a ≤ 3) ∧ (1 ≤ b ∧ b ≤ 3) ∧ (1 ≤ c ∧ c ≤ 3) ∧ Src gh' k ∧ Fr gh gh' := by
  obtain ⟨st', acc', p1, qs, p2, p3, p4, p5, p6, p7⟩ := lc_ok (t := .one 25) (own := [25]) (c := cst (.bl true)) (f := vw2 addF (cst (.int 1)) (calD f__law_pick (consE (var 1) (consE (cst (.int 3)) nilE)))) (env0 := env) (s0 := ⟨env, lh, gh⟩) (gd := []) (ds := rngL 0 3)
    (fun m st acc => ∃ qs : List Nat, acc = qs.map (fun n : Nat => DV.int (n : Nat)) ∧ qs.length = m ∧ (∀ q ∈ qs, 1 ≤ q ∧ q ≤ 3) ∧ st.lh = lh ∧ Src st.gh (k + (3 - m)) ∧ Fr gh st.gh) (st := ⟨env, lh, gh⟩) ⟨[], rfl, rfl, by simp, rfl, by simpa using S, Fr.refl _⟩
    (fun m d st acc hd ⟨qs, g1, g2, g3, g4, g5, g6⟩ => by
      have hi : m < 3 := by have := (List.getElem?_eq_some_iff.mp hd).1; simpa [rngL] using this
      obtain ⟨p, gh', q1, q2, q3, q4, q5⟩ := pick_ok (gh := st.gh) (many := 3) (k := k + (3 - (m + 1))) (g5.mono (by omega)) (by omega) (by unfold Bd; decide)
      have w1 : ((wipeE env [25]).set 25 (some d))[1]? = some (some (.glb 1)) := hne (show (env.set 25 none)[1]? = _ from hne h1 (by decide)) (by decide)
      have e2 : vw2 addF (cst (.int 1)) (calD f__law_pick (consE (var 1) (consE (cst (.int 3)) nilE))) ⟨(wipeE env [25]).set 25 (some d), st.lh, st.gh⟩ = .ok (.int (1 + p)) ⟨(wipeE env [25]).set 25 (some d), st.lh, gh'⟩ :=
        vw2_at (a := .int 1) (b := .int p) rfl (cal2s (ov (d := .glb 1) w1) (b := .int 3) rfl q1) rfl
      have e3 : 1 + p = (((1 + p).toNat : Nat) : Int) := by omega
      refine ⟨⟨(wipeE env [25]).set 25 (some d), st.lh, st.gh⟩, rfl, .inl ⟨⟨(wipeE env [25]).set 25 (some d), st.lh, st.gh⟩, .int (1 + p), ⟨(wipeE env [25]).set 25 (some d), st.lh, gh'⟩, rfl, oc e2, stays_nil _ _, qs ++ [(1 + p).toNat], by rw [g1, List.map_append, List.map_cons, List.map_nil, ← e3], by simp [g2], ?_, g4, q4, g6.trans q5⟩⟩
      intro x hx
      rcases List.mem_append.mp hx with z | z
      · exact g3 x z
      · rw [List.mem_singleton.mp z]; omega)
  have hlen : (rngL 0 3).length = 3 := rfl
  rw [hlen] at p3 p6
  match qs, p3 with
  | [a, b, c], _ =>
    refine ⟨a, b, c, st'.gh, ?_, p4 a (by simp), p4 b (by simp), p4 c (by simp), by simpa using p6, p7⟩
    refine lcv (s := ⟨env, lh, gh⟩) (src := ⟨rngL 0 3, []⟩) (rng_int rfl (by decide) (by decide)) (sl_of (by decide)) ?_
    simp only
    rw [p1, p2, p5]
    rfl
theorem s4_ok {env : List (Option DV)} {lh : List (Bool × Ob)} {gh : List Ob} {k : Nat} (hl : env.length = 27) (h1 : env[1]? = some (some (.glb 1))) (S : Src gh (k + 3)) : ∃ (env' : List (Option DV)) (a b c : Nat) (gh' : List Ob), s4 ⟨env, lh, gh⟩ = .ok .nx ⟨env', lh, gh'⟩ ∧ A env' a b c ∧ Src gh' k := by
  obtain ⟨a, b, c, gh', e1, e2, e3, e4, e5, e6⟩ := sizes_ok (lh := lh) h1 S
  refine ⟨((env.set 12 (some (.int (a : Nat)))).set 13 (some (.int (b : Nat)))).set 14 (some (.int (c : Nat))), a, b, c, gh', ?_, ⟨by simp [hl], hne (hne (hne h1 (by decide)) (by decide)) (by decide), hne (hne (heq (by rw [hl]; decide)) (by decide)) (by decide), hne (heq (by rw [List.length_set, hl]; decide)) (by decide), heq (by rw [List.length_set, List.length_set, hl]; decide), e2, e3, e4⟩, e5⟩
  unfold s4
  rw [ap_asg, e1]
  rfl
structure B (env : List (Option DV)) (many wide deep : Nat) (t u : List (List Rat)) (r c : List Rat) : Prop extends A env many wide deep where
  e3 : env[3]? = some (some (tab t))
  e4 : env[4]? = some (some (tab u))
  e15 : env[15]? = some (some (row r))
  e16 : env[16]? = some (some (row c))
  ht : DT t many wide
  hu : DT u wide deep
  hr : t[0]? = some r
  hcl : c.length = wide
  hc : ∀ q ∈ c, Dn q
theorem B.set {env : List (Option DV)} {many wide deep j : Nat} {t u : List (List Rat)} {r c : List Rat} {x : Option DV} (h : B env many wide deep t u r c) (hj : (j ≠ 1 ∧ j ≠ 12 ∧ j ≠ 13 ∧ j ≠ 14) ∧ j ≠ 3 ∧ j ≠ 4 ∧ j ≠ 15 ∧ j ≠ 16) : B (env.set j x) many wide deep t u r c :=
  ⟨h.toA.set hj.1, hne h.e3 hj.2.1, hne h.e4 hj.2.2.1, hne h.e15 hj.2.2.2.1, hne h.e16 hj.2.2.2.2, h.ht, h.hu, h.hr, h.hcl, h.hc⟩
theorem par2 {f g : Ex} {env : List (Option DV)} {lh : List (Bool × Ob)} {gh g1 g2 : List Ob} {i j : Nat} {a b : DV} (h1 : f ⟨env, lh, gh⟩ = .ok a ⟨env, lh, g1⟩) (h2 : g ⟨env, lh, g1⟩ = .ok b ⟨env, lh, g2⟩) : parS [i, j] [f, g] ⟨env, lh, gh⟩ = .ok .nx ⟨(env.set i (some a)).set j (some b), lh, g2⟩ := by
  rw [ap_par, ap_evs, h1]
  simp only [Out.bind_ok]
  rw [ap_evs, h2]
  rfl
theorem s567_ok {env : List (Option DV)} {lh : List (Bool × Ob)} {gh : List Ob} {k many wide deep : Nat} (h : A env many wide deep) (S : Src gh (k + 100)) :
    ∃ (ea eb env' : List (Option DV)) (g1 g2 gh' : List Ob) (t u : List (List Rat)) (r0 c : List Rat), s5 ⟨env, lh, gh⟩ = .ok .nx ⟨ea, lh, g1⟩ ∧ s6 ⟨ea, lh, g1⟩ = .ok .nx ⟨eb, lh, g2⟩ ∧ s7 ⟨eb, lh, g2⟩ = .ok .nx ⟨env', lh, gh'⟩ ∧ B env' many wide deep t u r0 c ∧ Src gh' k := by
  have m3 := h.m1; have w3 := h.w1; have d3 := h.d1
  obtain ⟨t, g1, a1, a2, a3, a4⟩ := drawn_tab (lh := lh) (gh := gh) (k := k + 50) (i := 26) (j := 25) h.e12 h.e13 m3.2 w3.2 h.hl h.e1 rfl rfl (by decide) (S.mono (by omega))
  have h' := h.set (j := 3) (x := some (tab t)) (by decide)
  obtain ⟨u, g2, b1, b2, b3, b4⟩ := drawn_tab (lh := lh) (gh := g1) (k := k + 12) (i := 26) (j := 25) h'.e13 h'.e14 w3.2 d3.2 h'.hl h'.e1 rfl rfl (by decide) (a3.mono (by omega))
  have h'' := h'.set (j := 4) (x := some (tab u)) (by decide)
  obtain ⟨c, g3, c1, c2, c3, c4, c5⟩ := drawn_row (lh := lh) (gh := g2) (k := k) (i := 25) (own := [25]) (e := var 13) (vv h''.e13) w3.2 (fun d => hne (show (((env.set 3 (some (tab t))).set 4 (some (tab u))).set 25 none)[1]? = _ from hne h''.e1 (by decide)) (by decide)) (b3.mono (by omega))
  obtain ⟨r0, hr0⟩ : ∃ r0, t[0]? = some r0 := ⟨_, List.getElem?_eq_getElem (by rw [a2.l]; omega)⟩
  have e3 : ((env.set 3 (some (tab t))).set 4 (some (tab u)))[3]? = some (some (tab t)) := hne (heq (by rw [h.hl]; decide)) (by decide)
  have e4 : ((env.set 3 (some (tab t))).set 4 (some (tab u)))[4]? = some (some (tab u)) := heq (by rw [h'.hl]; decide)
  have q1 : vw2 ixF (var 3) (cst (.int 0)) ⟨(env.set 3 (some (tab t))).set 4 (some (tab u)), lh, g2⟩ = .ok (row r0) ⟨(env.set 3 (some (tab t))).set 4 (some (tab u)), lh, g2⟩ := vw2_st (vv e3) rfl (ix_head hr0)
  have h3 := (h''.set (j := 15) (x := some (row r0)) (by decide)).set (j := 16) (x := some (row c)) (by decide)
  refine ⟨_, _, _, g1, g2, g3, t, u, r0, c, asg1s a1, asg1s b1, par2 q1 c1, ⟨h3, hne (hne e3 (by decide)) (by decide), hne (hne e4 (by decide)) (by decide), hne (heq (by rw [h''.hl]; decide)) (by decide), heq (by rw [List.length_set, h''.hl]; decide), a2, b2, hr0, c2, c3⟩, c4⟩
end K07
end
section
set_option Elab.async false
set_option linter.all false
set_option maxRecDepth 100000
set_option exponentiation.threshold 20000
namespace K07
open PySem L2 Cv
theorem seq1 {f g : Sm} {st s : Sta} {r : Out Sta Fl} (h : f st = .ok .nx s) (k : g s = r) : seqS f g st = r := seq_ok h k
theorem dn_s {r : List Rat} (h : ∀ q ∈ r, Dn q) : Szs 104 r := dn_szs h
theorem dot_sz {m n : Nat} {r s : List Rat} (hr : Szs m r) (hs : Szs n s) (hl : r.length ≤ 3) (l : 1 + 3 * (m + n + 1) + (m + n) < 9000) : Sz (1 + 3 * (m + n + 1)) (dot r s) := by
  have hz : (List.zipWith (fun a b => a * b) r s).length ≤ 3 := by simp; omega
  have hm : (List.zipWith (fun a b => a * b) r s).length * (m + n + 1) ≤ 3 * (m + n + 1) := Nat.mul_le_mul_right _ hz
  have := (law_sum_ok (gh := []) (prod_szs hr hs) (by omega)).2
  exact this.mono (by omega)
theorem dots_sz {w : Nat} {t : List (List Rat)} {r : List Rat} {o : Nat} (hr : Szs 104 r) (hl : r.length ≤ 3) (h : Tb t w 104) : Szs 628 ((List.range w).map fun k => dot r (col t k)) := fun x hx => by
  obtain ⟨k, hk, rfl⟩ := List.mem_map.mp hx
  exact dot_sz hr (col_szs h (List.mem_range.mp hk)) hl (by decide)
theorem nil_of {t : List (List Rat)} {n : Nat} (h : t.length = n) (h1 : 1 ≤ n) : t ≠ [] := fun z => by rw [z] at h; simp at h; omega
section
variable {env : List (Option DV)} {lh : List (Bool × Ob)} {gh : List Ob} {many wide deep : Nat} {t u : List (List Rat)} {r c : List Rat}
theorem B.hrl (h : B env many wide deep t u r c) : r.length = wide := h.ht.len r (List.mem_of_getElem? h.hr)
theorem B.hrd (h : B env many wide deep t u r c) : ∀ q ∈ r, Dn q := h.ht.dn r (List.mem_of_getElem? h.hr)
theorem s8_ok (h : B env many wide deep t u r c) : s8 ⟨env, lh, gh⟩ = .ok .nx ⟨env, lh, gh⟩ := by
  have hw := h.w1; have hm := h.m1; have hd := h.d1
  have tb := h.hu.tb hw.2 hd.2
  have n0 := nil_of h.hu.l hw.1
  have l1 : r.length = u.length := by rw [h.hrl, h.hu.l]
  have p1 : 104 * wide ≤ 104 * 3 := Nat.mul_le_mul_left _ hw.2
  have p2 : 104 * deep ≤ 104 * 3 := Nat.mul_le_mul_left _ hd.2
  have p3 : (104 + (1 + 104 * deep)) * u.length ≤ (104 + (1 + 104 * 3)) * 3 := by rw [h.hu.l]; exact Nat.mul_le_mul (by omega) hw.2
  have q1 := row_led_ok (gh := gh) tb n0 (dn_s h.hrd) l1 (by decide) (by decide) (by omega) (by omega)
  have q2 := law_led_ok (gh := gh) tb n0 (dn_s h.hrd) l1 (by rw [h.hu.l]; omega)
  obtain ⟨x, hx⟩ := repr_row (dots_sz (o := 0) (dn_s h.hrd) (by rw [h.hrl]; exact hw.2) tb) (by decide) (by simp; omega)
  exact if_no (ne_rep (cal2s (ov (d := row r) h.e15) (ov (d := tab u) h.e4) q1) (cal2s (ov (d := row r) h.e15) (ov (d := tab u) h.e4) q2) (fun _ => rfl) (fun _ => rfl) hx hx)
theorem pair_ok {i j : Nat} {F : Fn} {op : Rat → Rat → Rat} {a b : List Rat} (hl : env.length = 27) (hi : env[i]? = some (some (row a))) (hj : env[j]? = some (some (row b))) (la : a.length ≤ 1000)
    (hF : ∀ (k : Nat) x y, a[k]? = some x → b[k]? = some y → F [rv x, rv y] gh = .ok (rv (op x y)) gh) :
    lcE .val (.many [5, 6]) [5, 6] (zipI false (var i) (var j)) (cst (.bl true)) (calD F (consE (var 5) (consE (var 6) nilE))) ⟨env, lh, gh⟩ = .ok (.lst ((List.zipWith op a b).map rv)) ⟨env, lh, gh⟩ := by
  have hz : zipI false (var i) (var j) ⟨env, lh, gh⟩ = .ok ⟨zipL (a.map rv) (b.map rv), []⟩ ⟨env, lh, gh⟩ := by
    rw [ap_zipI, vv hi]
    simp only [Out.bind_ok]
    rw [vv hj]
    rfl
  refine lcv hz (sl_of (by simp [zipL]; omega)) ?_
  refine lc_zip (s0 := ⟨env, lh, gh⟩) fun k x y hx hy => ?_
  have e5 : ((((env.set 6 none).set 5 none).set 5 (some (rv x))).set 6 (some (rv y)))[5]? = some (some (rv x)) := hne (heq (by simp [hl])) (by decide)
  have e6 : ((((env.set 6 none).set 5 none).set 5 (some (rv x))).set 6 (some (rv y)))[6]? = some (some (rv y)) := heq (by simp [hl])
  have := oc (d := rv (op x y)) (cal2s (lh := lh) (ov (d := rv x) e5) (ov (d := rv y) e6) (hF k x y hx hy))
  show Gv (Cv.out (calD F (consE (var 5) (consE (var 6) nilE))) ⟨(((env.set 6 none).set 5 none).set 5 (some (rv x))).set 6 (some (rv y)), lh, gh⟩) _ _
  rw [this]
  exact ⟨rfl, rfl, rfl⟩
theorem one_ok {i j : Nat} {f : Ex} {op : Rat → Rat} {a : List Rat} (hi : env[i]? = some (some (row a))) (la : a.length ≤ 1000)
    (hF : ∀ (k : Nat) x, a[k]? = some x → f ⟨(env.set j none).set j (some (rv x)), lh, gh⟩ = .ok (rv (op x)) ⟨(env.set j none).set j (some (rv x)), lh, gh⟩) :
    lcE .val (.one j) [j] (seqI (var i)) (cst (.bl true)) f ⟨env, lh, gh⟩ = .ok (.lst ((a.map op).map rv)) ⟨env, lh, gh⟩ := by
  refine lcv (sqv (vv hi)) (sl_of (by simp; omega)) ?_
  refine lc_one (s0 := ⟨env, lh, gh⟩) fun k x hx => ?_
  have := oc (d := rv (op x)) (hF k x hx)
  show Gv (Cv.out f ⟨(env.set j none).set j (some (rv x)), lh, gh⟩) _ _
  rw [this]
  exact ⟨rfl, rfl, rfl⟩
theorem rows_ok {γ : Type} {i j : Nat} {f : Ex} {w : γ → DV} {op : List Rat → γ} {a : List (List Rat)} (hw : ∀ y s, frz (w y) s = .ok (w y) s) (hi : env[i]? = some (some (tab a))) (la : a.length ≤ 1000)
    (hF : ∀ (k : Nat) x, a[k]? = some x → f ⟨(env.set j none).set j (some (row x)), lh, gh⟩ = .ok (w (op x)) ⟨(env.set j none).set j (some (row x)), lh, gh⟩) :
    bltE tupF [lcE .val (.one j) [j] (seqI (var i)) (cst (.bl true)) f] ⟨env, lh, gh⟩ = .ok (.tup ((a.map op).map w)) ⟨env, lh, gh⟩ := by
  refine tup1 (lcv (sqv (vv hi)) (sl_of (by simp; omega)) ?_)
  refine lc_one (s0 := ⟨env, lh, gh⟩) (u := row) (w := w) fun k x hx => ?_
  have := oc (d := w (op x)) (hF k x hx) (hw (op x))
  show Gv (Cv.out f ⟨(env.set j none).set j (some (row x)), lh, gh⟩) _ _
  rw [this]
  exact ⟨rfl, rfl, rfl⟩
theorem upto_ok {γ : Type} {i j n : Nat} {f : Ex} {w : γ → DV} {op : Nat → γ} (hw : ∀ y s, frz (w y) s = .ok (w y) s) (hi : env[i]? = some (some (.int (n : Nat)))) (hn : n ≤ 3)
    (hF : ∀ k, k < n → f ⟨(env.set j none).set j (some (.int (k : Nat))), lh, gh⟩ = .ok (w (op k)) ⟨(env.set j none).set j (some (.int (k : Nat))), lh, gh⟩) :
    bltE tupF [lcE .val (.one j) [j] (rng1 (var i)) (cst (.bl true)) f] ⟨env, lh, gh⟩ = .ok (.tup (((List.range n).map op).map w)) ⟨env, lh, gh⟩ := by
  refine tup1 (lcv (s := ⟨env, lh, gh⟩) (src := ⟨rngL 0 n, []⟩) (rng_ok (vv hi) (by omega)) (sl_of (by simp [rngL]; omega)) ?_)
  refine lc_rng (s0 := ⟨env, lh, gh⟩) (w := w) fun k hk => ?_
  have := oc (d := w (op k)) (hF k hk) (hw (op k))
  show Gv (Cv.out f ⟨(env.set j none).set j (some (.int (k : Nat))), lh, gh⟩) _ _
  rw [this]
  exact ⟨rfl, rfl, rfl⟩
theorem fz_rv (y : Rat) (s : Sta) : frz (rv y) s = .ok (rv y) s := rfl
theorem fz_row (y : List Rat) (s : Sta) : frz (row y) s = .ok (row y) s := rfl
theorem wl {j : Nat} {d : DV} (hl : env.length = 27) : ((env.set j none).set j (some d)).length = 27 := by rw [List.length_set, List.length_set, hl]
theorem wn2 {i j : Nat} {d x : DV} (h : env[i]? = some (some d)) (n : j ≠ i) : ((env.set j none).set j (some x))[i]? = some (some d) := hne (hne h n) n
theorem we {j : Nat} {d : DV} (h : j < env.length) : ((env.set j none).set j (some d))[j]? = some (some d) := heq (by rw [List.length_set]; exact h)
theorem s9_ok (h : B env many wide deep t u r c) : s9 ⟨env, lh, gh⟩ = .ok .nx ⟨env.set 18 (some (row (t.map fun r => dot r c))), lh, gh⟩ := by
  have hw := h.w1
  unfold s9
  refine asg1s ?_
  refine rows_ok (w := rv) (op := fun r => dot r c) fz_rv h.e3 (by have := h.ht.l; have := h.m1; omega) fun k x hx => ?_
  have hx' := List.mem_of_getElem? hx
  have xl := h.ht.len x hx'
  have xs := dn_s (h.ht.dn x hx')
  have cs := dn_s h.hc
  have q1 := pair_ok (lh := lh) (gh := gh) (op := fun a b => a * b) (F := f__law_mul) (wl (j := 17) (d := row x) h.hl) (we (j := 17) (d := row x) (by rw [h.hl]; decide)) (wn2 (j := 17) (x := row x) h.e16 (by decide)) (by omega) fun k a b ha hb => law_mul_ok (xs.at ha) (cs.at hb) (by decide)
  have hz : (List.zipWith (fun a b => a * b) x c).length ≤ 3 := by simp; omega
  have hm : (List.zipWith (fun a b => a * b) x c).length * (104 + 104 + 1) ≤ 3 * (104 + 104 + 1) := Nat.mul_le_mul_right _ hz
  have q2 := (law_sum_ok (gh := gh) (prod_szs xs cs) (by omega)).1
  exact cal1s (oc q1) q2
theorem made_sz {n : Nat} {t : List (List Rat)} {m : Nat} {c : List Rat} (ht : DT t m n) (hc : ∀ q ∈ c, Dn q) (hn : n ≤ 3) : Szs 628 (t.map fun r => dot r c) := fun x hx => by
  obtain ⟨r, hr, rfl⟩ := List.mem_map.mp hx
  exact dot_sz (dn_s (ht.dn r hr)) (dn_s hc) (by rw [ht.len r hr]; exact hn) (by decide)
theorem led_at {n m : Nat} {t : List (List Rat)} {c : List Rat} (ht : DT t m n) (hm : 1 ≤ m ∧ m ≤ 3) (hn : 1 ≤ n ∧ n ≤ 3) (hc : ∀ q ∈ c, Dn q) (hcl : c.length = n) : f_column_led [tab t, row c] gh = .ok (row (t.map fun r => dot r c)) gh := by
  have p1 : 104 * t.length ≤ 104 * 3 := by rw [ht.l]; exact Nat.mul_le_mul_left _ hm.2
  have p3 : (104 + (1 + 104 * t.length)) * n ≤ (104 + (1 + 104 * 3)) * 3 := Nat.mul_le_mul (by omega) hn.2
  exact column_led_ok (ht.tb hm.2 hn.2) (nil_of ht.l hm.1) hn.1 (dn_s hc) hcl (by decide) (by decide) (by omega) (by omega)
theorem s10_ok (h : B env many wide deep t u r c) (h18 : env[18]? = some (some (row (t.map fun r => dot r c)))) : s10 ⟨env, lh, gh⟩ = .ok .nx ⟨env, lh, gh⟩ := by
  obtain ⟨x, hx⟩ := repr_row (made_sz h.ht h.hc h.w1.2) (by decide) (by have := h.ht.l; have := h.m1; simp; omega)
  exact if_no (ne_rep (cal2s (ov (d := tab t) h.e3) (ov (d := row c) h.e16) (led_at h.ht h.m1 h.w1 h.hc h.hcl)) (vv h18) (fun _ => rfl) (fun _ => rfl) hx hx)
theorem tabs_at {n m d : Nat} {t u : List (List Rat)} (ht : DT t m n) (hu : DT u n d) (hm : 1 ≤ m ∧ m ≤ 3) (hn : 1 ≤ n ∧ n ≤ 3) (hd : 1 ≤ d ∧ d ≤ 3) : f_tables_led [tab t, tab u] gh = .ok (tab (t.map fun r => (List.range d).map fun k => dot r (col u k))) gh := by
  have p1 : 104 * d ≤ 104 * 3 := Nat.mul_le_mul_left _ hd.2
  have p3 : (104 + (1 + 104 * d)) * u.length ≤ (104 + (1 + 104 * 3)) * 3 := by rw [hu.l]; exact Nat.mul_le_mul (by omega) hn.2
  exact tables_led_ok (hu.tb hn.2 hd.2) (nil_of hu.l hn.1) (fun r hr => ⟨dn_s (ht.dn r hr), by rw [ht.len r hr, hu.l]⟩) (by have := ht.l; omega) (by decide) (by decide) (by omega) (by omega)
theorem s11_ok (h : B env many wide deep t u r c) : s11 ⟨env, lh, gh⟩ = .ok .nx ⟨env, lh, gh⟩ := by
  have hw := h.w1; have hm := h.m1; have hd := h.d1
  have tb := h.hu.tb hw.2 hd.2
  have n0 := nil_of h.hu.l hw.1
  obtain ⟨x, hx⟩ := repr_tab (t := t.map fun r => (List.range deep).map fun k => dot r (col u k)) (w := deep) (by have := h.ht.l; simp; omega) (by omega) (fun y hy => by
    obtain ⟨z, hz, rfl⟩ := List.mem_map.mp hy
    exact ⟨by simp, (dots_sz (o := 0) (dn_s (h.ht.dn z hz)) (by rw [h.ht.len z hz]; exact hw.2) tb).mono (by decide)⟩)
  have q2 : bltE tupF [lcE .val (.one 17) [17] (seqI (var 3)) (cst (.bl true)) (calD f__law_led (consE (var 17) (consE (var 4) nilE)))] ⟨env, lh, gh⟩ = .ok (tab (t.map fun r => (List.range deep).map fun k => dot r (col u k))) ⟨env, lh, gh⟩ := by
    refine rows_ok (w := row) fz_row h.e3 (by have := h.ht.l; omega) fun k y hy => ?_
    have hy' := List.mem_of_getElem? hy
    have q := law_led_ok (gh := gh) tb n0 (dn_s (h.ht.dn y hy')) (by rw [h.ht.len y hy', h.hu.l]) (by rw [h.hu.l]; omega)
    exact cal2s (ov (d := row y) (we (j := 17) (d := row y) (by rw [h.hl]; decide))) (ov (d := tab u) (wn2 (j := 17) (x := row y) h.e4 (by decide))) q
  exact if_no (ne_rep (cal2s (ov (d := tab t) h.e3) (ov (d := tab u) h.e4) (tabs_at h.ht h.hu hm hw hd)) q2 (fun _ => rfl) (fun _ => rfl) hx hx)
theorem ne_nil : neF (.tup []) (.tup []) = some (.bl false) := ne_self (Rp.tup (Rps.nil (k := 0) (n := 0))) rfl (by decide)
theorem tup0 : tupE nilE ⟨env, lh, gh⟩ = .ok (.tup []) ⟨env, lh, gh⟩ := by
  have s0 : 0 ≤ sizeLine := Nat.zero_le _
  simp [s0]
theorem s12_ok (h : B env many wide deep t u r c) : s12 ⟨env, lh, gh⟩ = .ok .nx ⟨env, lh, gh⟩ := by
  have hw := h.w1; have hm := h.m1
  have tb := h.ht.tb hm.2 hw.2
  have q1 := across_ok (gh := gh) tb (by decide) (nil_of h.ht.l hm.1)
  have q2 : bltE tupF [lcE .val (.one 25) [25] (rng1 (var 13)) (cst (.bl true)) (bltE tupF [lcE .val (.one 17) [17] (seqI (var 3)) (cst (.bl true)) (vw2 ixF (var 17) (var 25))])] ⟨env, lh, gh⟩ = .ok (tab ((List.range wide).map (col t))) ⟨env, lh, gh⟩ := by
    refine upto_ok (w := row) fz_row h.e13 hw.2 fun k hk => ?_
    refine rows_ok (w := rv) (op := fun r => r.getD k 0) fz_rv (wn2 (j := 25) (x := .int (k : Nat)) h.e3 (by decide)) (by have := h.ht.l; omega) fun i y hy => ?_
    have hy' := List.mem_of_getElem? hy
    have e1 := wn2 (j := 17) (x := row y) (we (j := 25) (d := .int (k : Nat)) (by rw [h.hl]; decide)) (by decide)
    have e2 := we (env := (env.set 25 none).set 25 (some (.int (k : Nat)))) (j := 17) (d := row y) (by rw [wl h.hl]; decide)
    exact vw2_st (vv e2) (vv e1) (ix_row (by rw [h.ht.len y hy']; exact hk))
  obtain ⟨x, hx⟩ := repr_tab (t := (List.range wide).map (col t)) (w := many) (by simp; omega) (by omega) (fun y hy => by
    obtain ⟨k, hk, rfl⟩ := List.mem_map.mp hy
    exact ⟨by simp [col, h.ht.l], (col_szs tb (List.mem_range.mp hk)).mono (by decide)⟩)
  exact if_no (or_no (ne_rep (cal1s (ov (d := tab t) h.e3) q1) q2 (fun _ => rfl) (fun _ => rfl) hx hx) (vw2_st (cal1s (out_tup tup0) across_nil) tup0 ne_nil))
end
end K07
end
section
set_option Elab.async false
set_option linter.all false
set_option maxRecDepth 100000
set_option exponentiation.threshold 20000
namespace K07
open PySem L2 Cv
section
variable {env : List (Option DV)} {lh : List (Bool × Ob)} {gh : List Ob} {many wide deep : Nat} {t u : List (List Rat)} {r c : List Rat}
theorem ix_col (h : B env many wide deep t u r c) : vw2 ixF (var 16) (cst (.int 0)) ⟨env, lh, gh⟩ = .ok (rv (c.getD 0 0)) ⟨env, lh, gh⟩ := by
  have := h.w1
  exact vw2_st (vv h.e16) rfl (ix_row (r := c) (k := 0) (by rw [h.hcl]; omega))
theorem c0_dn (h : B env many wide deep t u r c) : Dn (c.getD 0 0) := by
  have := h.w1
  have hk : 0 < c.length := by rw [h.hcl]; omega
  rw [List.getD_eq_getElem?_getD, List.getElem?_eq_getElem hk]
  exact h.hc _ (List.getElem_mem hk)
theorem s13_ok (h : B env many wide deep t u r c) : s13 ⟨env, lh, gh⟩ = .ok .nx ⟨(env.set 19 (some (row (r.map fun x => x * c.getD 0 0)))).set 20 (some (rv (c.getD 0 0))), lh, gh⟩ := by
  have hw := h.w1
  have q := row_scaled_ok (gh := gh) (dn_s h.hrd) (c0_dn h).sz (by decide) (by rw [h.hrl]; omega)
  exact par2 (cal2s (ov (d := row r) h.e15) (oc (ix_col h)) q) (ix_col h)
theorem s14_ok (h : B env many wide deep t u r c) (h19 : env[19]? = some (some (row (r.map fun x => x * c.getD 0 0)))) (h20 : env[20]? = some (some (rv (c.getD 0 0)))) : s14 ⟨env, lh, gh⟩ = .ok .nx ⟨env, lh, gh⟩ := by
  have hw := h.w1
  have cd := (c0_dn h).sz
  have rs := dn_s h.hrd
  have hsz : Szs 208 (r.map fun x => x * c.getD 0 0) := fun x hx => by
    obtain ⟨y, hy, rfl⟩ := List.mem_map.mp hx
    exact (rs y hy).mul cd
  obtain ⟨x, hx⟩ := repr_row hsz (by decide) (by have := h.hrl; simp; omega)
  have q1 := one_ok (lh := lh) (gh := gh) (i := 15) (j := 5) (f := calD f__law_mul (consE (var 5) (consE (var 20) nilE))) (op := fun x => x * c.getD 0 0) h.e15 (by rw [h.hrl]; omega) fun k y hy =>
    cal2s (ov (d := rv y) (we (j := 5) (d := rv y) (by rw [h.hl]; decide))) (ov (d := rv (c.getD 0 0)) (wn2 (j := 5) (x := rv y) h20 (by decide))) (law_mul_ok (rs.at hy) cd (by decide))
  exact if_no (ne_rep (vv h19) (tup1 q1) (fun _ => rfl) (fun _ => rfl) hx hx)
theorem s15_ok (h : B env many wide deep t u r c) : s15 ⟨env, lh, gh⟩ = .ok .nx ⟨env, lh, gh⟩ := by
  have hw := h.w1
  have rs := dn_s h.hrd
  have cs := dn_s h.hc
  have hsz : Szs 209 (List.zipWith (fun a b => a + b) r c) := fun x hx => by
    obtain ⟨k, hk, rfl⟩ := List.mem_iff_getElem.mp hx
    rw [List.getElem_zipWith]
    exact (rs _ (List.getElem_mem _)).add (cs _ (List.getElem_mem _))
  obtain ⟨x, hx⟩ := repr_row hsz (by decide) (by have := h.hrl; simp; omega)
  have q1 := pair_ok (lh := lh) (gh := gh) (i := 15) (j := 16) (op := fun a b => a + b) (F := f__law_add) h.hl h.e15 h.e16 (by rw [h.hrl]; omega) fun k a b ha hb => law_add_ok (rs.at ha) (cs.at hb) (by decide)
  have q2 := row_sum_ok (gh := gh) rs cs (by decide) (by rw [h.hrl, h.hcl]) (by rw [h.hrl]; omega)
  exact if_no (ne_rep (cal2s (ov (d := row r) h.e15) (ov (d := row c) h.e16) q2) (tup1 q1) (fun _ => rfl) (fun _ => rfl) hx hx)
theorem s16_ok (h : B env many wide deep t u r c) : s16 ⟨env, lh, gh⟩ = .ok .nx ⟨env.set 21 (some (tab ((List.range wide).map (unit wide)))), lh, gh⟩ := by
  have hw := h.w1
  exact asg1s (cal1s (ov (d := .int (wide : Nat)) h.e13) (unit_rows_ok (by omega)))
theorem unit_tb {n : Nat} (hn : n ≤ 3) : Tb ((List.range n).map (unit n)) n 1 := ⟨fun r hr => by
    obtain ⟨k, _, rfl⟩ := List.mem_map.mp hr
    exact unit_len n k, fun r hr => by
    obtain ⟨k, _, rfl⟩ := List.mem_map.mp hr
    exact szs_unit n k, by simp; omega, by omega⟩
theorem s17_ok (h : B env many wide deep t u r c) (h21 : env[21]? = some (some (tab ((List.range wide).map (unit wide))))) : s17 ⟨env, lh, gh⟩ = .ok .nx ⟨env, lh, gh⟩ := by
  have hw := h.w1; have hm := h.m1
  have tb := unit_tb hw.2
  have ul : ((List.range wide).map (unit wide)).length = wide := by simp
  have n0 := nil_of ul hw.1
  have p3 : (104 + (1 + 1 * wide)) * ((List.range wide).map (unit wide)).length ≤ (104 + (1 + 3)) * 3 := by rw [ul]; exact Nat.mul_le_mul (by omega) hw.2
  have q1 := tables_led_ok (gh := gh) (t := t) (n := 104) tb n0 (fun r hr => ⟨dn_s (h.ht.dn r hr), by rw [h.ht.len r hr, ul]⟩) (by have := h.ht.l; omega) (by decide) (by decide) (by omega) (by omega)
  have e1 : (t.map fun r => (List.range wide).map fun k => dot r (col ((List.range wide).map (unit wide)) k)) = t := by
    refine (List.map_congr_left fun r hr => unit_led (h.ht.len r hr)).trans ?_
    exact List.map_id _
  rw [e1] at q1
  have q2 := row_led_ok (gh := gh) (r := c) (n := 104) tb n0 (dn_s h.hc) (by rw [h.hcl, ul]) (by decide) (by decide) (by omega) (by omega)
  rw [unit_led h.hcl] at q2
  obtain ⟨x, hx⟩ := repr_tab (t := t) (w := wide) (by have := h.ht.l; omega) (by omega) (fun y hy => ⟨by rw [h.ht.len y hy]; exact Nat.le_refl _, (dn_s (h.ht.dn y hy)).mono (by decide)⟩)
  obtain ⟨y, hy⟩ := repr_row (dn_s h.hc) (by decide) (by rw [h.hcl]; omega)
  exact if_no (or_no (ne_rep (cal2s (ov (d := tab t) h.e3) (ov (d := tab ((List.range wide).map (unit wide))) h21) q1) (vv h.e3) (fun _ => rfl) (fun _ => rfl) hx hx)
    (ne_rep (cal2s (ov (d := row c) h.e16) (ov (d := tab ((List.range wide).map (unit wide))) h21) q2) (vv h.e16) (fun _ => rfl) (fun _ => rfl) hy hy))
theorem bits (n : Nat) (hn : n ≤ 3) : Bits n 104 13 117 628 1885 2513 where
  n4 := by omega
  h1 := by omega
  h2 := by decide
  h3 := by decide
  h4 := by decide
  h5 := by omega
  h6 := by decide
  h7 := by decide
  h8 := by decide
theorem sumf4 : ∀ n, n ≤ 3 → sumf (fun _ => 4) n ≤ 12 := fun n hn => by
  match n, hn with
  | 0, _ => decide
  | 1, _ => decide
  | 2, _ => decide
  | 3, _ => decide
theorem cw {n m : Nat} {t : List (List Rat)} (ht : DT t m n) (hm : m ≤ 3) : ∀ k, k < n → wb (col t k) < 2 ^ 13 := fun k hk => by
  have h1 := wb_lt2 (r := col t k) (f := fun _ => 4) fun i q hq => by
    obtain ⟨r, hr, rfl⟩ := List.mem_map.mp (List.mem_of_getElem? hq)
    have hkl : k < r.length := by rw [ht.len r hr]; exact hk
    rw [List.getD_eq_getElem?_getD, List.getElem?_eq_getElem hkl]
    have := (ht.dn r hr _ (List.getElem_mem hkl)).den
    show r[k].den < 16
    omega
  have h2 := sumf4 (col t k).length (by simp [col, ht.l]; exact hm)
  exact Nat.lt_of_lt_of_le h1 (Nat.pow_le_pow_right (by decide) (by omega))
theorem sol_at {n : Nat} {t : List (List Rat)} {x : List Rat} (ht : DT t n n) (hn : 1 ≤ n ∧ n ≤ 3) (hx : x.length = n) (hs : Szs 628 x) :
    ∃ gh' y, f_one_solution [tab t, row x] gh = .ok y gh' ∧ (¬ La.Indep (t.map fn) → y = .non) ∧ (∀ c : List Rat, c.length = n → x = (t.map fun q => dot q c) → (y = .non ∨ y = row c) ∧ (La.Indep (((List.range n).map (col t)).map fn) → y = row c)) := by
  have hw : wb x < 2 ^ 1885 := Nat.lt_of_lt_of_le (wb_lt hs) (Nat.pow_le_pow_right (by decide) (by rw [hx]; omega))
  obtain ⟨gh', y, h1, h2, h3, h4⟩ := sol_ok (gh := gh) (bits n hn.2) (ht.tb hn.2 hn.2) (by decide) hn.1 ht.l (cw ht hn.2) hx hs hw
  exact ⟨gh', y, h1, h3, h4⟩
theorem nis_non : nisF .non .non = some (.bl false) := rfl
theorem nis_row {r : List Rat} : nisF (row r) .non = some (.bl true) := rfl
theorem cut1 {a : DV} {ds : List DV} : slF none (some 1) (.tup (a :: ds)) = some (.tup [a]) := by
  simp only [slF, cutD, HT.sIx_none]
  have : HT.sIx (a :: ds).length (a :: ds).length (some 1) = 1 := by
    have e := HT.sIx_nat (a :: ds).length (a :: ds).length 1
    exact e.trans (by simp)
  rw [this]
  simp
theorem cut2 {a b : DV} {ds : List DV} : slF (some 2) none (.tup (a :: b :: ds)) = some (.tup ds) := by
  simp only [slF, cutD, HT.sIx_none]
  have : HT.sIx (a :: b :: ds).length 0 (some 2) = 2 := by
    have e := HT.sIx_nat (a :: b :: ds).length 0 2
    exact e.trans (by simp)
  rw [this]
  simp
end
end K07
end
section
set_option Elab.async false
set_option linter.all false
set_option maxRecDepth 100000
set_option exponentiation.threshold 20000
namespace K07
open PySem L2 Cv
section
variable {env : List (Option DV)} {lh : List (Bool × Ob)} {gh : List Ob} {many wide deep : Nat} {t u : List (List Rat)} {r c : List Rat}
theorem B.set17 {d : DV} (h : B env many wide deep t u r c) : B (env.set 17 (some d)) many wide deep t u r c := h.set (by decide)
theorem made_len {n m : Nat} {q : List (List Rat)} (hq : DT q m n) : (q.map fun r => dot r c).length = m := by rw [List.length_map, hq.l]
theorem s21_ok {sq : List (List Rat)} {y : DV} (h : B env many wide deep t u r c) (hq : DT sq wide wide) (h22 : env[22]? = some (some (tab sq))) (h23 : env[23]? = some (some (row (sq.map fun r => dot r c)))) (h24 : env[24]? = some (some y)) (hy : y = .non ∨ y = row c) : s21 ⟨env, lh, gh⟩ = .ok .nx ⟨env, lh, gh⟩ := by
  have hw := h.w1
  rcases hy with rfl | rfl
  · exact if_no (and_no1 (vw2_st (vv h24) rfl rfl))
  · obtain ⟨x, hx⟩ := repr_row (made_sz hq h.hc hw.2) (by decide) (by rw [made_len hq]; omega)
    have q1 : vw2 nisF (var 24) (cst .non) ⟨env, lh, gh⟩ = .ok (.bl true) ⟨env, lh, gh⟩ := vw2_st (vv h24) rfl rfl
    exact if_no (and_no2 q1 (ne_rep (cal2s (ov (d := tab sq) h22) (ov (d := row c) h24) (led_at hq hw hw h.hc h.hcl)) (vv h23) (fun _ => rfl) (fun _ => rfl) hx hx))
theorem twice_ok {a b : List Rat} {rest : List (List Rat)} (h22 : env[22]? = some (some (tab (a :: b :: rest)))) (hl : rest.length ≤ 1) : vw2 addF (vw2 mulF (slE (var 22) none (some (cst (.int 1)))) (cst (.int 2))) (slE (var 22) (some (cst (.int 2))) none) ⟨env, lh, gh⟩ = .ok (tab (a :: a :: rest)) ⟨env, lh, gh⟩ := by
  have k1 : slE (var 22) none (some (cst (.int 1))) ⟨env, lh, gh⟩ = .ok (.tup [row a]) ⟨env, lh, gh⟩ := by
    rw [ap_sl, vv h22]
    show optO (slF none (some 1) (.tup (row a :: (b :: rest).map row))) _ = _
    rw [cut1]; rfl
  have k2 : slE (var 22) (some (cst (.int 2))) none ⟨env, lh, gh⟩ = .ok (.tup (rest.map row)) ⟨env, lh, gh⟩ := by
    rw [ap_sl, vv h22]
    show optO (slF (some 2) none (.tup (row a :: row b :: rest.map row))) _ = _
    rw [cut2]; rfl
  have k3 : mulF (.tup [row a]) (.int 2) = some (.tup [row a, row a]) := by
    simp only [mulF]
    rw [if_pos ⟨by simp, by decide, by decide, by simp⟩]
    rfl
  have k4 : addF (.tup [row a, row a]) (.tup (rest.map row)) = some (tab (a :: a :: rest)) := by
    simp only [addF]
    rw [if_pos (sl_of (by simp; omega))]
    rfl
  exact vw2_st (vw2_st k1 rfl k3) k2 k4
theorem s22_ok {sq : List (List Rat)} (h : B env many wide deep t u r c) (hq : DT sq wide wide) (h22 : env[22]? = some (some (tab sq))) (h23 : env[23]? = some (some (row (sq.map fun r => dot r c)))) : ∃ gh', s22 ⟨env, lh, gh⟩ = .ok .nx ⟨env, lh, gh'⟩ := by
  have hw := h.w1
  by_cases h1 : wide = 1
  · refine ⟨gh, if_no (and_no1 (vw2_st (vv h.e13) rfl ?_))⟩
    rw [h1]; rfl
  · obtain ⟨a, b, rest, rfl⟩ : ∃ a b rest, sq = a :: b :: rest := by
      match sq, hq.l with
      | [], e => simp at e; omega
      | [_], e => simp at e; omega
      | a :: b :: rest, _ => exact ⟨a, b, rest, rfl⟩
    have hl := hq.l
    simp only [List.length_cons] at hl
    have hq2 : DT (a :: a :: rest) wide wide := ⟨by simp [hl], fun x hx => hq.len x (by
      simp only [List.mem_cons] at hx ⊢; rcases hx with z | z | z
      · exact .inl z
      · exact .inl z
      · exact .inr (.inr z)), fun x hx => hq.dn x (by
      simp only [List.mem_cons] at hx ⊢; rcases hx with z | z | z
      · exact .inl z
      · exact .inl z
      · exact .inr (.inr z))⟩
    obtain ⟨gh', y, e1, e2, _⟩ := sol_at (gh := gh) hq2 hw (made_len hq) (made_sz hq h.hc hw.2)
    have hy := e2 twice_dep
    subst hy
    have q0 : vw2 gtF (var 13) (cst (.int 1)) ⟨env, lh, gh⟩ = .ok (.bl true) ⟨env, lh, gh⟩ := by
      refine vw2_st (vv h.e13) rfl ?_
      show some (DV.bl (decide ((wide : Int) > 1))) = _
      rw [decide_eq_true (by omega)]
    exact ⟨gh', if_no (and_no2 q0 (vw2_at (a := .non) (b := .non) (cal2s (oc (twice_ok (lh := lh) h22 (by omega))) (ov (d := row ((a :: b :: rest).map fun r => dot r c)) h23) e1) rfl rfl))⟩
theorem s23_ok (h : B env many wide deep t u r c) : s23 ⟨env, lh, gh⟩ = .ok .nx ⟨env.set 17 (some (tab (tri wide))), lh, gh⟩ := by
  have hw := h.w1
  have s2 : 2 ≤ sizeLine := sl_of (by decide)
  refine asg1s ?_
  refine upto_ok (w := row) (op := fun j => (List.range wide).map fun k => if k ≤ j then (1 : Rat) else 0) fz_row h.e13 hw.2 fun j hj => ?_
  refine upto_ok (w := rv) (op := fun k => if k ≤ j then (1 : Rat) else 0) fz_rv (wn2 (j := 26) (x := .int (j : Nat)) h.e13 (by decide)) hw.2 fun k hk => ?_
  have e26 := wn2 (j := 25) (x := .int (k : Nat)) (we (j := 26) (d := .int (j : Nat)) (by rw [h.hl]; decide)) (by decide)
  have e25 := we (env := (env.set 26 none).set 26 (some (.int (j : Nat)))) (j := 25) (d := .int (k : Nat)) (by rw [wl h.hl]; decide)
  generalize (((env.set 26 none).set 26 (some (.int (j : Nat)))).set 25 none).set 25 (some (.int (k : Nat))) = e' at *
  have q0 : vw2 leF (var 25) (var 26) ⟨e', lh, gh⟩ = .ok (.bl (decide (k ≤ j))) ⟨e', lh, gh⟩ := by
    refine vw2_st (vv e25) (vv e26) ?_
    show some (DV.bl (decide ((k : Int) ≤ (j : Int)))) = _
    simp
  rw [ap_ife, q0]
  by_cases hkj : k ≤ j
  · simp only [hkj, if_true, decide_true, Out.bind_ok]
    simp [s2]
    rfl
  · simp only [hkj, if_false, decide_false, Out.bind_ok]
    simp [s2]
    rfl
theorem tri_dt {n : Nat} : DT (tri n) n n where
  l := by simp [tri]
  len r hr := by
    obtain ⟨k, _, rfl⟩ := List.mem_map.mp hr
    simp
  dn r hr q hq := by
    obtain ⟨j, _, rfl⟩ := List.mem_map.mp hr
    obtain ⟨k, _, rfl⟩ := List.mem_map.mp hq
    by_cases hkj : k ≤ j
    · rw [if_pos hkj]; exact ⟨by unfold Sz; decide, by decide⟩
    · rw [if_neg hkj]; exact ⟨by unfold Sz; decide, by decide⟩
theorem s24_ok (h : B env many wide deep t u r c) (h17 : env[17]? = some (some (tab (tri wide)))) : ∃ gh', s24 ⟨env, lh, gh⟩ = .ok (.rt (.bl true)) ⟨env, lh, gh'⟩ := by
  have hw := h.w1
  have hq := tri_dt (n := wide)
  obtain ⟨gh', y, e1, _, e2⟩ := sol_at (gh := gh) hq hw (made_len (c := c) hq) (made_sz hq h.hc hw.2)
  have hy := (e2 c h.hcl rfl).2 (tri_indep hw.1 hw.2)
  subst hy
  obtain ⟨x, hx⟩ := repr_row (dn_s h.hc) (by decide) (by rw [h.hcl]; omega)
  have q1 : calD f_one_solution (consE (var 17) (consE (calD f_column_led (consE (var 17) (consE (var 16) nilE))) nilE)) ⟨env, lh, gh⟩ = .ok (row c) ⟨env, lh, gh'⟩ :=
    cal2s (ov (d := tab (tri wide)) h17) (oc (d := row ((tri wide).map fun r => dot r c)) (cal2s (ov (d := tab (tri wide)) h17) (ov (d := row c) h.e16) (led_at hq hw hw h.hc h.hcl))) e1
  have k1 : bltE reprF [calD f_one_solution (consE (var 17) (consE (calD f_column_led (consE (var 17) (consE (var 16) nilE))) nilE))] ⟨env, lh, gh⟩ = .ok (.str x) ⟨env, lh, gh'⟩ := by
    rw [ap_blt, ap_evs, q1]
    show optO (reprF [row c]) _ = _
    rw [hx]; rfl
  have k2 : bltE reprF [var 16] ⟨env, lh, gh'⟩ = .ok (.str x) ⟨env, lh, gh'⟩ := by
    rw [ap_blt, ap_evs, vv h.e16]
    show optO (reprF [row c]) _ = _
    rw [hx]; rfl
  have e0 : eqF (.str x) (.str x) = some (.bl true) := eq_of_ne (v := false) (ne_str x)
  refine ⟨gh', ?_⟩
  unfold s24
  rw [ap_ret]
  have := oc (d := .bl true) (vw2_at k1 k2 e0)
  rw [this]
  rfl
theorem half {k : Nat} (h : A env many wide deep) (S : Src gh (k + 200)) : ∃ s, seqS s5 (seqS s6 (seqS s7 (seqS s8 (seqS s9 (seqS s10 (seqS s11 (seqS s12 (seqS s13 (seqS s14 (seqS s15 (seqS s16 (seqS s17 (seqS s18 (seqS s19 (seqS s20 (seqS s21 (seqS s22 (seqS s23 s24)))))))))))))))))) ⟨env, lh, gh⟩ = .ok (.rt (.bl true)) s := by
  obtain ⟨ea, eb, e7, g1, g2, g3, t, u, r, c, a5, a6, a7, B7, S7⟩ := s567_ok (lh := lh) (gh := gh) (k := k + 100) h (S.mono (by omega))
  have hw := B7.w1
  have B9 := B7.set (j := 18) (x := some (row (t.map fun r => dot r c))) (by decide)
  have h18 := heq (env := e7) (i := 18) (d := row (t.map fun r => dot r c)) (by rw [B7.hl]; decide)
  have k9 := s9_ok (lh := lh) (gh := g3) B7
  have k8 := s8_ok (lh := lh) (gh := g3) B7
  generalize e7.set 18 (some (row (t.map fun r => dot r c))) = e9 at *
  have k10 := s10_ok (lh := lh) (gh := g3) B9 h18
  have k11 := s11_ok (lh := lh) (gh := g3) B9
  have k12 := s12_ok (lh := lh) (gh := g3) B9
  have k13 := s13_ok (lh := lh) (gh := g3) B9
  have B13 := (B9.set (j := 19) (x := some (row (r.map fun x => x * c.getD 0 0))) (by decide)).set (j := 20) (x := some (rv (c.getD 0 0))) (by decide)
  have h19 : ((e9.set 19 (some (row (r.map fun x => x * c.getD 0 0)))).set 20 (some (rv (c.getD 0 0))))[19]? = some (some (row (r.map fun x => x * c.getD 0 0))) := hne (heq (by rw [B9.hl]; decide)) (by decide)
  have h20 : ((e9.set 19 (some (row (r.map fun x => x * c.getD 0 0)))).set 20 (some (rv (c.getD 0 0))))[20]? = some (some (rv (c.getD 0 0))) := heq (by rw [List.length_set, B9.hl]; decide)
  generalize (e9.set 19 (some (row (r.map fun x => x * c.getD 0 0)))).set 20 (some (rv (c.getD 0 0))) = e13 at *
  have k14 := s14_ok (lh := lh) (gh := g3) B13 h19 h20
  have k15 := s15_ok (lh := lh) (gh := g3) B13
  have k16 := s16_ok (lh := lh) (gh := g3) B13
  have B16 := B13.set (j := 21) (x := some (tab ((List.range wide).map (unit wide)))) (by decide)
  have h21 := heq (env := e13) (i := 21) (d := tab ((List.range wide).map (unit wide))) (by rw [B13.hl]; decide)
  generalize e13.set 21 (some (tab ((List.range wide).map (unit wide)))) = e16 at *
  have k17 := s17_ok (lh := lh) (gh := g3) B16 h21
  obtain ⟨sq, g4, q1, hq, q3, q4⟩ := drawn_tab (lh := lh) (gh := g3) (k := k + 50) (i := 26) (j := 25) B16.e13 B16.e13 hw.2 hw.2 B16.hl B16.e1 rfl rfl (by decide) (S7.mono (by omega))
  have k18 : s18 ⟨e16, lh, g3⟩ = .ok .nx ⟨e16.set 22 (some (tab sq)), lh, g4⟩ := asg1s q1
  have B18 := B16.set (j := 22) (x := some (tab sq)) (by decide)
  have h22 := heq (env := e16) (i := 22) (d := tab sq) (by rw [B16.hl]; decide)
  generalize e16.set 22 (some (tab sq)) = e18 at *
  have k19 : s19 ⟨e18, lh, g4⟩ = .ok .nx ⟨e18.set 23 (some (row (sq.map fun r => dot r c))), lh, g4⟩ := asg1s (cal2s (ov (d := tab sq) h22) (ov (d := row c) B18.e16) (led_at hq hw hw B18.hc B18.hcl))
  have B19 := B18.set (j := 23) (x := some (row (sq.map fun r => dot r c))) (by decide)
  have h22' : (e18.set 23 (some (row (sq.map fun r => dot r c))))[22]? = some (some (tab sq)) := hne h22 (by decide)
  have h23 := heq (env := e18) (i := 23) (d := row (sq.map fun r => dot r c)) (by rw [B18.hl]; decide)
  generalize e18.set 23 (some (row (sq.map fun r => dot r c))) = e19 at *
  obtain ⟨g5, y, y1, _, y3⟩ := sol_at (gh := g4) hq hw (made_len (c := c) hq) (made_sz hq B19.hc hw.2)
  have k20 : s20 ⟨e19, lh, g4⟩ = .ok .nx ⟨e19.set 24 (some y), lh, g5⟩ := asg1s (cal2s (ov (d := tab sq) h22') (ov (d := row (sq.map fun r => dot r c)) h23) y1)
  have hy := (y3 c B19.hcl rfl).1
  have B20 := B19.set (j := 24) (x := some y) (by decide)
  have h22'' : (e19.set 24 (some y))[22]? = some (some (tab sq)) := hne h22' (by decide)
  have h23' : (e19.set 24 (some y))[23]? = some (some (row (sq.map fun r => dot r c))) := hne h23 (by decide)
  have h24 := heq (env := e19) (i := 24) (d := y) (by rw [B19.hl]; decide)
  generalize e19.set 24 (some y) = e20 at *
  have k21 := s21_ok (lh := lh) (gh := g5) B20 hq h22'' h23' h24 hy
  obtain ⟨g6, k22⟩ := s22_ok (lh := lh) (gh := g5) B20 hq h22'' h23'
  have k23 := s23_ok (lh := lh) (gh := g6) B20
  have B23 := B20.set17 (d := tab (tri wide))
  have h17 := heq (env := e20) (i := 17) (d := tab (tri wide)) (by rw [B20.hl]; decide)
  generalize e20.set 17 (some (tab (tri wide))) = e23 at *
  obtain ⟨g7, k24⟩ := s24_ok (lh := lh) (gh := g6) B23 h17
  exact ⟨_, seq_ok a5 (seq_ok a6 (seq_ok a7 (seq_ok k8 (seq_ok k9 (seq_ok k10 (seq_ok k11 (seq_ok k12 (seq_ok k13 (seq_ok k14 (seq_ok k15 (seq_ok k16 (seq_ok k17 (seq_ok k18 (seq_ok k19 (seq_ok k20 (seq_ok k21 (seq_ok k22 (seq_ok k23 k24))))))))))))))))))⟩
end
theorem law_true (ns : List Int) (hn : ns.length ≤ 63) (hb : ∀ k ∈ ns, Builtin.Int.intBits k ≤ 1048576) : ∃ gh, K07.T 35 [.scr ns] [] = .ok (.bl true) gh := by
  obtain ⟨g0, a1, a2, a3⟩ := source_ok hn hb
  have hr := rng_int (f := cst (.int 6)) (st := ⟨some (.scr ns) :: some (.glb 1) :: List.replicate 25 none, [], g0⟩) (j := 6) rfl (by decide) (by decide)
  obtain ⟨st', g1, h1, h2, h3, h4⟩ := for_ok (t := .one 2) (b := lapB) (s0 := ⟨some (.scr ns) :: some (.glb 1) :: List.replicate 25 none, [], g0⟩) (gd := []) (ds := rngL 0 (6 : Int).toNat)
    (fun i st => st.env.length = 27 ∧ st.env[1]? = some (some (.glb 1)) ∧ st.lh = [] ∧ Src st.gh (1000 + 10 * (6 - i))) (st := ⟨some (.scr ns) :: some (.glb 1) :: List.replicate 25 none, [], g0⟩) ⟨by simp, rfl, rfl, a2.mono (by decide)⟩
    (fun i d st hd ⟨q1, q2, q3, q4⟩ => by
      have hi : i < 6 := by
        have := (List.getElem?_eq_some_iff.mp hd).1
        simpa [rngL] using this
      obtain ⟨env', gh', c1, c2, c3, c4⟩ := lap (env := st.env.set 2 (some d)) (lh := st.lh) (gh := st.gh) (k := 1000 + 10 * (6 - (i + 1))) (by simp [q1]) (hne q2 (by decide)) (q4.mono (by omega))
      exact ⟨_, rfl, _, .inl c1, stays_nil _ _, c2, c3, q3, c4⟩)
  obtain ⟨env, lh, gh⟩ := st'
  simp only at h1 h2 h3 h4
  subst h3
  have k2 : s1 ⟨some (.scr ns) :: some (.glb 1) :: List.replicate 25 none, [], g0⟩ = .ok .nx ⟨env, [], gh⟩ := by
    unfold s1
    rw [ap_for, hr]
    exact g1
  have S0 : Src gh 1000 := h4.mono (by omega)
  have k3 := s2_ok (env := env) (lh := []) (gh := gh)
  obtain ⟨g2, k4, S2⟩ := s3_ok (env := env.set 11 (some (.lst odds))) (lh := []) (gh := gh) (k := 900) (hne h2 (by decide)) (heq (by rw [h1]; decide)) (S0.mono (by omega))
  obtain ⟨env', a, b, c, g3, k5, A5, S3⟩ := s4_ok (lh := []) (gh := g2) (k := 800) (env := env.set 11 (some (.lst odds))) (by rw [List.length_set, h1]) (hne h2 (by decide)) (S2.mono (by omega))
  obtain ⟨s, k6⟩ := half (lh := []) (k := 100) A5 (S3.mono (by omega))
  refine ⟨s.gh, ?_⟩
  show leave (b_law ⟨some (.scr ns) :: none :: List.replicate 25 none, [], []⟩) = _
  rw [b_law_eq]
  have k1 : s0 ⟨some (.scr ns) :: none :: List.replicate 25 none, [], []⟩ = .ok .nx ⟨some (.scr ns) :: some (.glb 1) :: List.replicate 25 none, [], g0⟩ := by
    unfold s0
    exact asg1s (cal1s (ov (d := .scr ns) rfl) a1)
  rw [seq_ok k1 (seq_ok k2 (seq_ok k3 (seq_ok k4 (seq_ok k5 k6))))]
  rfl
end K07
end
section
set_option Elab.async false
set_option linter.all false
set_option maxRecDepth 100000
set_option maxHeartbeats 0
namespace K07
open PySem PySem.Spec PyProof.Rows L2 Cv
def top (i : Nat) : Stmt := PySem.Challenge.pw_copiedcurves_k07_fractions_by_cross_prod.main.body.getD i (.Pass ⟨0, 0, 0, 0⟩)
def clsB : Stmt → List Stmt
  | .ClassDef (body := b) .. => b
  | _ => []
def inn (i j : Nat) : Stmt := (clsB (top i)).getD j (.Pass ⟨0, 0, 0, 0⟩)
def dd : List He.DefD := ([⟨("is_whole", none), "is_whole", "is_whole", defArgs (top 9), defBody (top 9), defScope (top 9), [], []⟩, ⟨("ratio_of", none), "ratio_of", "ratio_of", defArgs (top 10), defBody (top 10), defScope (top 10), [], []⟩, ⟨("is_ratio", none), "is_ratio", "is_ratio", defArgs (top 11), defBody (top 11), defScope (top 11), [], []⟩, ⟨("ratio_sum", none), "ratio_sum", "ratio_sum", defArgs (top 12), defBody (top 12), defScope (top 12), [], []⟩, ⟨("ratio_less", none), "ratio_less", "ratio_less", defArgs (top 13), defBody (top 13), defScope (top 13), [], []⟩, ⟨("ratio_product", none), "ratio_product", "ratio_product", defArgs (top 14), defBody (top 14), defScope (top 14), [], []⟩, ⟨("ratio_quotient", none), "ratio_quotient", "ratio_quotient", defArgs (top 15), defBody (top 15), defScope (top 15), [], []⟩, ⟨("not_long", none), "not_long", "not_long", defArgs (top 16), defBody (top 16), defScope (top 16), [], []⟩, ⟨("whole_row", none), "whole_row", "whole_row", defArgs (top 18), defBody (top 18), defScope (top 18), [], []⟩, ⟨("made_small", none), "made_small", "made_small", defArgs (top 19), defBody (top 19), defScope (top 19), [], []⟩, ⟨("RowBasis", some "__init__"), "__init__", "RowBasis.__init__", defArgs (inn 20 0), defBody (inn 20 0), defScope (inn 20 0), [], []⟩, ⟨("RowBasis", some "many"), "many", "RowBasis.many", defArgs (inn 20 1), defBody (inn 20 1), defScope (inn 20 1), [], []⟩, ⟨("RowBasis", some "led_down"), "led_down", "RowBasis.led_down", defArgs (inn 20 2), defBody (inn 20 2), defScope (inn 20 2), [], []⟩, ⟨("RowBasis", some "factors"), "factors", "RowBasis.factors", defArgs (inn 20 3), defBody (inn 20 3), defScope (inn 20 3), [], []⟩, ⟨("RowBasis", some "put"), "put", "RowBasis.put", defArgs (inn 20 4), defBody (inn 20 4), defScope (inn 20 4), [], []⟩, ⟨("row_sum", none), "row_sum", "row_sum", defArgs (top 22), defBody (top 22), defScope (top 22), [], []⟩, ⟨("row_scaled", none), "row_scaled", "row_scaled", defArgs (top 23), defBody (top 23), defScope (top 23), [], []⟩, ⟨("unit_rows", none), "unit_rows", "unit_rows", defArgs (top 24), defBody (top 24), defScope (top 24), [], []⟩, ⟨("row_led", none), "row_led", "row_led", defArgs (top 25), defBody (top 25), defScope (top 25), [], []⟩, ⟨("across", none), "across", "across", defArgs (top 26), defBody (top 26), defScope (top 26), [], []⟩] : List He.DefD) ++ ([⟨("column_led", none), "column_led", "column_led", defArgs (top 27), defBody (top 27), defScope (top 27), [], []⟩, ⟨("tables_led", none), "tables_led", "tables_led", defArgs (top 28), defBody (top 28), defScope (top 28), [], []⟩, ⟨("one_solution", none), "one_solution", "one_solution", defArgs (top 29), defBody (top 29), defScope (top 29), [], []⟩, ⟨("_law_source", none), "_law_source", "_law_source", defArgs (top 31), defBody (top 31), defScope (top 31), [], []⟩, ⟨("_law_pick", none), "_law_pick", "_law_pick", defArgs (top 32), defBody (top 32), defScope (top 32), [], []⟩, ⟨("_law_of", none), "_law_of", "_law_of", defArgs (top 33), defBody (top 33), defScope (top 33), [], []⟩, ⟨("_law_part", none), "_law_part", "_law_part", defArgs (top 34), defBody (top 34), defScope (top 34), [], []⟩, ⟨("_law_num", none), "_law_num", "_law_num", defArgs (top 35), defBody (top 35), defScope (top 35), [], []⟩, ⟨("_law_add", none), "_law_add", "_law_add", defArgs (top 36), defBody (top 36), defScope (top 36), [], []⟩, ⟨("_law_mul", none), "_law_mul", "_law_mul", defArgs (top 37), defBody (top 37), defScope (top 37), [], []⟩, ⟨("_law_drawn", none), "_law_drawn", "_law_drawn", defArgs (top 38), defBody (top 38), defScope (top 38), [], []⟩, ⟨("_law_is", none), "_law_is", "_law_is", defArgs (top 39), defBody (top 39), defScope (top 39), [], []⟩, ⟨("_law_sum", none), "_law_sum", "_law_sum", defArgs (top 40), defBody (top 40), defScope (top 40), [], []⟩, ⟨("_law_led", none), "_law_led", "_law_led", defArgs (top 41), defBody (top 41), defScope (top 41), [], []⟩, ⟨("_law_figures_right", none), "_law_figures_right", "_law_figures_right", defArgs (top 42), defBody (top 42), defScope (top 42), [], []⟩, ⟨("law", none), "law", "law", defArgs (top 43), defBody (top 43), defScope (top 43), [], []⟩] : List He.DefD)
def bl : List Str := ["isinstance", "int", "bool", "tuple", "len", "abs", "zip", "any", "enumerate", "range", "sum", "max", "repr"]
def cs : List (Str × DV) := [("MOST_FIGURES", c_MOST_FIGURES), ("LONG_NUMBER", c_LONG_NUMBER), ("NONE", c_NONE), ("ONE", c_ONE)]
def bs : List (Str × String) := [("gcd", "math.gcd"), ("lcm", "math.lcm")]
def flds : List (String × Str) := [("RowBasis", "bottoms"), ("RowBasis", "echelon")]
def gl : List Str := (["is_whole", "ratio_of", "is_ratio", "ratio_sum", "ratio_less", "ratio_product", "ratio_quotient", "not_long", "whole_row", "made_small", "row_sum", "row_scaled", "unit_rows", "row_led", "across", "column_led", "tables_led", "one_solution", "_law_source", "_law_pick"] : List Str) ++ (["_law_of", "_law_part", "_law_num", "_law_add", "_law_mul", "_law_drawn", "_law_is", "_law_sum", "_law_led", "_law_figures_right", "law", "RowBasis"] : List Str)
def xcs : List XcD := [⟨"TooGreat", ["number"], "__init__", "TooGreat.__init__", defArgs (inn 3 0), defBody (inn 3 0), defScope (inn 3 0)⟩]
def ems : List (Str × Str × Bool) := [("TooGreat", "TooGreat", true)]
def D : LawD := { fn := dd, gl := gl, bl := bl, cs := cs, bs := bs, cl := ["RowBasis"], na := [("RowBasis", "bottoms"), ("RowBasis", "echelon")], me := [("RowBasis", "many"), ("RowBasis", "led_down"), ("RowBasis", "factors"), ("RowBasis", "put")], ma := ["RowBasis"], xc := xcs, em := ems, file := "/claim/cut.py" }
def lw_0 : Lw := { fns := [], blts := bl, cons := cs, bfs := bs, flds := flds, mets := [], mks := [], exs := [], exms := [] }
def N_0 : List Str := ["value"]
def P_0 : List Str := ["value"]
def lw_1 : Lw := { fns := [], blts := bl, cons := cs, bfs := bs, flds := flds, mets := [], mks := [], exs := [], exms := [] }
def N_1 : List Str := ["top", "bottom", "part"]
def P_1 : List Str := ["top", "bottom"]
def lw_2 : Lw := { fns := [("is_whole", 0)], blts := bl, cons := cs, bfs := bs, flds := flds, mets := [], mks := [], exs := [], exms := [] }
def N_2 : List Str := ["value"]
def P_2 : List Str := ["value"]
def lw_3 : Lw := { fns := [("ratio_of", 1)], blts := bl, cons := cs, bfs := bs, flds := flds, mets := [], mks := [], exs := [], exms := [] }
def N_3 : List Str := ["one", "other"]
def P_3 : List Str := ["one", "other"]
def lw_4 : Lw := { fns := [("ratio_of", 1)], blts := bl, cons := cs, bfs := bs, flds := flds, mets := [], mks := [], exs := [], exms := [] }
def N_4 : List Str := ["one", "other"]
def P_4 : List Str := ["one", "other"]
def lw_5 : Lw := { fns := [("ratio_of", 1)], blts := bl, cons := cs, bfs := bs, flds := flds, mets := [], mks := [], exs := [], exms := [] }
def N_5 : List Str := ["one", "other"]
def P_5 : List Str := ["one", "other"]
def lw_6 : Lw := { fns := [("ratio_of", 1)], blts := bl, cons := cs, bfs := bs, flds := flds, mets := [], mks := [], exs := [], exms := [] }
def N_6 : List Str := ["one", "other"]
def P_6 : List Str := ["one", "other"]
def lw_7 : Lw := { fns := [], blts := bl, cons := cs, bfs := bs, flds := flds, mets := [], mks := [], exs := [("TooGreat", ["number"])], exms := [] }
def N_7 : List Str := ["ratio", "longer"]
def P_7 : List Str := ["ratio"]
def lw_8 : Lw := { fns := [], blts := bl, cons := cs, bfs := bs, flds := flds, mets := [], mks := [], exs := [], exms := [] }
def N_8 : List Str := ["row", "bottom", "number"]
def P_8 : List Str := ["row"]
def lw_9 : Lw := { fns := [], blts := bl, cons := cs, bfs := bs, flds := flds, mets := [], mks := [], exs := [], exms := [] }
def N_9 : List Str := ["numbers", "part", "number"]
def P_9 : List Str := ["numbers"]
def lw_10 : Lw := { fns := [], blts := bl, cons := cs, bfs := bs, flds := flds, mets := [], mks := [], exs := [], exms := [] }
def N_10 : List Str := ["self"]
def P_10 : List Str := ["self"]
def lw_11 : Lw := { fns := [], blts := bl, cons := cs, bfs := bs, flds := flds, mets := [], mks := [], exs := [], exms := [] }
def N_11 : List Str := ["self"]
def P_11 : List Str := ["self"]
def lw_12 : Lw := { fns := [("made_small", 9)], blts := bl, cons := cs, bfs := bs, flds := flds, mets := [("RowBasis", "many", 11)], mks := [], exs := [], exms := [] }
def N_12 : List Str := ["self", "numbers", "long", "found", "place", "late", "part", "one", "other", "a", "b"]
def P_12 : List Str := ["self", "numbers"]
def lw_13 : Lw := { fns := [("whole_row", 8), ("ratio_of", 1)], blts := bl, cons := cs, bfs := bs, flds := flds, mets := [("RowBasis", "led_down", 12)], mks := [], exs := [], exms := [] }
def N_13 : List Str := ["self", "row", "numbers", "bottom", "left", "made", "by", "one", "late"]
def P_13 : List Str := ["self", "row"]
def lw_14 : Lw := { fns := [("whole_row", 8)], blts := bl, cons := cs, bfs := bs, flds := flds, mets := [("RowBasis", "led_down", 12)], mks := [], exs := [], exms := [] }
def N_14 : List Str := ["self", "row", "numbers", "bottom", "left", "made", "place", "k", "number"]
def P_14 : List Str := ["self", "row"]
def lw_15 : Lw := { fns := [("ratio_sum", 3)], blts := bl, cons := cs, bfs := bs, flds := flds, mets := [], mks := [], exs := [], exms := [] }
def N_15 : List Str := ["one", "other", "a", "b"]
def P_15 : List Str := ["one", "other"]
def lw_16 : Lw := { fns := [("ratio_product", 5)], blts := bl, cons := cs, bfs := bs, flds := flds, mets := [], mks := [], exs := [], exms := [] }
def N_16 : List Str := ["row", "ratio", "number"]
def P_16 : List Str := ["row", "ratio"]
def lw_17 : Lw := { fns := [], blts := bl, cons := cs, bfs := bs, flds := flds, mets := [], mks := [], exs := [], exms := [] }
def N_17 : List Str := ["many", "place", "k"]
def P_17 : List Str := ["many"]
def lw_18 : Lw := { fns := [("whole_row", 8), ("ratio_of", 1)], blts := bl, cons := cs, bfs := bs, flds := flds, mets := [], mks := [], exs := [], exms := [] }
def N_18 : List Str := ["row", "table", "whole", "factors", "bottom", "found", "k", "late", "one", "by"]
def P_18 : List Str := ["row", "table"]
def lw_19 : Lw := { fns := [], blts := bl, cons := cs, bfs := bs, flds := flds, mets := [], mks := [], exs := [], exms := [] }
def N_19 : List Str := ["table", "k", "row"]
def P_19 : List Str := ["table"]
def lw_20 : Lw := { fns := [("row_led", 18), ("across", 19)], blts := bl, cons := cs, bfs := bs, flds := flds, mets := [], mks := [], exs := [], exms := [] }
def N_20 : List Str := ["table", "column"]
def P_20 : List Str := ["table", "column"]
def lw_21 : Lw := { fns := [("row_led", 18)], blts := bl, cons := cs, bfs := bs, flds := flds, mets := [], mks := [], exs := [], exms := [] }
def N_21 : List Str := ["one", "other", "row"]
def P_21 : List Str := ["one", "other"]
def lw_22 : Lw := { fns := [("across", 19)], blts := bl, cons := cs, bfs := bs, flds := flds, mets := [("RowBasis", "put", 14), ("RowBasis", "factors", 13)], mks := [("RowBasis", "RowBasis", 10)], exs := [], exms := [] }
def N_22 : List Str := ["table", "column", "basis", "late"]
def P_22 : List Str := ["table", "column"]
def lw_23 : Lw := { fns := [], blts := bl, cons := cs, bfs := bs, flds := flds, mets := [], mks := [], exs := [], exms := [] }
def N_23 : List Str := ["script", "mixed", "cell"]
def P_23 : List Str := ["script"]
def lw_24 : Lw := { fns := [], blts := bl, cons := cs, bfs := bs, flds := flds, mets := [], mks := [], exs := [], exms := [] }
def N_24 : List Str := ["source", "many", "left", "mixed"]
def P_24 : List Str := ["source", "many"]
def lw_25 : Lw := { fns := [("_law_pick", 24)], blts := bl, cons := cs, bfs := bs, flds := flds, mets := [], mks := [], exs := [], exms := [] }
def N_25 : List Str := ["source", "some"]
def P_25 : List Str := ["source", "some"]
def lw_26 : Lw := { fns := [], blts := bl, cons := cs, bfs := bs, flds := flds, mets := [], mks := [], exs := [], exms := [] }
def N_26 : List Str := ["one", "other", "rest"]
def P_26 : List Str := ["one", "other"]
def lw_27 : Lw := { fns := [("_law_part", 26)], blts := bl, cons := cs, bfs := bs, flds := flds, mets := [], mks := [], exs := [], exms := [] }
def N_27 : List Str := ["top", "bottom", "part"]
def P_27 : List Str := ["top", "bottom"]
def lw_28 : Lw := { fns := [("_law_num", 27)], blts := bl, cons := cs, bfs := bs, flds := flds, mets := [], mks := [], exs := [], exms := [] }
def N_28 : List Str := ["one", "other"]
def P_28 : List Str := ["one", "other"]
def lw_29 : Lw := { fns := [("_law_num", 27)], blts := bl, cons := cs, bfs := bs, flds := flds, mets := [], mks := [], exs := [], exms := [] }
def N_29 : List Str := ["one", "other"]
def P_29 : List Str := ["one", "other"]
def lw_30 : Lw := { fns := [("_law_pick", 24), ("_law_num", 27)], blts := bl, cons := cs, bfs := bs, flds := flds, mets := [], mks := [], exs := [], exms := [] }
def N_30 : List Str := ["source", "top"]
def P_30 : List Str := ["source"]
def lw_31 : Lw := { fns := [("_law_part", 26)], blts := bl, cons := cs, bfs := bs, flds := flds, mets := [], mks := [], exs := [], exms := [] }
def N_31 : List Str := ["told", "top", "bottom"]
def P_31 : List Str := ["told", "top", "bottom"]
def lw_32 : Lw := { fns := [("_law_add", 28)], blts := bl, cons := cs, bfs := bs, flds := flds, mets := [], mks := [], exs := [], exms := [] }
def N_32 : List Str := ["some", "found", "one"]
def P_32 : List Str := ["some"]
def lw_33 : Lw := { fns := [("_law_sum", 32), ("_law_mul", 29)], blts := bl, cons := cs, bfs := bs, flds := flds, mets := [], mks := [], exs := [], exms := [] }
def N_33 : List Str := ["row", "table", "k", "a", "line"]
def P_33 : List Str := ["row", "table"]
def lw_34 : Lw := { fns := [("_law_pick", 24), ("not_long", 7)], blts := bl, cons := cs, bfs := bs, flds := flds, mets := [], mks := [], exs := [("TooGreat", ["number"])], exms := [("TooGreat", "TooGreat", true)] }
def N_34 : List Str := ["source", "many", "is_top", "far", "number", "told", "error"]
def P_34 : List Str := ["source"]
def lw_35 : Lw := { fns := [("_law_source", 23), ("_law_drawn", 30), ("_law_is", 31), ("ratio_sum", 3), ("ratio_less", 4), ("ratio_product", 5), ("ratio_quotient", 6), ("_law_pick", 24), ("_law_of", 25), ("ratio_of", 1), ("_law_num", 27), ("is_ratio", 2), ("_law_figures_right", 34), ("row_led", 18), ("_law_led", 33), ("_law_sum", 32), ("_law_mul", 29), ("column_led", 20), ("tables_led", 21), ("across", 19), ("row_scaled", 16), ("row_sum", 15), ("_law_add", 28), ("unit_rows", 17), ("one_solution", 22)], blts := bl, cons := cs, bfs := bs, flds := flds, mets := [], mks := [], exs := [], exms := [] }
def N_35 : List Str := ["script", "source", "lap", "one", "other", "a", "b", "c", "d", "top", "bottom", "odd", "many", "wide", "deep", "row", "column", "line", "due", "scaled", "number", "same", "square", "made", "told", "k", "j"]
def P_35 : List Str := ["script"]
theorem s_0 : SndB' T lw_0 ⟨(defScope (top 9)).names, N_0, true⟩ (defBody (top 9)) b_is_whole :=
  (sndB_one' (snd_ret (snd_boolop (sndB_and (snd_isi (T := "int") (by decide) rfl rfl (by kernel_rfl) (by decide +kernel) (by kernel_rfl) (by decide +kernel) (by decide +kernel) (by decide +kernel) (by decide) (by kernel_rfl) (by decide) (by kernel_rfl) rfl (snd_var (i := 0) (by kernel_rfl) (by kernel_rfl) (by kernel_rfl) (by kernel_rfl))) (sndB_one (snd_not (snd_isi (T := "bool") (by decide) rfl rfl (by kernel_rfl) (by decide +kernel) (by kernel_rfl) (by decide +kernel) (by decide +kernel) (by decide +kernel) (by decide) (by kernel_rfl) (by decide) (by kernel_rfl) rfl (snd_var (i := 0) (by kernel_rfl) (by kernel_rfl) (by kernel_rfl) (by kernel_rfl)))))))))
theorem s_1 : SndB' T lw_1 ⟨(defScope (top 10)).names, N_1, true⟩ (defBody (top 10)) b_ratio_of :=
  (sndB_cons (snd_asg1 (i := 2) (by kernel_rfl) (by kernel_rfl) rfl (snd_ite (sndT_cmp (fun _ _ _ _ => gt_ok) (by kernel_rfl) (snd_var (i := 1) (by kernel_rfl) (by kernel_rfl) (by kernel_rfl) (by kernel_rfl)) snd_int) (snd_bfn (fun _ _ _ c => gcd_ok) (by kernel_rfl) (List.mem_of_getElem? (i := 0) rfl) (by kernel_rfl) rfl (sndL_cons rfl (snd_var (i := 0) (by kernel_rfl) (by kernel_rfl) (by kernel_rfl) (by kernel_rfl)) (sndL_cons rfl (snd_var (i := 1) (by kernel_rfl) (by kernel_rfl) (by kernel_rfl) (by kernel_rfl)) sndL_nil))) (snd_un (fun _ _ _ _ => neg_ok) (snd_bfn (fun _ _ _ c => gcd_ok) (by kernel_rfl) (List.mem_of_getElem? (i := 0) rfl) (by kernel_rfl) rfl (sndL_cons rfl (snd_var (i := 0) (by kernel_rfl) (by kernel_rfl) (by kernel_rfl) (by kernel_rfl)) (sndL_cons rfl (snd_var (i := 1) (by kernel_rfl) (by kernel_rfl) (by kernel_rfl) (by kernel_rfl)) sndL_nil))))))
  (sndB_one' (snd_ret (snd_tup (sndA_cons rfl (snd_bin (fun _ _ _ _ => fdv_ok) (snd_var (i := 0) (by kernel_rfl) (by kernel_rfl) (by kernel_rfl) (by kernel_rfl)) (snd_var (i := 2) (by kernel_rfl) (by kernel_rfl) (by kernel_rfl) (by kernel_rfl))) (sndA_cons rfl (snd_bin (fun _ _ _ _ => fdv_ok) (snd_var (i := 1) (by kernel_rfl) (by kernel_rfl) (by kernel_rfl) (by kernel_rfl)) (snd_var (i := 2) (by kernel_rfl) (by kernel_rfl) (by kernel_rfl) (by kernel_rfl))) sndA_nil))))))
theorem s_2 : SndB' T lw_2 ⟨(defScope (top 11)).names, N_2, true⟩ (defBody (top 11)) b_is_ratio :=
  (sndB_cons (snd_if (sndT_boolop (sndBT_or (sndT_not (sndT_val (snd_isi (T := "tuple") (by decide) rfl rfl (by kernel_rfl) (by decide +kernel) (by kernel_rfl) (by decide +kernel) (by decide +kernel) (by decide +kernel) (by decide) (by kernel_rfl) (by decide) (by kernel_rfl) rfl (snd_var (i := 0) (by kernel_rfl) (by kernel_rfl) (by kernel_rfl) (by kernel_rfl))) rfl)) (sndBT_or (sndT_cmp (fun _ _ _ c => ne_ok c) (by kernel_rfl) (snd_bltn (fun _ _ _ c => len_ok c) (by kernel_rfl) (by decide +kernel) (by decide +kernel) (by decide) (by kernel_rfl) rfl (sndL_cons rfl (snd_var (i := 0) (by kernel_rfl) (by kernel_rfl) (by kernel_rfl) (by kernel_rfl)) sndL_nil)) snd_int) (sndBT_or (sndT_not (sndT_val (snd_call (f := 0) (by kernel_rfl) (List.mem_of_getElem? (i := 0) rfl) rfl (by kernel_rfl) (sndA_cons rfl (snd_ix (fun _ _ => rfl) (snd_var (i := 0) (by kernel_rfl) (by kernel_rfl) (by kernel_rfl) (by kernel_rfl)) snd_int) sndA_nil)) rfl)) (sndBT_or1 (sndT_not (sndT_val (snd_call (f := 0) (by kernel_rfl) (List.mem_of_getElem? (i := 0) rfl) rfl (by kernel_rfl) (sndA_cons rfl (snd_ix (fun _ _ => rfl) (snd_var (i := 0) (by kernel_rfl) (by kernel_rfl) (by kernel_rfl) (by kernel_rfl)) snd_int) sndA_nil)) rfl))))))) (sndB_one' (snd_ret snd_bl)) sndB_nil)
  (sndB_one' (snd_ret (snd_boolop (sndB_and (snd_cmp (fun _ _ _ _ => gt_ok) (by kernel_rfl) (snd_ix (fun _ _ => rfl) (snd_var (i := 0) (by kernel_rfl) (by kernel_rfl) (by kernel_rfl) (by kernel_rfl)) snd_int) snd_int) (sndB_one (snd_cmp (fun _ _ _ c => eq_ok c) (by kernel_rfl) (snd_bfn (fun _ _ _ c => gcd_ok) (by kernel_rfl) (List.mem_of_getElem? (i := 0) rfl) (by kernel_rfl) rfl (sndL_cons rfl (snd_ix (fun _ _ => rfl) (snd_var (i := 0) (by kernel_rfl) (by kernel_rfl) (by kernel_rfl) (by kernel_rfl)) snd_int) (sndL_cons rfl (snd_ix (fun _ _ => rfl) (snd_var (i := 0) (by kernel_rfl) (by kernel_rfl) (by kernel_rfl) (by kernel_rfl)) snd_int) sndL_nil))) snd_int)))))))
theorem s_3 : SndB' T lw_3 ⟨(defScope (top 12)).names, N_3, true⟩ (defBody (top 12)) b_ratio_sum :=
  (sndB_one' (snd_ret (snd_call (f := 1) (by kernel_rfl) (List.mem_of_getElem? (i := 0) rfl) rfl (by kernel_rfl) (sndA_cons rfl (snd_bin (fun _ _ _ c => add_ok c) (snd_bin (fun _ _ _ c => mul_ok c) (snd_ix (fun _ _ => rfl) (snd_var (i := 0) (by kernel_rfl) (by kernel_rfl) (by kernel_rfl) (by kernel_rfl)) snd_int) (snd_ix (fun _ _ => rfl) (snd_var (i := 1) (by kernel_rfl) (by kernel_rfl) (by kernel_rfl) (by kernel_rfl)) snd_int)) (snd_bin (fun _ _ _ c => mul_ok c) (snd_ix (fun _ _ => rfl) (snd_var (i := 1) (by kernel_rfl) (by kernel_rfl) (by kernel_rfl) (by kernel_rfl)) snd_int) (snd_ix (fun _ _ => rfl) (snd_var (i := 0) (by kernel_rfl) (by kernel_rfl) (by kernel_rfl) (by kernel_rfl)) snd_int))) (sndA_cons rfl (snd_bin (fun _ _ _ c => mul_ok c) (snd_ix (fun _ _ => rfl) (snd_var (i := 0) (by kernel_rfl) (by kernel_rfl) (by kernel_rfl) (by kernel_rfl)) snd_int) (snd_ix (fun _ _ => rfl) (snd_var (i := 1) (by kernel_rfl) (by kernel_rfl) (by kernel_rfl) (by kernel_rfl)) snd_int)) sndA_nil)))))
theorem s_4 : SndB' T lw_4 ⟨(defScope (top 13)).names, N_4, true⟩ (defBody (top 13)) b_ratio_less :=
  (sndB_one' (snd_ret (snd_call (f := 1) (by kernel_rfl) (List.mem_of_getElem? (i := 0) rfl) rfl (by kernel_rfl) (sndA_cons rfl (snd_bin (fun _ _ _ _ => sub_ok) (snd_bin (fun _ _ _ c => mul_ok c) (snd_ix (fun _ _ => rfl) (snd_var (i := 0) (by kernel_rfl) (by kernel_rfl) (by kernel_rfl) (by kernel_rfl)) snd_int) (snd_ix (fun _ _ => rfl) (snd_var (i := 1) (by kernel_rfl) (by kernel_rfl) (by kernel_rfl) (by kernel_rfl)) snd_int)) (snd_bin (fun _ _ _ c => mul_ok c) (snd_ix (fun _ _ => rfl) (snd_var (i := 1) (by kernel_rfl) (by kernel_rfl) (by kernel_rfl) (by kernel_rfl)) snd_int) (snd_ix (fun _ _ => rfl) (snd_var (i := 0) (by kernel_rfl) (by kernel_rfl) (by kernel_rfl) (by kernel_rfl)) snd_int))) (sndA_cons rfl (snd_bin (fun _ _ _ c => mul_ok c) (snd_ix (fun _ _ => rfl) (snd_var (i := 0) (by kernel_rfl) (by kernel_rfl) (by kernel_rfl) (by kernel_rfl)) snd_int) (snd_ix (fun _ _ => rfl) (snd_var (i := 1) (by kernel_rfl) (by kernel_rfl) (by kernel_rfl) (by kernel_rfl)) snd_int)) sndA_nil)))))
theorem s_5 : SndB' T lw_5 ⟨(defScope (top 14)).names, N_5, true⟩ (defBody (top 14)) b_ratio_product :=
  (sndB_one' (snd_ret (snd_call (f := 1) (by kernel_rfl) (List.mem_of_getElem? (i := 0) rfl) rfl (by kernel_rfl) (sndA_cons rfl (snd_bin (fun _ _ _ c => mul_ok c) (snd_ix (fun _ _ => rfl) (snd_var (i := 0) (by kernel_rfl) (by kernel_rfl) (by kernel_rfl) (by kernel_rfl)) snd_int) (snd_ix (fun _ _ => rfl) (snd_var (i := 1) (by kernel_rfl) (by kernel_rfl) (by kernel_rfl) (by kernel_rfl)) snd_int)) (sndA_cons rfl (snd_bin (fun _ _ _ c => mul_ok c) (snd_ix (fun _ _ => rfl) (snd_var (i := 0) (by kernel_rfl) (by kernel_rfl) (by kernel_rfl) (by kernel_rfl)) snd_int) (snd_ix (fun _ _ => rfl) (snd_var (i := 1) (by kernel_rfl) (by kernel_rfl) (by kernel_rfl) (by kernel_rfl)) snd_int)) sndA_nil)))))
theorem s_6 : SndB' T lw_6 ⟨(defScope (top 15)).names, N_6, true⟩ (defBody (top 15)) b_ratio_quotient :=
  (sndB_one' (snd_ret (snd_call (f := 1) (by kernel_rfl) (List.mem_of_getElem? (i := 0) rfl) rfl (by kernel_rfl) (sndA_cons rfl (snd_bin (fun _ _ _ c => mul_ok c) (snd_ix (fun _ _ => rfl) (snd_var (i := 0) (by kernel_rfl) (by kernel_rfl) (by kernel_rfl) (by kernel_rfl)) snd_int) (snd_ix (fun _ _ => rfl) (snd_var (i := 1) (by kernel_rfl) (by kernel_rfl) (by kernel_rfl) (by kernel_rfl)) snd_int)) (sndA_cons rfl (snd_bin (fun _ _ _ c => mul_ok c) (snd_ix (fun _ _ => rfl) (snd_var (i := 0) (by kernel_rfl) (by kernel_rfl) (by kernel_rfl) (by kernel_rfl)) snd_int) (snd_ix (fun _ _ => rfl) (snd_var (i := 1) (by kernel_rfl) (by kernel_rfl) (by kernel_rfl) (by kernel_rfl)) snd_int)) sndA_nil)))))
theorem s_7 : SndB' T lw_7 ⟨(defScope (top 16)).names, N_7, true⟩ (defBody (top 16)) b_not_long :=
  (sndB_cons (snd_asg1 (i := 1) (by kernel_rfl) (by kernel_rfl) rfl (snd_typ (fun _ _ _ c => int_ok) (by kernel_rfl) (by decide +kernel) (by decide +kernel) (by decide) (by kernel_rfl) rfl (sndL_cons rfl (snd_bin (fun _ _ _ c => add_ok c) snd_str (snd_bin (fun _ _ _ c => mul_ok c) snd_str (snd_con (by kernel_rfl) (List.mem_of_getElem? (i := 0) rfl) (by kernel_rfl)))) sndL_nil)))
  (sndB_cons (snd_if (sndT_boolop (sndBT_or (sndT_cmp (fun _ _ _ _ => ge_ok) (by kernel_rfl) (snd_bltn (fun _ _ _ c => abs_ok) (by kernel_rfl) (by decide +kernel) (by decide +kernel) (by decide) (by kernel_rfl) rfl (sndL_cons rfl (snd_ix (fun _ _ => rfl) (snd_var (i := 0) (by kernel_rfl) (by kernel_rfl) (by kernel_rfl) (by kernel_rfl)) snd_int) sndL_nil)) (snd_var (i := 1) (by kernel_rfl) (by kernel_rfl) (by kernel_rfl) (by kernel_rfl))) (sndBT_or1 (sndT_cmp (fun _ _ _ _ => ge_ok) (by kernel_rfl) (snd_ix (fun _ _ => rfl) (snd_var (i := 0) (by kernel_rfl) (by kernel_rfl) (by kernel_rfl) (by kernel_rfl)) snd_int) (snd_var (i := 1) (by kernel_rfl) (by kernel_rfl) (by kernel_rfl) (by kernel_rfl)))))) (sndB_one' (snd_raise rfl (List.mem_of_getElem? (i := 0) rfl) (by kernel_rfl) (by kernel_rfl) rfl (sndA_cons rfl (snd_con (by kernel_rfl) (List.mem_of_getElem? (i := 1) rfl) (by kernel_rfl)) sndA_nil))) sndB_nil)
  (sndB_one' (snd_ret (snd_var (i := 0) (by kernel_rfl) (by kernel_rfl) (by kernel_rfl) (by kernel_rfl))))))
theorem s_8 : SndB' T lw_8 ⟨(defScope (top 18)).names, N_8, true⟩ (defBody (top 18)) b_whole_row :=
  (sndB_cons (snd_asg1 (i := 1) (by kernel_rfl) (by kernel_rfl) rfl snd_int)
  (sndB_cons (snd_for rfl (fun _ _ => rfl) (sndI_seq (snd_var (i := 0) (by kernel_rfl) (by kernel_rfl) (by kernel_rfl) (by kernel_rfl))) (sndG_one (i := 2) (by kernel_rfl) (by kernel_rfl)) (sndB_one' (snd_asg1 (i := 1) (by kernel_rfl) (by kernel_rfl) rfl (snd_bfn (fun _ _ _ c => lcm_ok) (by kernel_rfl) (List.mem_of_getElem? (i := 1) rfl) (by kernel_rfl) rfl (sndL_cons rfl (snd_var (i := 1) (by kernel_rfl) (by kernel_rfl) (by kernel_rfl) (by kernel_rfl)) (sndL_cons rfl (snd_ix (fun _ _ => rfl) (snd_var (i := 2) (by kernel_rfl) (by kernel_rfl) (by kernel_rfl) (by kernel_rfl)) snd_int) sndL_nil))))))
  (sndB_one' (snd_ret (snd_tup (sndA_cons rfl (snd_lc (own := [("number", 2)]) .val (by decide) (fun _ _ => rfl) (sndI_seq (snd_var (i := 0) (by kernel_rfl) (by kernel_rfl) (by kernel_rfl) (by kernel_rfl))) (by kernel_rfl) (sndG_one (i := 2) (by kernel_rfl) (by kernel_rfl)) sndQ_nil (snd_bin (fun _ _ _ c => mul_ok c) (snd_ix (fun _ _ => rfl) (snd_var (i := 2) (by kernel_rfl) (by kernel_rfl) (by kernel_rfl) (by kernel_rfl)) snd_int) (snd_bin (fun _ _ _ _ => fdv_ok) (snd_var (i := 1) (by kernel_rfl) (by kernel_rfl) (by kernel_rfl) (by kernel_rfl)) (snd_ix (fun _ _ => rfl) (snd_var (i := 2) (by kernel_rfl) (by kernel_rfl) (by kernel_rfl) (by kernel_rfl)) snd_int)))) (sndA_cons rfl (snd_var (i := 1) (by kernel_rfl) (by kernel_rfl) (by kernel_rfl) (by kernel_rfl)) sndA_nil)))))))
theorem s_9 : SndB' T lw_9 ⟨(defScope (top 19)).names, N_9, true⟩ (defBody (top 19)) b_made_small :=
  (sndB_cons (snd_asg1 (i := 1) (by kernel_rfl) (by kernel_rfl) rfl snd_int)
  (sndB_cons (snd_for rfl (fun _ _ => rfl) (sndI_seq (snd_var (i := 0) (by kernel_rfl) (by kernel_rfl) (by kernel_rfl) (by kernel_rfl))) (sndG_one (i := 2) (by kernel_rfl) (by kernel_rfl)) (sndB_one' (snd_asg1 (i := 1) (by kernel_rfl) (by kernel_rfl) rfl (snd_bfn (fun _ _ _ c => gcd_ok) (by kernel_rfl) (List.mem_of_getElem? (i := 0) rfl) (by kernel_rfl) rfl (sndL_cons rfl (snd_var (i := 1) (by kernel_rfl) (by kernel_rfl) (by kernel_rfl) (by kernel_rfl)) (sndL_cons rfl (snd_var (i := 2) (by kernel_rfl) (by kernel_rfl) (by kernel_rfl) (by kernel_rfl)) sndL_nil))))))
  (sndB_one' (snd_ret (snd_ite (sndT_cmp (fun _ _ _ _ => gt_ok) (by kernel_rfl) (snd_var (i := 1) (by kernel_rfl) (by kernel_rfl) (by kernel_rfl) (by kernel_rfl)) snd_int) (snd_lc (own := [("number", 2)]) .val (by decide) (fun _ _ => rfl) (sndI_seq (snd_var (i := 0) (by kernel_rfl) (by kernel_rfl) (by kernel_rfl) (by kernel_rfl))) (by kernel_rfl) (sndG_one (i := 2) (by kernel_rfl) (by kernel_rfl)) sndQ_nil (snd_bin (fun _ _ _ _ => fdv_ok) (snd_var (i := 2) (by kernel_rfl) (by kernel_rfl) (by kernel_rfl) (by kernel_rfl)) (snd_var (i := 1) (by kernel_rfl) (by kernel_rfl) (by kernel_rfl) (by kernel_rfl)))) (snd_var (i := 0) (by kernel_rfl) (by kernel_rfl) (by kernel_rfl) (by kernel_rfl)))))))
theorem s_10 : SndB' T lw_10 ⟨(defScope (inn 20 0)).names, N_10, true⟩ (defBody (inn 20 0)) b_RowBasis_init :=
  (sndB_cons (snd_setFld (by decide +kernel) rfl (snd_var (i := 0) (by kernel_rfl) (by kernel_rfl) (by kernel_rfl) (by kernel_rfl)) (snd_lst .glb sndA_nil))
  (sndB_one' (snd_setFld (by decide +kernel) rfl (snd_var (i := 0) (by kernel_rfl) (by kernel_rfl) (by kernel_rfl) (by kernel_rfl)) (snd_lst .glb sndA_nil))))
theorem s_11 : SndB' T lw_11 ⟨(defScope (inn 20 1)).names, N_11, true⟩ (defBody (inn 20 1)) b_RowBasis_many :=
  (sndB_one' (snd_ret (snd_bltn (fun _ _ _ c => len_ok c) (by kernel_rfl) (by decide +kernel) (by decide +kernel) (by decide) (by kernel_rfl) rfl (sndL_cons rfl (snd_fld (by decide +kernel) (fun _ => rfl) (snd_var (i := 0) (by kernel_rfl) (by kernel_rfl) (by kernel_rfl) (by kernel_rfl))) sndL_nil))))
theorem s_12 : SndB' T lw_12 ⟨(defScope (inn 20 2)).names, N_12, true⟩ (defBody (inn 20 2)) b_RowBasis_led_down :=
  (sndB_cons (snd_asg1 (i := 2) (by kernel_rfl) (by kernel_rfl) rfl (snd_bltn (fun _ _ _ c => len_ok c) (by kernel_rfl) (by decide +kernel) (by decide +kernel) (by decide) (by kernel_rfl) rfl (sndL_cons rfl (snd_var (i := 1) (by kernel_rfl) (by kernel_rfl) (by kernel_rfl) (by kernel_rfl)) sndL_nil)))
  (sndB_cons (snd_asg1 (i := 3) (by kernel_rfl) (by kernel_rfl) rfl (snd_bin (fun _ _ _ c => add_ok c) (snd_bin (fun _ _ _ c => add_ok c) (snd_var (i := 1) (by kernel_rfl) (by kernel_rfl) (by kernel_rfl) (by kernel_rfl)) (snd_bin (fun _ _ _ c => mul_ok c) (snd_lst .val (sndA_cons rfl snd_int sndA_nil)) (snd_met0 (i := 11) (List.mem_of_getElem? (i := 0) rfl) (snd_var (i := 0) (by kernel_rfl) (by kernel_rfl) (by kernel_rfl) (by kernel_rfl)) (fun _ => ⟨_, rfl⟩)))) (snd_lst .val (sndA_cons rfl snd_int sndA_nil))))
  (sndB_cons (snd_for rfl (fun _ _ => rfl) (sndI_seq (snd_fld (by decide +kernel) (fun _ => rfl) (snd_var (i := 0) (by kernel_rfl) (by kernel_rfl) (by kernel_rfl) (by kernel_rfl)))) (sndG_many (is := [4, 5]) (by kernel_rfl)) (sndB_one' (snd_if (sndT_cmp (fun _ _ _ c => ne_ok c) (by kernel_rfl) (snd_ix (fun _ _ => rfl) (snd_var (i := 3) (by kernel_rfl) (by kernel_rfl) (by kernel_rfl) (by kernel_rfl)) (snd_var (i := 4) (by kernel_rfl) (by kernel_rfl) (by kernel_rfl) (by kernel_rfl))) snd_int) (sndB_cons (snd_asg1 (i := 6) (by kernel_rfl) (by kernel_rfl) rfl (snd_bfn (fun _ _ _ c => gcd_ok) (by kernel_rfl) (List.mem_of_getElem? (i := 0) rfl) (by kernel_rfl) rfl (sndL_cons rfl (snd_ix (fun _ _ => rfl) (snd_var (i := 3) (by kernel_rfl) (by kernel_rfl) (by kernel_rfl) (by kernel_rfl)) (snd_var (i := 4) (by kernel_rfl) (by kernel_rfl) (by kernel_rfl) (by kernel_rfl))) (sndL_cons rfl (snd_ix (fun _ _ => rfl) (snd_var (i := 5) (by kernel_rfl) (by kernel_rfl) (by kernel_rfl) (by kernel_rfl)) (snd_var (i := 4) (by kernel_rfl) (by kernel_rfl) (by kernel_rfl) (by kernel_rfl))) sndL_nil))))
  (sndB_cons (snd_parK (by kernel_rfl) (by kernel_rfl) (by decide) (sndL_cons rfl (snd_bin (fun _ _ _ _ => fdv_ok) (snd_ix (fun _ _ => rfl) (snd_var (i := 5) (by kernel_rfl) (by kernel_rfl) (by kernel_rfl) (by kernel_rfl)) (snd_var (i := 4) (by kernel_rfl) (by kernel_rfl) (by kernel_rfl) (by kernel_rfl))) (snd_var (i := 6) (by kernel_rfl) (by kernel_rfl) (by kernel_rfl) (by kernel_rfl))) (sndL_cons rfl (snd_bin (fun _ _ _ _ => fdv_ok) (snd_ix (fun _ _ => rfl) (snd_var (i := 3) (by kernel_rfl) (by kernel_rfl) (by kernel_rfl) (by kernel_rfl)) (snd_var (i := 4) (by kernel_rfl) (by kernel_rfl) (by kernel_rfl) (by kernel_rfl))) (snd_var (i := 6) (by kernel_rfl) (by kernel_rfl) (by kernel_rfl) (by kernel_rfl))) sndL_nil)))
  (sndB_cons (snd_asg1 (i := 5) (by kernel_rfl) (by kernel_rfl) rfl (snd_bin (fun _ _ _ c => add_ok c) (snd_var (i := 5) (by kernel_rfl) (by kernel_rfl) (by kernel_rfl) (by kernel_rfl)) (snd_bin (fun _ _ _ c => mul_ok c) (snd_lst .val (sndA_cons rfl snd_int sndA_nil)) (snd_bin (fun _ _ _ _ => sub_ok) (snd_bltn (fun _ _ _ c => len_ok c) (by kernel_rfl) (by decide +kernel) (by decide +kernel) (by decide) (by kernel_rfl) rfl (sndL_cons rfl (snd_var (i := 3) (by kernel_rfl) (by kernel_rfl) (by kernel_rfl) (by kernel_rfl)) sndL_nil)) (snd_bltn (fun _ _ _ c => len_ok c) (by kernel_rfl) (by decide +kernel) (by decide +kernel) (by decide) (by kernel_rfl) rfl (sndL_cons rfl (snd_var (i := 5) (by kernel_rfl) (by kernel_rfl) (by kernel_rfl) (by kernel_rfl)) sndL_nil))))))
  (sndB_one' (snd_asg1 (i := 3) (by kernel_rfl) (by kernel_rfl) rfl (snd_call (f := 9) (by kernel_rfl) (List.mem_of_getElem? (i := 0) rfl) rfl (by kernel_rfl) (sndA_cons rfl (snd_lc (own := [("a", 9), ("b", 10)]) .val (by decide) (fun _ _ => rfl) (sndI_zipk (by kernel_rfl) (by decide +kernel) rfl rfl (snd_var (i := 3) (by kernel_rfl) (by kernel_rfl) (by kernel_rfl) (by kernel_rfl)) (snd_var (i := 5) (by kernel_rfl) (by kernel_rfl) (by kernel_rfl) (by kernel_rfl))) (by kernel_rfl) (sndG_many (is := [9, 10]) (by kernel_rfl)) sndQ_nil (snd_bin (fun _ _ _ _ => sub_ok) (snd_bin (fun _ _ _ c => mul_ok c) (snd_var (i := 9) (by kernel_rfl) (by kernel_rfl) (by kernel_rfl) (by kernel_rfl)) (snd_var (i := 7) (by kernel_rfl) (by kernel_rfl) (by kernel_rfl) (by kernel_rfl))) (snd_bin (fun _ _ _ c => mul_ok c) (snd_var (i := 10) (by kernel_rfl) (by kernel_rfl) (by kernel_rfl) (by kernel_rfl)) (snd_var (i := 8) (by kernel_rfl) (by kernel_rfl) (by kernel_rfl) (by kernel_rfl))))) sndA_nil))))))) sndB_nil)))
  (sndB_one' (snd_ret (snd_tup (sndA_cons rfl (snd_sl (snd_var (i := 3) (by kernel_rfl) (by kernel_rfl) (by kernel_rfl) (by kernel_rfl)) sndO_none (sndO_some (snd_var (i := 2) (by kernel_rfl) (by kernel_rfl) (by kernel_rfl) (by kernel_rfl)))) (sndA_cons rfl (snd_sl (snd_var (i := 3) (by kernel_rfl) (by kernel_rfl) (by kernel_rfl) (by kernel_rfl)) (sndO_some (snd_var (i := 2) (by kernel_rfl) (by kernel_rfl) (by kernel_rfl) (by kernel_rfl))) sndO_none) sndA_nil))))))))
theorem s_13 : SndB' T lw_13 ⟨(defScope (inn 20 3)).names, N_13, true⟩ (defBody (inn 20 3)) b_RowBasis_factors :=
  (sndB_cons (snd_asgT (sndG_many (is := [2, 3]) (by kernel_rfl)) rfl (fun _ => rfl) (snd_call (f := 8) (by kernel_rfl) (List.mem_of_getElem? (i := 0) rfl) rfl (by kernel_rfl) (sndA_cons rfl (snd_var (i := 1) (by kernel_rfl) (by kernel_rfl) (by kernel_rfl) (by kernel_rfl)) sndA_nil)))
  (sndB_cons (snd_asgT (sndG_many (is := [4, 5]) (by kernel_rfl)) rfl (fun _ => rfl) (snd_met (i := 12) (List.mem_of_getElem? (i := 0) rfl) rfl (snd_var (i := 0) (by kernel_rfl) (by kernel_rfl) (by kernel_rfl) (by kernel_rfl)) (sndA_cons rfl (snd_var (i := 2) (by kernel_rfl) (by kernel_rfl) (by kernel_rfl) (by kernel_rfl)) sndA_nil) (fun _ => ⟨_, rfl⟩)))
  (sndB_cons (snd_if (sndT_val (snd_bltn (fun _ _ _ c => any_ok c) (by kernel_rfl) (by decide +kernel) (by decide +kernel) (by decide) (by kernel_rfl) rfl (sndL_cons rfl (snd_var (i := 4) (by kernel_rfl) (by kernel_rfl) (by kernel_rfl) (by kernel_rfl)) sndL_nil)) rfl) (sndB_one' (snd_ret snd_non)) sndB_nil)
  (sndB_cons (snd_asg1 (i := 6) (by kernel_rfl) (by kernel_rfl) rfl (snd_bin (fun _ _ _ c => mul_ok c) (snd_un (fun _ _ _ _ => neg_ok) (snd_ix (fun _ _ => rfl) (snd_var (i := 5) (by kernel_rfl) (by kernel_rfl) (by kernel_rfl) (by kernel_rfl)) (snd_un (fun _ _ _ _ => neg_ok) snd_int))) (snd_var (i := 3) (by kernel_rfl) (by kernel_rfl) (by kernel_rfl) (by kernel_rfl))))
  (sndB_one' (snd_ret (snd_typ (fun _ _ _ c => tup_ok c) (by kernel_rfl) (by decide +kernel) (by decide +kernel) (by decide) (by kernel_rfl) rfl (sndL_cons rfl (snd_lc (own := [("one", 7), ("late", 8)]) .val (by decide) (fun _ _ => rfl) (sndI_zipk (by kernel_rfl) (by decide +kernel) rfl rfl (snd_sl (snd_var (i := 5) (by kernel_rfl) (by kernel_rfl) (by kernel_rfl) (by kernel_rfl)) sndO_none (sndO_some (snd_un (fun _ _ _ _ => neg_ok) snd_int))) (snd_fld (by decide +kernel) (fun _ => rfl) (snd_var (i := 0) (by kernel_rfl) (by kernel_rfl) (by kernel_rfl) (by kernel_rfl)))) (by kernel_rfl) (sndG_many (is := [7, 8]) (by kernel_rfl)) sndQ_nil (snd_call (f := 1) (by kernel_rfl) (List.mem_of_getElem? (i := 1) rfl) rfl (by kernel_rfl) (sndA_cons rfl (snd_bin (fun _ _ _ c => mul_ok c) (snd_var (i := 7) (by kernel_rfl) (by kernel_rfl) (by kernel_rfl) (by kernel_rfl)) (snd_var (i := 8) (by kernel_rfl) (by kernel_rfl) (by kernel_rfl) (by kernel_rfl))) (sndA_cons rfl (snd_var (i := 6) (by kernel_rfl) (by kernel_rfl) (by kernel_rfl) (by kernel_rfl)) sndA_nil)))) sndL_nil))))))))
theorem s_14 : SndB' T lw_14 ⟨(defScope (inn 20 4)).names, N_14, true⟩ (defBody (inn 20 4)) b_RowBasis_put :=
  (sndB_cons (snd_asgT (sndG_many (is := [2, 3]) (by kernel_rfl)) rfl (fun _ => rfl) (snd_call (f := 8) (by kernel_rfl) (List.mem_of_getElem? (i := 0) rfl) rfl (by kernel_rfl) (sndA_cons rfl (snd_var (i := 1) (by kernel_rfl) (by kernel_rfl) (by kernel_rfl) (by kernel_rfl)) sndA_nil)))
  (sndB_cons (snd_asgT (sndG_many (is := [4, 5]) (by kernel_rfl)) rfl (fun _ => rfl) (snd_met (i := 12) (List.mem_of_getElem? (i := 0) rfl) rfl (snd_var (i := 0) (by kernel_rfl) (by kernel_rfl) (by kernel_rfl) (by kernel_rfl)) (sndA_cons rfl (snd_var (i := 2) (by kernel_rfl) (by kernel_rfl) (by kernel_rfl) (by kernel_rfl)) sndA_nil) (fun _ => ⟨_, rfl⟩)))
  (sndB_cons (snd_if (sndT_not (sndT_val (snd_bltn (fun _ _ _ c => any_ok c) (by kernel_rfl) (by decide +kernel) (by decide +kernel) (by decide) (by kernel_rfl) rfl (sndL_cons rfl (snd_var (i := 4) (by kernel_rfl) (by kernel_rfl) (by kernel_rfl) (by kernel_rfl)) sndL_nil)) rfl)) (sndB_one' (snd_ret snd_bl)) sndB_nil)
  (sndB_cons (snd_asg1 (i := 6) (by kernel_rfl) (by kernel_rfl) rfl (snd_ix (fun _ _ => rfl) (snd_lc (own := [("k", 7), ("number", 8)]) .val (by decide) (fun _ _ => rfl) (sndI_enum (by kernel_rfl) (by decide +kernel) rfl (snd_var (i := 4) (by kernel_rfl) (by kernel_rfl) (by kernel_rfl) (by kernel_rfl))) (by kernel_rfl) (sndG_many (is := [7, 8]) (by kernel_rfl)) (sndQ_one (sndT_cmp (fun _ _ _ c => ne_ok c) (by kernel_rfl) (snd_var (i := 8) (by kernel_rfl) (by kernel_rfl) (by kernel_rfl) (by kernel_rfl)) snd_int)) (snd_var (i := 7) (by kernel_rfl) (by kernel_rfl) (by kernel_rfl) (by kernel_rfl))) snd_int))
  (sndB_cons (snd_exp rfl (snd_append (fun _ => rfl) rfl rfl (snd_fld (by decide +kernel) (fun _ => rfl) (snd_var (i := 0) (by kernel_rfl) (by kernel_rfl) (by kernel_rfl) (by kernel_rfl))) (snd_tup (sndA_cons rfl (snd_var (i := 6) (by kernel_rfl) (by kernel_rfl) (by kernel_rfl) (by kernel_rfl)) (sndA_cons rfl (snd_bin (fun _ _ _ c => add_ok c) (snd_var (i := 4) (by kernel_rfl) (by kernel_rfl) (by kernel_rfl) (by kernel_rfl)) (snd_var (i := 5) (by kernel_rfl) (by kernel_rfl) (by kernel_rfl) (by kernel_rfl))) sndA_nil)))))
  (sndB_cons (snd_exp rfl (snd_append (fun _ => rfl) rfl rfl (snd_fld (by decide +kernel) (fun _ => rfl) (snd_var (i := 0) (by kernel_rfl) (by kernel_rfl) (by kernel_rfl) (by kernel_rfl))) (snd_var (i := 3) (by kernel_rfl) (by kernel_rfl) (by kernel_rfl) (by kernel_rfl))))
  (sndB_one' (snd_ret snd_bl))))))))
theorem s_15 : SndB' T lw_15 ⟨(defScope (top 22)).names, N_15, true⟩ (defBody (top 22)) b_row_sum :=
  (sndB_one' (snd_ret (snd_typ (fun _ _ _ c => tup_ok c) (by kernel_rfl) (by decide +kernel) (by decide +kernel) (by decide) (by kernel_rfl) rfl (sndL_cons rfl (snd_lc (own := [("a", 2), ("b", 3)]) .val (by decide) (fun _ _ => rfl) (sndI_zipk (by kernel_rfl) (by decide +kernel) rfl rfl (snd_var (i := 0) (by kernel_rfl) (by kernel_rfl) (by kernel_rfl) (by kernel_rfl)) (snd_var (i := 1) (by kernel_rfl) (by kernel_rfl) (by kernel_rfl) (by kernel_rfl))) (by kernel_rfl) (sndG_many (is := [2, 3]) (by kernel_rfl)) sndQ_nil (snd_call (f := 3) (by kernel_rfl) (List.mem_of_getElem? (i := 0) rfl) rfl (by kernel_rfl) (sndA_cons rfl (snd_var (i := 2) (by kernel_rfl) (by kernel_rfl) (by kernel_rfl) (by kernel_rfl)) (sndA_cons rfl (snd_var (i := 3) (by kernel_rfl) (by kernel_rfl) (by kernel_rfl) (by kernel_rfl)) sndA_nil)))) sndL_nil))))
theorem s_16 : SndB' T lw_16 ⟨(defScope (top 23)).names, N_16, true⟩ (defBody (top 23)) b_row_scaled :=
  (sndB_one' (snd_ret (snd_typ (fun _ _ _ c => tup_ok c) (by kernel_rfl) (by decide +kernel) (by decide +kernel) (by decide) (by kernel_rfl) rfl (sndL_cons rfl (snd_lc (own := [("number", 2)]) .val (by decide) (fun _ _ => rfl) (sndI_seq (snd_var (i := 0) (by kernel_rfl) (by kernel_rfl) (by kernel_rfl) (by kernel_rfl))) (by kernel_rfl) (sndG_one (i := 2) (by kernel_rfl) (by kernel_rfl)) sndQ_nil (snd_call (f := 5) (by kernel_rfl) (List.mem_of_getElem? (i := 0) rfl) rfl (by kernel_rfl) (sndA_cons rfl (snd_var (i := 2) (by kernel_rfl) (by kernel_rfl) (by kernel_rfl) (by kernel_rfl)) (sndA_cons rfl (snd_var (i := 1) (by kernel_rfl) (by kernel_rfl) (by kernel_rfl) (by kernel_rfl)) sndA_nil)))) sndL_nil))))
theorem s_17 : SndB' T lw_17 ⟨(defScope (top 24)).names, N_17, true⟩ (defBody (top 24)) b_unit_rows :=
  (sndB_one' (snd_ret (snd_typ (fun _ _ _ c => tup_ok c) (by kernel_rfl) (by decide +kernel) (by decide +kernel) (by decide) (by kernel_rfl) rfl (sndL_cons rfl (snd_lc (own := [("place", 1)]) .val (by decide) (fun _ _ => rfl) (sndI_rng1 (by kernel_rfl) (by decide +kernel) rfl (snd_var (i := 0) (by kernel_rfl) (by kernel_rfl) (by kernel_rfl) (by kernel_rfl))) (by kernel_rfl) (sndG_one (i := 1) (by kernel_rfl) (by kernel_rfl)) sndQ_nil (snd_typ (fun _ _ _ c => tup_ok c) (by kernel_rfl) (by decide +kernel) (by decide +kernel) (by decide) (by kernel_rfl) rfl (sndL_cons rfl (snd_lc (own := [("k", 2)]) .val (by decide) (fun _ _ => rfl) (sndI_rng1 (by kernel_rfl) (by decide +kernel) rfl (snd_var (i := 0) (by kernel_rfl) (by kernel_rfl) (by kernel_rfl) (by kernel_rfl))) (by kernel_rfl) (sndG_one (i := 2) (by kernel_rfl) (by kernel_rfl)) sndQ_nil (snd_ite (sndT_cmp (fun _ _ _ c => eq_ok c) (by kernel_rfl) (snd_var (i := 2) (by kernel_rfl) (by kernel_rfl) (by kernel_rfl) (by kernel_rfl)) (snd_var (i := 1) (by kernel_rfl) (by kernel_rfl) (by kernel_rfl) (by kernel_rfl))) (snd_con (by kernel_rfl) (List.mem_of_getElem? (i := 3) rfl) (by kernel_rfl)) (snd_con (by kernel_rfl) (List.mem_of_getElem? (i := 2) rfl) (by kernel_rfl)))) sndL_nil))) sndL_nil))))
theorem s_18 : SndB' T lw_18 ⟨(defScope (top 25)).names, N_18, true⟩ (defBody (top 25)) b_row_led :=
  (sndB_cons (snd_if (sndT_cmp (fun _ _ _ c => eq_ok c) (by kernel_rfl) (snd_var (i := 0) (by kernel_rfl) (by kernel_rfl) (by kernel_rfl) (by kernel_rfl)) (snd_tup sndA_nil)) (sndB_one' (snd_ret (snd_tup sndA_nil))) sndB_nil)
  (sndB_cons (snd_setLc (i := 2) (own := [("late", 7)]) .val (by kernel_rfl) (by kernel_rfl) (by kernel_rfl) (by kernel_rfl) (by decide) (fun _ _ => rfl) (sndI_seq (snd_var (i := 1) (by kernel_rfl) (by kernel_rfl) (by kernel_rfl) (by kernel_rfl))) (by kernel_rfl) (sndG_one (i := 7) (by kernel_rfl) (by kernel_rfl)) sndQ_nil (snd_call (f := 8) (by kernel_rfl) (List.mem_of_getElem? (i := 0) rfl) rfl (by kernel_rfl) (sndA_cons rfl (snd_var (i := 7) (by kernel_rfl) (by kernel_rfl) (by kernel_rfl) (by kernel_rfl)) sndA_nil)) rfl)
  (sndB_cons (snd_asgT (sndG_many (is := [3, 4]) (by kernel_rfl)) rfl (fun _ => rfl) (snd_call (f := 8) (by kernel_rfl) (List.mem_of_getElem? (i := 0) rfl) rfl (by kernel_rfl) (sndA_cons rfl (snd_lc (own := [("one", 8), ("late", 7)]) .val (by decide) (fun _ _ => rfl) (sndI_zipk (by kernel_rfl) (by decide +kernel) rfl rfl (snd_var (i := 0) (by kernel_rfl) (by kernel_rfl) (by kernel_rfl) (by kernel_rfl)) (snd_var (i := 2) (by kernel_rfl) (by kernel_rfl) (by kernel_rfl) (by kernel_rfl))) (by kernel_rfl) (sndG_many (is := [8, 7]) (by kernel_rfl)) sndQ_nil (snd_call (f := 1) (by kernel_rfl) (List.mem_of_getElem? (i := 1) rfl) rfl (by kernel_rfl) (sndA_cons rfl (snd_ix (fun _ _ => rfl) (snd_var (i := 8) (by kernel_rfl) (by kernel_rfl) (by kernel_rfl) (by kernel_rfl)) snd_int) (sndA_cons rfl (snd_bin (fun _ _ _ c => mul_ok c) (snd_ix (fun _ _ => rfl) (snd_var (i := 8) (by kernel_rfl) (by kernel_rfl) (by kernel_rfl) (by kernel_rfl)) snd_int) (snd_ix (fun _ _ => rfl) (snd_var (i := 7) (by kernel_rfl) (by kernel_rfl) (by kernel_rfl) (by kernel_rfl)) snd_int)) sndA_nil)))) sndA_nil)))
  (sndB_cons (snd_asg1 (i := 5) (by kernel_rfl) (by kernel_rfl) rfl (snd_lst .loc sndA_nil))
  (sndB_cons (snd_for rfl (fun _ _ => rfl) (sndI_rng1 (by kernel_rfl) (by decide +kernel) rfl (snd_bltn (fun _ _ _ c => len_ok c) (by kernel_rfl) (by decide +kernel) (by decide +kernel) (by decide) (by kernel_rfl) rfl (sndL_cons rfl (snd_ix (fun _ _ => rfl) (snd_var (i := 1) (by kernel_rfl) (by kernel_rfl) (by kernel_rfl) (by kernel_rfl)) snd_int) sndL_nil))) (sndG_one (i := 6) (by kernel_rfl) (by kernel_rfl)) (sndB_one' (snd_exp rfl (snd_append (fun _ => rfl) rfl rfl (snd_var (i := 5) (by kernel_rfl) (by kernel_rfl) (by kernel_rfl) (by kernel_rfl)) (snd_call (f := 1) (by kernel_rfl) (List.mem_of_getElem? (i := 1) rfl) rfl (by kernel_rfl) (sndA_cons rfl (snd_bltn (fun _ _ _ c => sum_ok c) (by kernel_rfl) (by decide +kernel) (by decide +kernel) (by decide) (by kernel_rfl) rfl (sndL_cons rfl (snd_lc (own := [("by", 9), ("late", 7)]) .val (by decide) (fun _ _ => rfl) (sndI_zipk (by kernel_rfl) (by decide +kernel) rfl rfl (snd_var (i := 3) (by kernel_rfl) (by kernel_rfl) (by kernel_rfl) (by kernel_rfl)) (snd_var (i := 2) (by kernel_rfl) (by kernel_rfl) (by kernel_rfl) (by kernel_rfl))) (by kernel_rfl) (sndG_many (is := [9, 7]) (by kernel_rfl)) sndQ_nil (snd_bin (fun _ _ _ c => mul_ok c) (snd_var (i := 9) (by kernel_rfl) (by kernel_rfl) (by kernel_rfl) (by kernel_rfl)) (snd_ix (fun _ _ => rfl) (snd_ix (fun _ _ => rfl) (snd_var (i := 7) (by kernel_rfl) (by kernel_rfl) (by kernel_rfl) (by kernel_rfl)) snd_int) (snd_var (i := 6) (by kernel_rfl) (by kernel_rfl) (by kernel_rfl) (by kernel_rfl))))) sndL_nil)) (sndA_cons rfl (snd_var (i := 4) (by kernel_rfl) (by kernel_rfl) (by kernel_rfl) (by kernel_rfl)) sndA_nil)))))))
  (sndB_one' (snd_ret (snd_typ (fun _ _ _ c => tup_ok c) (by kernel_rfl) (by decide +kernel) (by decide +kernel) (by decide) (by kernel_rfl) rfl (sndL_cons rfl (snd_var (i := 5) (by kernel_rfl) (by kernel_rfl) (by kernel_rfl) (by kernel_rfl)) sndL_nil)))))))))
theorem s_19 : SndB' T lw_19 ⟨(defScope (top 26)).names, N_19, true⟩ (defBody (top 26)) b_across :=
  (sndB_one' (snd_ret (snd_ite (sndT_cmp (fun _ _ _ c => ne_ok c) (by kernel_rfl) (snd_var (i := 0) (by kernel_rfl) (by kernel_rfl) (by kernel_rfl) (by kernel_rfl)) (snd_tup sndA_nil)) (snd_typ (fun _ _ _ c => tup_ok c) (by kernel_rfl) (by decide +kernel) (by decide +kernel) (by decide) (by kernel_rfl) rfl (sndL_cons rfl (snd_lc (own := [("k", 1)]) .val (by decide) (fun _ _ => rfl) (sndI_rng1 (by kernel_rfl) (by decide +kernel) rfl (snd_bltn (fun _ _ _ c => len_ok c) (by kernel_rfl) (by decide +kernel) (by decide +kernel) (by decide) (by kernel_rfl) rfl (sndL_cons rfl (snd_ix (fun _ _ => rfl) (snd_var (i := 0) (by kernel_rfl) (by kernel_rfl) (by kernel_rfl) (by kernel_rfl)) snd_int) sndL_nil))) (by kernel_rfl) (sndG_one (i := 1) (by kernel_rfl) (by kernel_rfl)) sndQ_nil (snd_typ (fun _ _ _ c => tup_ok c) (by kernel_rfl) (by decide +kernel) (by decide +kernel) (by decide) (by kernel_rfl) rfl (sndL_cons rfl (snd_lc (own := [("row", 2)]) .val (by decide) (fun _ _ => rfl) (sndI_seq (snd_var (i := 0) (by kernel_rfl) (by kernel_rfl) (by kernel_rfl) (by kernel_rfl))) (by kernel_rfl) (sndG_one (i := 2) (by kernel_rfl) (by kernel_rfl)) sndQ_nil (snd_ix (fun _ _ => rfl) (snd_var (i := 2) (by kernel_rfl) (by kernel_rfl) (by kernel_rfl) (by kernel_rfl)) (snd_var (i := 1) (by kernel_rfl) (by kernel_rfl) (by kernel_rfl) (by kernel_rfl)))) sndL_nil))) sndL_nil)) (snd_tup sndA_nil))))
theorem s_20 : SndB' T lw_20 ⟨(defScope (top 27)).names, N_20, true⟩ (defBody (top 27)) b_column_led :=
  (sndB_one' (snd_ret (snd_call (f := 18) (by kernel_rfl) (List.mem_of_getElem? (i := 0) rfl) rfl (by kernel_rfl) (sndA_cons rfl (snd_var (i := 1) (by kernel_rfl) (by kernel_rfl) (by kernel_rfl) (by kernel_rfl)) (sndA_cons rfl (snd_call (f := 19) (by kernel_rfl) (List.mem_of_getElem? (i := 1) rfl) rfl (by kernel_rfl) (sndA_cons rfl (snd_var (i := 0) (by kernel_rfl) (by kernel_rfl) (by kernel_rfl) (by kernel_rfl)) sndA_nil)) sndA_nil)))))
theorem s_21 : SndB' T lw_21 ⟨(defScope (top 28)).names, N_21, true⟩ (defBody (top 28)) b_tables_led :=
  (sndB_one' (snd_ret (snd_typ (fun _ _ _ c => tup_ok c) (by kernel_rfl) (by decide +kernel) (by decide +kernel) (by decide) (by kernel_rfl) rfl (sndL_cons rfl (snd_lc (own := [("row", 2)]) .val (by decide) (fun _ _ => rfl) (sndI_seq (snd_var (i := 0) (by kernel_rfl) (by kernel_rfl) (by kernel_rfl) (by kernel_rfl))) (by kernel_rfl) (sndG_one (i := 2) (by kernel_rfl) (by kernel_rfl)) sndQ_nil (snd_call (f := 18) (by kernel_rfl) (List.mem_of_getElem? (i := 0) rfl) rfl (by kernel_rfl) (sndA_cons rfl (snd_var (i := 2) (by kernel_rfl) (by kernel_rfl) (by kernel_rfl) (by kernel_rfl)) (sndA_cons rfl (snd_var (i := 1) (by kernel_rfl) (by kernel_rfl) (by kernel_rfl) (by kernel_rfl)) sndA_nil)))) sndL_nil))))
theorem s_22 : SndB' T lw_22 ⟨(defScope (top 29)).names, N_22, true⟩ (defBody (top 29)) b_one_solution :=
  (sndB_cons (snd_asg1 (i := 2) (by kernel_rfl) (by kernel_rfl) rfl (snd_mak0 (i := 10) (by kernel_rfl) (List.mem_of_getElem? (i := 0) rfl) (by kernel_rfl)))
  (sndB_cons (snd_for rfl (fun _ _ => rfl) (sndI_seq (snd_call (f := 19) (by kernel_rfl) (List.mem_of_getElem? (i := 0) rfl) rfl (by kernel_rfl) (sndA_cons rfl (snd_var (i := 0) (by kernel_rfl) (by kernel_rfl) (by kernel_rfl) (by kernel_rfl)) sndA_nil))) (sndG_one (i := 3) (by kernel_rfl) (by kernel_rfl)) (sndB_one' (snd_if (sndT_not (sndT_val (snd_met (i := 14) (List.mem_of_getElem? (i := 0) rfl) rfl (snd_var (i := 2) (by kernel_rfl) (by kernel_rfl) (by kernel_rfl) (by kernel_rfl)) (sndA_cons rfl (snd_var (i := 3) (by kernel_rfl) (by kernel_rfl) (by kernel_rfl) (by kernel_rfl)) sndA_nil) (fun _ => ⟨_, rfl⟩)) rfl)) (sndB_one' (snd_ret snd_non)) sndB_nil)))
  (sndB_one' (snd_ret (snd_met (i := 13) (List.mem_of_getElem? (i := 1) rfl) rfl (snd_var (i := 2) (by kernel_rfl) (by kernel_rfl) (by kernel_rfl) (by kernel_rfl)) (sndA_cons rfl (snd_var (i := 1) (by kernel_rfl) (by kernel_rfl) (by kernel_rfl) (by kernel_rfl)) sndA_nil) (fun _ => ⟨_, rfl⟩))))))
theorem s_23 : SndB' T lw_23 ⟨(defScope (top 31)).names, N_23, true⟩ (defBody (top 31)) b__law_source :=
  (sndB_cons (snd_asg1 (i := 1) (by kernel_rfl) (by kernel_rfl) rfl snd_int)
  (sndB_cons (snd_for rfl (fun _ _ => rfl) (sndI_seq (snd_var (i := 0) (by kernel_rfl) (by kernel_rfl) (by kernel_rfl) (by kernel_rfl))) (sndG_one (i := 2) (by kernel_rfl) (by kernel_rfl)) (sndB_one' (snd_asg1 (i := 1) (by kernel_rfl) (by kernel_rfl) rfl (snd_bin (fun _ _ _ _ => mod_ok) (snd_typ (fun _ _ _ c => int_ok) (by kernel_rfl) (by decide +kernel) (by decide +kernel) (by decide) (by kernel_rfl) rfl (sndL_cons rfl (snd_bin (fun _ _ _ c => add_ok c) (snd_bin (fun _ _ _ c => add_ok c) (snd_bin (fun _ _ _ c => mul_ok c) (snd_var (i := 1) (by kernel_rfl) (by kernel_rfl) (by kernel_rfl) (by kernel_rfl)) snd_int) (snd_bin (fun _ _ _ c => mul_ok c) (snd_var (i := 2) (by kernel_rfl) (by kernel_rfl) (by kernel_rfl) (by kernel_rfl)) snd_int)) snd_int) sndL_nil)) snd_int))))
  (sndB_one' (snd_ret (snd_dct .glb (sndD_cons rfl (snd_revM .glb (snd_lc (own := [("cell", 2)]) .val (by decide) (fun _ _ => rfl) (sndI_seq (snd_var (i := 0) (by kernel_rfl) (by kernel_rfl) (by kernel_rfl) (by kernel_rfl))) (by kernel_rfl) (sndG_one (i := 2) (by kernel_rfl) (by kernel_rfl)) sndQ_nil (snd_bltn (fun _ _ _ c => abs_ok) (by kernel_rfl) (by decide +kernel) (by decide +kernel) (by decide) (by kernel_rfl) rfl (sndL_cons rfl (snd_var (i := 2) (by kernel_rfl) (by kernel_rfl) (by kernel_rfl) (by kernel_rfl)) sndL_nil)))) (sndD_cons rfl snd_int (sndD_cons rfl (snd_var (i := 1) (by kernel_rfl) (by kernel_rfl) (by kernel_rfl) (by kernel_rfl)) (sndD_cons rfl snd_int sndD_nil)))) rfl rfl (by simp) (by decide) rfl (by decide) (by decide +kernel))))))
theorem s_24 : SndB' T lw_24 ⟨(defScope (top 32)).names, N_24, true⟩ (defBody (top 32)) b__law_pick :=
  (sndB_cons (snd_while rfl (sndT_boolop (sndBT_and (sndT_cmp (fun _ _ _ _ => gt_ok) (by kernel_rfl) (snd_var (i := 1) (by kernel_rfl) (by kernel_rfl) (by kernel_rfl) (by kernel_rfl)) snd_int) (sndBT_and (sndT_cmp (fun _ _ _ _ => lt_ok) (by kernel_rfl) (snd_ix (fun _ _ => rfl) (snd_var (i := 0) (by kernel_rfl) (by kernel_rfl) (by kernel_rfl) (by kernel_rfl)) snd_str) snd_int) (sndBT_and1 (sndT_cmp (fun _ _ _ _ => gt_ok) (by kernel_rfl) (snd_bltn (fun _ _ _ c => len_ok c) (by kernel_rfl) (by decide +kernel) (by decide +kernel) (by decide) (by kernel_rfl) rfl (sndL_cons rfl (snd_ix (fun _ _ => rfl) (snd_var (i := 0) (by kernel_rfl) (by kernel_rfl) (by kernel_rfl) (by kernel_rfl)) snd_str) sndL_nil)) snd_int))))) (sndB_one' (snd_setIx rfl (fun _ _ => rfl) (snd_var (i := 0) (by kernel_rfl) (by kernel_rfl) (by kernel_rfl) (by kernel_rfl)) snd_str (snd_pop (fun _ => rfl) rfl (snd_ix (fun _ _ => rfl) (snd_var (i := 0) (by kernel_rfl) (by kernel_rfl) (by kernel_rfl) (by kernel_rfl)) snd_str)))))
  (sndB_cons (snd_asg1 (i := 2) (by kernel_rfl) (by kernel_rfl) rfl (snd_ix (fun _ _ => rfl) (snd_var (i := 0) (by kernel_rfl) (by kernel_rfl) (by kernel_rfl) (by kernel_rfl)) snd_str))
  (sndB_cons (snd_if (sndT_boolop (sndBT_or (sndT_cmp (fun _ _ _ _ => lt_ok) (by kernel_rfl) (snd_var (i := 1) (by kernel_rfl) (by kernel_rfl) (by kernel_rfl) (by kernel_rfl)) snd_int) (sndBT_or1 (sndT_cmp (fun _ _ _ _ => gt_ok) (by kernel_rfl) (snd_var (i := 2) (by kernel_rfl) (by kernel_rfl) (by kernel_rfl) (by kernel_rfl)) snd_int)))) (sndB_cons (snd_setIx rfl (fun _ _ => rfl) (snd_var (i := 0) (by kernel_rfl) (by kernel_rfl) (by kernel_rfl) (by kernel_rfl)) snd_str (snd_bin (fun _ _ _ _ => fdv_ok) (snd_var (i := 2) (by kernel_rfl) (by kernel_rfl) (by kernel_rfl) (by kernel_rfl)) (snd_bltn (fun _ _ _ c => max_ok c) (by kernel_rfl) (by decide +kernel) (by decide +kernel) (by decide) (by kernel_rfl) rfl (sndL_cons rfl snd_int (sndL_cons rfl (snd_var (i := 1) (by kernel_rfl) (by kernel_rfl) (by kernel_rfl) (by kernel_rfl)) sndL_nil)))))
  (sndB_one' (snd_ret (snd_bin (fun _ _ _ _ => mod_ok) (snd_typ (fun _ _ _ c => int_ok) (by kernel_rfl) (by decide +kernel) (by decide +kernel) (by decide) (by kernel_rfl) rfl (sndL_cons rfl (snd_var (i := 2) (by kernel_rfl) (by kernel_rfl) (by kernel_rfl) (by kernel_rfl)) sndL_nil)) (snd_bltn (fun _ _ _ c => max_ok c) (by kernel_rfl) (by decide +kernel) (by decide +kernel) (by decide) (by kernel_rfl) rfl (sndL_cons rfl snd_int (sndL_cons rfl (snd_var (i := 1) (by kernel_rfl) (by kernel_rfl) (by kernel_rfl) (by kernel_rfl)) sndL_nil))))))) sndB_nil)
  (sndB_cons (snd_setIx rfl (fun _ _ => rfl) (snd_var (i := 0) (by kernel_rfl) (by kernel_rfl) (by kernel_rfl) (by kernel_rfl)) snd_str (snd_bin (fun _ _ _ c => add_ok c) (snd_ix (fun _ _ => rfl) (snd_var (i := 0) (by kernel_rfl) (by kernel_rfl) (by kernel_rfl) (by kernel_rfl)) snd_str) snd_int))
  (sndB_cons (snd_asg1 (i := 3) (by kernel_rfl) (by kernel_rfl) rfl (snd_bin (fun _ _ _ _ => mod_ok) (snd_typ (fun _ _ _ c => int_ok) (by kernel_rfl) (by decide +kernel) (by decide +kernel) (by decide) (by kernel_rfl) rfl (sndL_cons rfl (snd_bin (fun _ _ _ c => add_ok c) (snd_ix (fun _ _ => rfl) (snd_var (i := 0) (by kernel_rfl) (by kernel_rfl) (by kernel_rfl) (by kernel_rfl)) snd_str) (snd_bin (fun _ _ _ c => mul_ok c) (snd_ix (fun _ _ => rfl) (snd_var (i := 0) (by kernel_rfl) (by kernel_rfl) (by kernel_rfl) (by kernel_rfl)) snd_str) snd_int)) sndL_nil)) snd_int))
  (sndB_cons (snd_asg1 (i := 3) (by kernel_rfl) (by kernel_rfl) rfl (snd_bin (fun _ _ _ _ => mod_ok) (snd_typ (fun _ _ _ c => int_ok) (by kernel_rfl) (by decide +kernel) (by decide +kernel) (by decide) (by kernel_rfl) rfl (sndL_cons rfl (snd_bin (fun _ _ _ c => add_ok c) (snd_bin (fun _ _ _ c => mul_ok c) (snd_var (i := 3) (by kernel_rfl) (by kernel_rfl) (by kernel_rfl) (by kernel_rfl)) (snd_var (i := 3) (by kernel_rfl) (by kernel_rfl) (by kernel_rfl) (by kernel_rfl))) (snd_bin (fun _ _ _ c => mul_ok c) (snd_ix (fun _ _ => rfl) (snd_var (i := 0) (by kernel_rfl) (by kernel_rfl) (by kernel_rfl) (by kernel_rfl)) snd_str) snd_int)) sndL_nil)) snd_int))
  (sndB_cons (snd_setIx rfl (fun _ _ => rfl) (snd_var (i := 0) (by kernel_rfl) (by kernel_rfl) (by kernel_rfl) (by kernel_rfl)) snd_str (snd_var (i := 3) (by kernel_rfl) (by kernel_rfl) (by kernel_rfl) (by kernel_rfl)))
  (sndB_one' (snd_ret (snd_bin (fun _ _ _ _ => mod_ok) (snd_typ (fun _ _ _ c => int_ok) (by kernel_rfl) (by decide +kernel) (by decide +kernel) (by decide) (by kernel_rfl) rfl (sndL_cons rfl (snd_bin (fun _ _ _ _ => fdv_ok) (snd_var (i := 3) (by kernel_rfl) (by kernel_rfl) (by kernel_rfl) (by kernel_rfl)) snd_int) sndL_nil)) (snd_var (i := 1) (by kernel_rfl) (by kernel_rfl) (by kernel_rfl) (by kernel_rfl))))))))))))
theorem s_25 : SndB' T lw_25 ⟨(defScope (top 33)).names, N_25, true⟩ (defBody (top 33)) b__law_of :=
  (sndB_one' (snd_ret (snd_ix (fun _ _ => rfl) (snd_var (i := 1) (by kernel_rfl) (by kernel_rfl) (by kernel_rfl) (by kernel_rfl)) (snd_call (f := 24) (by kernel_rfl) (List.mem_of_getElem? (i := 0) rfl) rfl (by kernel_rfl) (sndA_cons rfl (snd_var (i := 0) (by kernel_rfl) (by kernel_rfl) (by kernel_rfl) (by kernel_rfl)) (sndA_cons rfl (snd_bltn (fun _ _ _ c => len_ok c) (by kernel_rfl) (by decide +kernel) (by decide +kernel) (by decide) (by kernel_rfl) rfl (sndL_cons rfl (snd_var (i := 1) (by kernel_rfl) (by kernel_rfl) (by kernel_rfl) (by kernel_rfl)) sndL_nil)) sndA_nil))))))
theorem s_26 : SndB' T lw_26 ⟨(defScope (top 34)).names, N_26, true⟩ (defBody (top 34)) b__law_part :=
  (sndB_cons (snd_par2 (i := 0) (j := 2) rfl (by kernel_rfl) (by kernel_rfl) (by decide) (by kernel_rfl) (by kernel_rfl) rfl (by kernel_rfl) (by kernel_rfl) rfl rfl (sndL_cons rfl (snd_bltn (fun _ _ _ c => abs_ok) (by kernel_rfl) (by decide +kernel) (by decide +kernel) (by decide) (by kernel_rfl) rfl (sndL_cons rfl (snd_var (i := 0) (by kernel_rfl) (by kernel_rfl) (by kernel_rfl) (by kernel_rfl)) sndL_nil)) (sndL_cons rfl (snd_bltn (fun _ _ _ c => abs_ok) (by kernel_rfl) (by decide +kernel) (by decide +kernel) (by decide) (by kernel_rfl) rfl (sndL_cons rfl (snd_var (i := 1) (by kernel_rfl) (by kernel_rfl) (by kernel_rfl) (by kernel_rfl)) sndL_nil)) sndL_nil)))
  (sndB_cons (snd_while rfl (sndT_cmp (fun _ _ _ _ => gt_ok) (by kernel_rfl) (snd_var (i := 2) (by kernel_rfl) (by kernel_rfl) (by kernel_rfl) (by kernel_rfl)) snd_int) (sndB_one' (snd_par2 (i := 0) (j := 2) rfl (by kernel_rfl) (by kernel_rfl) (by decide) (by kernel_rfl) (by kernel_rfl) rfl (by kernel_rfl) (by kernel_rfl) rfl rfl (sndL_cons rfl (snd_var (i := 2) (by kernel_rfl) (by kernel_rfl) (by kernel_rfl) (by kernel_rfl)) (sndL_cons rfl (snd_bin (fun _ _ _ _ => mod_ok) (snd_typ (fun _ _ _ c => int_ok) (by kernel_rfl) (by decide +kernel) (by decide +kernel) (by decide) (by kernel_rfl) rfl (sndL_cons rfl (snd_var (i := 0) (by kernel_rfl) (by kernel_rfl) (by kernel_rfl) (by kernel_rfl)) sndL_nil)) (snd_var (i := 2) (by kernel_rfl) (by kernel_rfl) (by kernel_rfl) (by kernel_rfl))) sndL_nil)))))
  (sndB_one' (snd_ret (snd_var (i := 0) (by kernel_rfl) (by kernel_rfl) (by kernel_rfl) (by kernel_rfl))))))
theorem s_27 : SndB' T lw_27 ⟨(defScope (top 35)).names, N_27, true⟩ (defBody (top 35)) b__law_num :=
  (sndB_cons (snd_asg1 (i := 2) (by kernel_rfl) (by kernel_rfl) rfl (snd_ite (sndT_cmp (fun _ _ _ _ => gt_ok) (by kernel_rfl) (snd_var (i := 1) (by kernel_rfl) (by kernel_rfl) (by kernel_rfl) (by kernel_rfl)) snd_int) (snd_call (f := 26) (by kernel_rfl) (List.mem_of_getElem? (i := 0) rfl) rfl (by kernel_rfl) (sndA_cons rfl (snd_var (i := 0) (by kernel_rfl) (by kernel_rfl) (by kernel_rfl) (by kernel_rfl)) (sndA_cons rfl (snd_var (i := 1) (by kernel_rfl) (by kernel_rfl) (by kernel_rfl) (by kernel_rfl)) sndA_nil))) (snd_bin (fun _ _ _ _ => sub_ok) snd_int (snd_call (f := 26) (by kernel_rfl) (List.mem_of_getElem? (i := 0) rfl) rfl (by kernel_rfl) (sndA_cons rfl (snd_var (i := 0) (by kernel_rfl) (by kernel_rfl) (by kernel_rfl) (by kernel_rfl)) (sndA_cons rfl (snd_var (i := 1) (by kernel_rfl) (by kernel_rfl) (by kernel_rfl) (by kernel_rfl)) sndA_nil))))))
  (sndB_one' (snd_ret (snd_tup (sndA_cons rfl (snd_bin (fun _ _ _ _ => fdv_ok) (snd_var (i := 0) (by kernel_rfl) (by kernel_rfl) (by kernel_rfl) (by kernel_rfl)) (snd_var (i := 2) (by kernel_rfl) (by kernel_rfl) (by kernel_rfl) (by kernel_rfl))) (sndA_cons rfl (snd_bin (fun _ _ _ _ => fdv_ok) (snd_var (i := 1) (by kernel_rfl) (by kernel_rfl) (by kernel_rfl) (by kernel_rfl)) (snd_var (i := 2) (by kernel_rfl) (by kernel_rfl) (by kernel_rfl) (by kernel_rfl))) sndA_nil))))))
theorem s_28 : SndB' T lw_28 ⟨(defScope (top 36)).names, N_28, true⟩ (defBody (top 36)) b__law_add :=
  (sndB_one' (snd_ret (snd_call (f := 27) (by kernel_rfl) (List.mem_of_getElem? (i := 0) rfl) rfl (by kernel_rfl) (sndA_cons rfl (snd_bin (fun _ _ _ c => add_ok c) (snd_bin (fun _ _ _ c => mul_ok c) (snd_ix (fun _ _ => rfl) (snd_var (i := 0) (by kernel_rfl) (by kernel_rfl) (by kernel_rfl) (by kernel_rfl)) snd_int) (snd_ix (fun _ _ => rfl) (snd_var (i := 1) (by kernel_rfl) (by kernel_rfl) (by kernel_rfl) (by kernel_rfl)) snd_int)) (snd_bin (fun _ _ _ c => mul_ok c) (snd_ix (fun _ _ => rfl) (snd_var (i := 1) (by kernel_rfl) (by kernel_rfl) (by kernel_rfl) (by kernel_rfl)) snd_int) (snd_ix (fun _ _ => rfl) (snd_var (i := 0) (by kernel_rfl) (by kernel_rfl) (by kernel_rfl) (by kernel_rfl)) snd_int))) (sndA_cons rfl (snd_bin (fun _ _ _ c => mul_ok c) (snd_ix (fun _ _ => rfl) (snd_var (i := 0) (by kernel_rfl) (by kernel_rfl) (by kernel_rfl) (by kernel_rfl)) snd_int) (snd_ix (fun _ _ => rfl) (snd_var (i := 1) (by kernel_rfl) (by kernel_rfl) (by kernel_rfl) (by kernel_rfl)) snd_int)) sndA_nil)))))
theorem s_29 : SndB' T lw_29 ⟨(defScope (top 37)).names, N_29, true⟩ (defBody (top 37)) b__law_mul :=
  (sndB_one' (snd_ret (snd_call (f := 27) (by kernel_rfl) (List.mem_of_getElem? (i := 0) rfl) rfl (by kernel_rfl) (sndA_cons rfl (snd_bin (fun _ _ _ c => mul_ok c) (snd_ix (fun _ _ => rfl) (snd_var (i := 0) (by kernel_rfl) (by kernel_rfl) (by kernel_rfl) (by kernel_rfl)) snd_int) (snd_ix (fun _ _ => rfl) (snd_var (i := 1) (by kernel_rfl) (by kernel_rfl) (by kernel_rfl) (by kernel_rfl)) snd_int)) (sndA_cons rfl (snd_bin (fun _ _ _ c => mul_ok c) (snd_ix (fun _ _ => rfl) (snd_var (i := 0) (by kernel_rfl) (by kernel_rfl) (by kernel_rfl) (by kernel_rfl)) snd_int) (snd_ix (fun _ _ => rfl) (snd_var (i := 1) (by kernel_rfl) (by kernel_rfl) (by kernel_rfl) (by kernel_rfl)) snd_int)) sndA_nil)))))
theorem s_30 : SndB' T lw_30 ⟨(defScope (top 38)).names, N_30, true⟩ (defBody (top 38)) b__law_drawn :=
  (sndB_cons (snd_asg1 (i := 1) (by kernel_rfl) (by kernel_rfl) rfl (snd_bin (fun _ _ _ _ => sub_ok) (snd_call (f := 24) (by kernel_rfl) (List.mem_of_getElem? (i := 0) rfl) rfl (by kernel_rfl) (sndA_cons rfl (snd_var (i := 0) (by kernel_rfl) (by kernel_rfl) (by kernel_rfl) (by kernel_rfl)) (sndA_cons rfl snd_int sndA_nil))) snd_int))
  (sndB_cons (snd_if (sndT_cmp (fun _ _ _ c => eq_ok c) (by kernel_rfl) (snd_call (f := 24) (by kernel_rfl) (List.mem_of_getElem? (i := 0) rfl) rfl (by kernel_rfl) (sndA_cons rfl (snd_var (i := 0) (by kernel_rfl) (by kernel_rfl) (by kernel_rfl) (by kernel_rfl)) (sndA_cons rfl snd_int sndA_nil))) snd_int) (sndB_one' (snd_asg1 (i := 1) (by kernel_rfl) (by kernel_rfl) rfl (snd_bin (fun _ _ _ c => add_ok c) (snd_bin (fun _ _ _ c => mul_ok c) (snd_var (i := 1) (by kernel_rfl) (by kernel_rfl) (by kernel_rfl) (by kernel_rfl)) (snd_bin (fun _ _ _ _ => pow_ok) snd_int snd_int)) (snd_call (f := 24) (by kernel_rfl) (List.mem_of_getElem? (i := 0) rfl) rfl (by kernel_rfl) (sndA_cons rfl (snd_var (i := 0) (by kernel_rfl) (by kernel_rfl) (by kernel_rfl) (by kernel_rfl)) (sndA_cons rfl snd_int sndA_nil)))))) sndB_nil)
  (sndB_one' (snd_ret (snd_call (f := 27) (by kernel_rfl) (List.mem_of_getElem? (i := 1) rfl) rfl (by kernel_rfl) (sndA_cons rfl (snd_var (i := 1) (by kernel_rfl) (by kernel_rfl) (by kernel_rfl) (by kernel_rfl)) (sndA_cons rfl (snd_bin (fun _ _ _ c => add_ok c) snd_int (snd_call (f := 24) (by kernel_rfl) (List.mem_of_getElem? (i := 0) rfl) rfl (by kernel_rfl) (sndA_cons rfl (snd_var (i := 0) (by kernel_rfl) (by kernel_rfl) (by kernel_rfl) (by kernel_rfl)) (sndA_cons rfl snd_int sndA_nil)))) sndA_nil)))))))
theorem s_31 : SndB' T lw_31 ⟨(defScope (top 39)).names, N_31, true⟩ (defBody (top 39)) b__law_is :=
  (sndB_cons (snd_if (sndT_boolop (sndBT_or (sndT_cmp (fun _ _ _ _ => le_ok) (by kernel_rfl) (snd_ix (fun _ _ => rfl) (snd_var (i := 0) (by kernel_rfl) (by kernel_rfl) (by kernel_rfl) (by kernel_rfl)) snd_int) snd_int) (sndBT_or1 (sndT_cmp (fun _ _ _ c => ne_ok c) (by kernel_rfl) (snd_call (f := 26) (by kernel_rfl) (List.mem_of_getElem? (i := 0) rfl) rfl (by kernel_rfl) (sndA_cons rfl (snd_ix (fun _ _ => rfl) (snd_var (i := 0) (by kernel_rfl) (by kernel_rfl) (by kernel_rfl) (by kernel_rfl)) snd_int) (sndA_cons rfl (snd_ix (fun _ _ => rfl) (snd_var (i := 0) (by kernel_rfl) (by kernel_rfl) (by kernel_rfl) (by kernel_rfl)) snd_int) sndA_nil))) snd_int)))) (sndB_one' (snd_ret snd_bl)) sndB_nil)
  (sndB_one' (snd_ret (snd_cmp (fun _ _ _ c => eq_ok c) (by kernel_rfl) (snd_bin (fun _ _ _ c => mul_ok c) (snd_ix (fun _ _ => rfl) (snd_var (i := 0) (by kernel_rfl) (by kernel_rfl) (by kernel_rfl) (by kernel_rfl)) snd_int) (snd_var (i := 2) (by kernel_rfl) (by kernel_rfl) (by kernel_rfl) (by kernel_rfl))) (snd_bin (fun _ _ _ c => mul_ok c) (snd_var (i := 1) (by kernel_rfl) (by kernel_rfl) (by kernel_rfl) (by kernel_rfl)) (snd_ix (fun _ _ => rfl) (snd_var (i := 0) (by kernel_rfl) (by kernel_rfl) (by kernel_rfl) (by kernel_rfl)) snd_int))))))
theorem s_32 : SndB' T lw_32 ⟨(defScope (top 40)).names, N_32, true⟩ (defBody (top 40)) b__law_sum :=
  (sndB_cons (snd_asg1 (i := 1) (by kernel_rfl) (by kernel_rfl) rfl (snd_tup (sndA_cons rfl snd_int (sndA_cons rfl snd_int sndA_nil))))
  (sndB_cons (snd_for rfl (fun _ _ => rfl) (sndI_seq (snd_var (i := 0) (by kernel_rfl) (by kernel_rfl) (by kernel_rfl) (by kernel_rfl))) (sndG_one (i := 2) (by kernel_rfl) (by kernel_rfl)) (sndB_one' (snd_asg1 (i := 1) (by kernel_rfl) (by kernel_rfl) rfl (snd_call (f := 28) (by kernel_rfl) (List.mem_of_getElem? (i := 0) rfl) rfl (by kernel_rfl) (sndA_cons rfl (snd_var (i := 1) (by kernel_rfl) (by kernel_rfl) (by kernel_rfl) (by kernel_rfl)) (sndA_cons rfl (snd_var (i := 2) (by kernel_rfl) (by kernel_rfl) (by kernel_rfl) (by kernel_rfl)) sndA_nil))))))
  (sndB_one' (snd_ret (snd_var (i := 1) (by kernel_rfl) (by kernel_rfl) (by kernel_rfl) (by kernel_rfl))))))
theorem s_33 : SndB' T lw_33 ⟨(defScope (top 41)).names, N_33, true⟩ (defBody (top 41)) b__law_led :=
  (sndB_one' (snd_ret (snd_typ (fun _ _ _ c => tup_ok c) (by kernel_rfl) (by decide +kernel) (by decide +kernel) (by decide) (by kernel_rfl) rfl (sndL_cons rfl (snd_lc (own := [("k", 2)]) .val (by decide) (fun _ _ => rfl) (sndI_rng1 (by kernel_rfl) (by decide +kernel) rfl (snd_bltn (fun _ _ _ c => len_ok c) (by kernel_rfl) (by decide +kernel) (by decide +kernel) (by decide) (by kernel_rfl) rfl (sndL_cons rfl (snd_ix (fun _ _ => rfl) (snd_var (i := 1) (by kernel_rfl) (by kernel_rfl) (by kernel_rfl) (by kernel_rfl)) snd_int) sndL_nil))) (by kernel_rfl) (sndG_one (i := 2) (by kernel_rfl) (by kernel_rfl)) sndQ_nil (snd_call (f := 32) (by kernel_rfl) (List.mem_of_getElem? (i := 0) rfl) rfl (by kernel_rfl) (sndA_cons rfl (snd_lc (own := [("a", 3), ("line", 4)]) .val (by decide) (fun _ _ => rfl) (sndI_zip (by kernel_rfl) (by decide +kernel) rfl rfl (snd_var (i := 0) (by kernel_rfl) (by kernel_rfl) (by kernel_rfl) (by kernel_rfl)) (snd_var (i := 1) (by kernel_rfl) (by kernel_rfl) (by kernel_rfl) (by kernel_rfl))) (by kernel_rfl) (sndG_many (is := [3, 4]) (by kernel_rfl)) sndQ_nil (snd_call (f := 29) (by kernel_rfl) (List.mem_of_getElem? (i := 1) rfl) rfl (by kernel_rfl) (sndA_cons rfl (snd_var (i := 3) (by kernel_rfl) (by kernel_rfl) (by kernel_rfl) (by kernel_rfl)) (sndA_cons rfl (snd_ix (fun _ _ => rfl) (snd_var (i := 4) (by kernel_rfl) (by kernel_rfl) (by kernel_rfl) (by kernel_rfl)) (snd_var (i := 2) (by kernel_rfl) (by kernel_rfl) (by kernel_rfl) (by kernel_rfl))) sndA_nil)))) sndA_nil))) sndL_nil))))
theorem s_34 : SndB' T lw_34 ⟨(defScope (top 42)).names, N_34, true⟩ (defBody (top 42)) b__law_figures_right :=
  (sndB_cons (snd_par2 (i := 1) (j := 2) rfl (by kernel_rfl) (by kernel_rfl) (by decide) (by kernel_rfl) (by kernel_rfl) rfl (by kernel_rfl) (by kernel_rfl) rfl rfl (sndL_cons rfl (snd_bin (fun _ _ _ c => add_ok c) snd_int (snd_call (f := 24) (by kernel_rfl) (List.mem_of_getElem? (i := 0) rfl) rfl (by kernel_rfl) (sndA_cons rfl (snd_var (i := 0) (by kernel_rfl) (by kernel_rfl) (by kernel_rfl) (by kernel_rfl)) (sndA_cons rfl snd_int sndA_nil)))) (sndL_cons rfl (snd_cmp (fun _ _ _ c => eq_ok c) (by kernel_rfl) (snd_call (f := 24) (by kernel_rfl) (List.mem_of_getElem? (i := 0) rfl) rfl (by kernel_rfl) (sndA_cons rfl (snd_var (i := 0) (by kernel_rfl) (by kernel_rfl) (by kernel_rfl) (by kernel_rfl)) (sndA_cons rfl snd_int sndA_nil))) snd_int) sndL_nil)))
  (sndB_cons (snd_asg1 (i := 3) (by kernel_rfl) (by kernel_rfl) rfl (snd_typ (fun _ _ _ c => int_ok) (by kernel_rfl) (by decide +kernel) (by decide +kernel) (by decide) (by kernel_rfl) rfl (sndL_cons rfl (snd_bin (fun _ _ _ c => add_ok c) snd_str (snd_bin (fun _ _ _ c => mul_ok c) snd_str (snd_bin (fun _ _ _ _ => sub_ok) (snd_var (i := 1) (by kernel_rfl) (by kernel_rfl) (by kernel_rfl) (by kernel_rfl)) snd_int))) sndL_nil)))
  (sndB_cons (snd_asg1 (i := 4) (by kernel_rfl) (by kernel_rfl) rfl (snd_ite (sndT_val (snd_var (i := 2) (by kernel_rfl) (by kernel_rfl) (by kernel_rfl) (by kernel_rfl)) rfl) (snd_tup (sndA_cons rfl (snd_var (i := 3) (by kernel_rfl) (by kernel_rfl) (by kernel_rfl) (by kernel_rfl)) (sndA_cons rfl snd_int sndA_nil))) (snd_tup (sndA_cons rfl snd_int (sndA_cons rfl (snd_var (i := 3) (by kernel_rfl) (by kernel_rfl) (by kernel_rfl) (by kernel_rfl)) sndA_nil)))))
  (sndB_cons (snd_asg1 (i := 4) (by kernel_rfl) (by kernel_rfl) rfl (snd_ite (sndT_cmp (fun _ _ _ c => eq_ok c) (by kernel_rfl) (snd_call (f := 24) (by kernel_rfl) (List.mem_of_getElem? (i := 0) rfl) rfl (by kernel_rfl) (sndA_cons rfl (snd_var (i := 0) (by kernel_rfl) (by kernel_rfl) (by kernel_rfl) (by kernel_rfl)) (sndA_cons rfl snd_int sndA_nil))) snd_int) (snd_var (i := 4) (by kernel_rfl) (by kernel_rfl) (by kernel_rfl) (by kernel_rfl)) (snd_tup (sndA_cons rfl (snd_bin (fun _ _ _ _ => sub_ok) snd_int (snd_ix (fun _ _ => rfl) (snd_var (i := 4) (by kernel_rfl) (by kernel_rfl) (by kernel_rfl) (by kernel_rfl)) snd_int)) (sndA_cons rfl (snd_ix (fun _ _ => rfl) (snd_var (i := 4) (by kernel_rfl) (by kernel_rfl) (by kernel_rfl) (by kernel_rfl)) snd_int) sndA_nil)))))
  (sndB_cons (snd_try (i := 6) (sndB_one' (snd_asg1 (i := 5) (by kernel_rfl) (by kernel_rfl) rfl (snd_call (f := 7) (by kernel_rfl) (List.mem_of_getElem? (i := 1) rfl) rfl (by kernel_rfl) (sndA_cons rfl (snd_var (i := 4) (by kernel_rfl) (by kernel_rfl) (by kernel_rfl) (by kernel_rfl)) sndA_nil)))) rfl (by kernel_rfl) (by kernel_rfl) (List.mem_of_getElem? (i := 0) rfl) (by kernel_rfl) (by kernel_rfl) rfl (all_cons (List.mem_of_getElem? (i := 0) rfl) all_nil) (by decide) (sx_bool (sxb_and (sx_op (fun _ _ _ _ c a pn => eqS_ok c a pn) (by kernel_rfl) (sx_fld (List.mem_of_getElem? (i := 0) rfl) (by decide) (by kernel_rfl) (by kernel_rfl) (by kernel_rfl) (by kernel_rfl) (fun _ => rfl)) sx_int) (sxb_one (sx_op (fun _ _ _ _ _ _ _ => gt_ok) (by kernel_rfl) (sx_var (j := 1) (by kernel_rfl) (by kernel_rfl) (by kernel_rfl) (by kernel_rfl)) sx_int)))))
  (sndB_one' (snd_ret (snd_boolop (sndB_and (snd_cmp (fun _ _ _ c => eq_ok c) (by kernel_rfl) (snd_var (i := 5) (by kernel_rfl) (by kernel_rfl) (by kernel_rfl) (by kernel_rfl)) (snd_var (i := 4) (by kernel_rfl) (by kernel_rfl) (by kernel_rfl) (by kernel_rfl))) (sndB_one (snd_cmp (fun _ _ _ _ => le_ok) (by kernel_rfl) (snd_var (i := 1) (by kernel_rfl) (by kernel_rfl) (by kernel_rfl) (by kernel_rfl)) snd_int)))))))))))
theorem s_35 : SndB' T lw_35 ⟨(defScope (top 43)).names, N_35, true⟩ (defBody (top 43)) b_law :=
  (sndB_cons (snd_asg1 (i := 1) (by kernel_rfl) (by kernel_rfl) rfl (snd_call (f := 23) (by kernel_rfl) (List.mem_of_getElem? (i := 0) rfl) rfl (by kernel_rfl) (sndA_cons rfl (snd_var (i := 0) (by kernel_rfl) (by kernel_rfl) (by kernel_rfl) (by kernel_rfl)) sndA_nil)))
  (sndB_cons (snd_for rfl (fun _ _ => rfl) (sndI_rng1 (by kernel_rfl) (by decide +kernel) rfl snd_int) (sndG_one (i := 2) (by kernel_rfl) (by kernel_rfl)) (sndB_cons (snd_parK (by kernel_rfl) (by kernel_rfl) (by decide) (sndL_cons rfl (snd_call (f := 30) (by kernel_rfl) (List.mem_of_getElem? (i := 1) rfl) rfl (by kernel_rfl) (sndA_cons rfl (snd_var (i := 1) (by kernel_rfl) (by kernel_rfl) (by kernel_rfl) (by kernel_rfl)) sndA_nil)) (sndL_cons rfl (snd_call (f := 30) (by kernel_rfl) (List.mem_of_getElem? (i := 1) rfl) rfl (by kernel_rfl) (sndA_cons rfl (snd_var (i := 1) (by kernel_rfl) (by kernel_rfl) (by kernel_rfl) (by kernel_rfl)) sndA_nil)) sndL_nil)))
  (sndB_cons (snd_asgT (sndG_many (is := [5, 6]) (by kernel_rfl)) rfl (fun _ => rfl) (snd_var (i := 3) (by kernel_rfl) (by kernel_rfl) (by kernel_rfl) (by kernel_rfl)))
  (sndB_cons (snd_asgT (sndG_many (is := [7, 8]) (by kernel_rfl)) rfl (fun _ => rfl) (snd_var (i := 4) (by kernel_rfl) (by kernel_rfl) (by kernel_rfl) (by kernel_rfl)))
  (sndB_cons (snd_if (sndT_not (sndT_val (snd_call (f := 31) (by kernel_rfl) (List.mem_of_getElem? (i := 2) rfl) rfl (by kernel_rfl) (sndA_cons rfl (snd_call (f := 3) (by kernel_rfl) (List.mem_of_getElem? (i := 3) rfl) rfl (by kernel_rfl) (sndA_cons rfl (snd_var (i := 3) (by kernel_rfl) (by kernel_rfl) (by kernel_rfl) (by kernel_rfl)) (sndA_cons rfl (snd_var (i := 4) (by kernel_rfl) (by kernel_rfl) (by kernel_rfl) (by kernel_rfl)) sndA_nil))) (sndA_cons rfl (snd_bin (fun _ _ _ c => add_ok c) (snd_bin (fun _ _ _ c => mul_ok c) (snd_var (i := 5) (by kernel_rfl) (by kernel_rfl) (by kernel_rfl) (by kernel_rfl)) (snd_var (i := 8) (by kernel_rfl) (by kernel_rfl) (by kernel_rfl) (by kernel_rfl))) (snd_bin (fun _ _ _ c => mul_ok c) (snd_var (i := 7) (by kernel_rfl) (by kernel_rfl) (by kernel_rfl) (by kernel_rfl)) (snd_var (i := 6) (by kernel_rfl) (by kernel_rfl) (by kernel_rfl) (by kernel_rfl)))) (sndA_cons rfl (snd_bin (fun _ _ _ c => mul_ok c) (snd_var (i := 6) (by kernel_rfl) (by kernel_rfl) (by kernel_rfl) (by kernel_rfl)) (snd_var (i := 8) (by kernel_rfl) (by kernel_rfl) (by kernel_rfl) (by kernel_rfl))) sndA_nil)))) rfl)) (sndB_one' (snd_ret snd_bl)) sndB_nil)
  (sndB_cons (snd_if (sndT_not (sndT_val (snd_call (f := 31) (by kernel_rfl) (List.mem_of_getElem? (i := 2) rfl) rfl (by kernel_rfl) (sndA_cons rfl (snd_call (f := 4) (by kernel_rfl) (List.mem_of_getElem? (i := 4) rfl) rfl (by kernel_rfl) (sndA_cons rfl (snd_var (i := 3) (by kernel_rfl) (by kernel_rfl) (by kernel_rfl) (by kernel_rfl)) (sndA_cons rfl (snd_var (i := 4) (by kernel_rfl) (by kernel_rfl) (by kernel_rfl) (by kernel_rfl)) sndA_nil))) (sndA_cons rfl (snd_bin (fun _ _ _ _ => sub_ok) (snd_bin (fun _ _ _ c => mul_ok c) (snd_var (i := 5) (by kernel_rfl) (by kernel_rfl) (by kernel_rfl) (by kernel_rfl)) (snd_var (i := 8) (by kernel_rfl) (by kernel_rfl) (by kernel_rfl) (by kernel_rfl))) (snd_bin (fun _ _ _ c => mul_ok c) (snd_var (i := 7) (by kernel_rfl) (by kernel_rfl) (by kernel_rfl) (by kernel_rfl)) (snd_var (i := 6) (by kernel_rfl) (by kernel_rfl) (by kernel_rfl) (by kernel_rfl)))) (sndA_cons rfl (snd_bin (fun _ _ _ c => mul_ok c) (snd_var (i := 6) (by kernel_rfl) (by kernel_rfl) (by kernel_rfl) (by kernel_rfl)) (snd_var (i := 8) (by kernel_rfl) (by kernel_rfl) (by kernel_rfl) (by kernel_rfl))) sndA_nil)))) rfl)) (sndB_one' (snd_ret snd_bl)) sndB_nil)
  (sndB_cons (snd_if (sndT_not (sndT_val (snd_call (f := 31) (by kernel_rfl) (List.mem_of_getElem? (i := 2) rfl) rfl (by kernel_rfl) (sndA_cons rfl (snd_call (f := 5) (by kernel_rfl) (List.mem_of_getElem? (i := 5) rfl) rfl (by kernel_rfl) (sndA_cons rfl (snd_var (i := 3) (by kernel_rfl) (by kernel_rfl) (by kernel_rfl) (by kernel_rfl)) (sndA_cons rfl (snd_var (i := 4) (by kernel_rfl) (by kernel_rfl) (by kernel_rfl) (by kernel_rfl)) sndA_nil))) (sndA_cons rfl (snd_bin (fun _ _ _ c => mul_ok c) (snd_var (i := 5) (by kernel_rfl) (by kernel_rfl) (by kernel_rfl) (by kernel_rfl)) (snd_var (i := 7) (by kernel_rfl) (by kernel_rfl) (by kernel_rfl) (by kernel_rfl))) (sndA_cons rfl (snd_bin (fun _ _ _ c => mul_ok c) (snd_var (i := 6) (by kernel_rfl) (by kernel_rfl) (by kernel_rfl) (by kernel_rfl)) (snd_var (i := 8) (by kernel_rfl) (by kernel_rfl) (by kernel_rfl) (by kernel_rfl))) sndA_nil)))) rfl)) (sndB_one' (snd_ret snd_bl)) sndB_nil)
  (sndB_cons (snd_if (sndT_boolop (sndBT_and (sndT_cmp (fun _ _ _ c => ne_ok c) (by kernel_rfl) (snd_var (i := 7) (by kernel_rfl) (by kernel_rfl) (by kernel_rfl) (by kernel_rfl)) snd_int) (sndBT_and1 (sndT_not (sndT_val (snd_call (f := 31) (by kernel_rfl) (List.mem_of_getElem? (i := 2) rfl) rfl (by kernel_rfl) (sndA_cons rfl (snd_call (f := 6) (by kernel_rfl) (List.mem_of_getElem? (i := 6) rfl) rfl (by kernel_rfl) (sndA_cons rfl (snd_var (i := 3) (by kernel_rfl) (by kernel_rfl) (by kernel_rfl) (by kernel_rfl)) (sndA_cons rfl (snd_var (i := 4) (by kernel_rfl) (by kernel_rfl) (by kernel_rfl) (by kernel_rfl)) sndA_nil))) (sndA_cons rfl (snd_bin (fun _ _ _ c => mul_ok c) (snd_var (i := 5) (by kernel_rfl) (by kernel_rfl) (by kernel_rfl) (by kernel_rfl)) (snd_var (i := 8) (by kernel_rfl) (by kernel_rfl) (by kernel_rfl) (by kernel_rfl))) (sndA_cons rfl (snd_bin (fun _ _ _ c => mul_ok c) (snd_var (i := 6) (by kernel_rfl) (by kernel_rfl) (by kernel_rfl) (by kernel_rfl)) (snd_var (i := 7) (by kernel_rfl) (by kernel_rfl) (by kernel_rfl) (by kernel_rfl))) sndA_nil)))) rfl))))) (sndB_one' (snd_ret snd_bl)) sndB_nil)
  (sndB_cons (snd_par2 (i := 9) (j := 10) rfl (by kernel_rfl) (by kernel_rfl) (by decide) (by kernel_rfl) (by kernel_rfl) rfl (by kernel_rfl) (by kernel_rfl) rfl rfl (sndL_cons rfl (snd_bin (fun _ _ _ _ => sub_ok) (snd_call (f := 24) (by kernel_rfl) (List.mem_of_getElem? (i := 7) rfl) rfl (by kernel_rfl) (sndA_cons rfl (snd_var (i := 1) (by kernel_rfl) (by kernel_rfl) (by kernel_rfl) (by kernel_rfl)) (sndA_cons rfl snd_int sndA_nil))) snd_int) (sndL_cons rfl (snd_call (f := 25) (by kernel_rfl) (List.mem_of_getElem? (i := 8) rfl) rfl (by kernel_rfl) (sndA_cons rfl (snd_var (i := 1) (by kernel_rfl) (by kernel_rfl) (by kernel_rfl) (by kernel_rfl)) (sndA_cons rfl (snd_lst .val (sndA_cons rfl snd_int (sndA_cons rfl snd_int (sndA_cons rfl snd_int (sndA_cons rfl (snd_un (fun _ _ _ _ => neg_ok) snd_int) (sndA_cons rfl (snd_un (fun _ _ _ _ => neg_ok) snd_int) (sndA_cons rfl snd_int (sndA_cons rfl (snd_un (fun _ _ _ _ => neg_ok) snd_int) sndA_nil)))))))) sndA_nil))) sndL_nil)))
  (sndB_one' (snd_if (sndT_boolop (sndBT_or (sndT_cmp (fun _ _ _ c => ne_ok c) (by kernel_rfl) (snd_bltn (fun _ _ _ c => repr_ok c) (by kernel_rfl) (by decide +kernel) (by decide +kernel) (by decide) (by kernel_rfl) rfl (sndL_cons rfl (snd_call (f := 1) (by kernel_rfl) (List.mem_of_getElem? (i := 9) rfl) rfl (by kernel_rfl) (sndA_cons rfl (snd_var (i := 9) (by kernel_rfl) (by kernel_rfl) (by kernel_rfl) (by kernel_rfl)) (sndA_cons rfl (snd_var (i := 10) (by kernel_rfl) (by kernel_rfl) (by kernel_rfl) (by kernel_rfl)) sndA_nil))) sndL_nil)) (snd_bltn (fun _ _ _ c => repr_ok c) (by kernel_rfl) (by decide +kernel) (by decide +kernel) (by decide) (by kernel_rfl) rfl (sndL_cons rfl (snd_call (f := 27) (by kernel_rfl) (List.mem_of_getElem? (i := 10) rfl) rfl (by kernel_rfl) (sndA_cons rfl (snd_var (i := 9) (by kernel_rfl) (by kernel_rfl) (by kernel_rfl) (by kernel_rfl)) (sndA_cons rfl (snd_var (i := 10) (by kernel_rfl) (by kernel_rfl) (by kernel_rfl) (by kernel_rfl)) sndA_nil))) sndL_nil))) (sndBT_or1 (sndT_cmp (fun _ _ _ _ => nis_ok) (by kernel_rfl) (snd_call (f := 2) (by kernel_rfl) (List.mem_of_getElem? (i := 11) rfl) rfl (by kernel_rfl) (sndA_cons rfl (snd_var (i := 3) (by kernel_rfl) (by kernel_rfl) (by kernel_rfl) (by kernel_rfl)) sndA_nil)) snd_bl)))) (sndB_one' (snd_ret snd_bl)) sndB_nil)))))))))))
  (sndB_cons (snd_asg1 (i := 11) (by kernel_rfl) (by kernel_rfl) rfl (snd_lst .val (sndA_cons rfl (snd_tup (sndA_cons rfl snd_int (sndA_cons rfl snd_int sndA_nil))) (sndA_cons rfl (snd_tup (sndA_cons rfl snd_int (sndA_cons rfl snd_int sndA_nil))) (sndA_cons rfl (snd_tup (sndA_cons rfl snd_int (sndA_cons rfl (snd_un (fun _ _ _ _ => neg_ok) snd_int) sndA_nil))) (sndA_cons rfl (snd_lst .val (sndA_cons rfl snd_int (sndA_cons rfl snd_int sndA_nil))) (sndA_cons rfl (snd_tup (sndA_cons rfl snd_int sndA_nil)) (sndA_cons rfl (snd_tup (sndA_cons rfl snd_int (sndA_cons rfl snd_int (sndA_cons rfl snd_int sndA_nil)))) (sndA_cons rfl (snd_tup (sndA_cons rfl snd_bl (sndA_cons rfl snd_int sndA_nil))) (sndA_cons rfl (snd_tup (sndA_cons rfl snd_int (sndA_cons rfl snd_bl sndA_nil))) (sndA_cons rfl (snd_tup (sndA_cons rfl snd_int (sndA_cons rfl snd_int sndA_nil))) (sndA_cons rfl snd_non (sndA_cons rfl snd_int (sndA_cons rfl (snd_tup (sndA_cons rfl snd_str (sndA_cons rfl snd_int sndA_nil))) sndA_nil))))))))))))))
  (sndB_cons (snd_if (sndT_boolop (sndBT_or (sndT_cmp (fun _ _ _ _ => nis_ok) (by kernel_rfl) (snd_call (f := 2) (by kernel_rfl) (List.mem_of_getElem? (i := 11) rfl) rfl (by kernel_rfl) (sndA_cons rfl (snd_call (f := 25) (by kernel_rfl) (List.mem_of_getElem? (i := 8) rfl) rfl (by kernel_rfl) (sndA_cons rfl (snd_var (i := 1) (by kernel_rfl) (by kernel_rfl) (by kernel_rfl) (by kernel_rfl)) (sndA_cons rfl (snd_var (i := 11) (by kernel_rfl) (by kernel_rfl) (by kernel_rfl) (by kernel_rfl)) sndA_nil))) sndA_nil)) snd_bl) (sndBT_or1 (sndT_not (sndT_val (snd_call (f := 34) (by kernel_rfl) (List.mem_of_getElem? (i := 12) rfl) rfl (by kernel_rfl) (sndA_cons rfl (snd_var (i := 1) (by kernel_rfl) (by kernel_rfl) (by kernel_rfl) (by kernel_rfl)) sndA_nil)) rfl))))) (sndB_one' (snd_ret snd_bl)) sndB_nil)
  (sndB_cons (snd_asgTL (sndG_lst (is := [12, 13, 14]) (by kernel_rfl)) (fun _ => rfl) (snd_lc (own := [("k", 25)]) .val (by decide) (fun _ _ => rfl) (sndI_rng1 (by kernel_rfl) (by decide +kernel) rfl snd_int) (by kernel_rfl) (sndG_one (i := 25) (by kernel_rfl) (by kernel_rfl)) sndQ_nil (snd_bin (fun _ _ _ c => add_ok c) snd_int (snd_call (f := 24) (by kernel_rfl) (List.mem_of_getElem? (i := 7) rfl) rfl (by kernel_rfl) (sndA_cons rfl (snd_var (i := 1) (by kernel_rfl) (by kernel_rfl) (by kernel_rfl) (by kernel_rfl)) (sndA_cons rfl snd_int sndA_nil))))))
  (sndB_cons (snd_asg1 (i := 3) (by kernel_rfl) (by kernel_rfl) rfl (snd_typ (fun _ _ _ c => tup_ok c) (by kernel_rfl) (by decide +kernel) (by decide +kernel) (by decide) (by kernel_rfl) rfl (sndL_cons rfl (snd_lc (own := [("j", 26)]) .val (by decide) (fun _ _ => rfl) (sndI_rng1 (by kernel_rfl) (by decide +kernel) rfl (snd_var (i := 12) (by kernel_rfl) (by kernel_rfl) (by kernel_rfl) (by kernel_rfl))) (by kernel_rfl) (sndG_one (i := 26) (by kernel_rfl) (by kernel_rfl)) sndQ_nil (snd_typ (fun _ _ _ c => tup_ok c) (by kernel_rfl) (by decide +kernel) (by decide +kernel) (by decide) (by kernel_rfl) rfl (sndL_cons rfl (snd_lc (own := [("k", 25)]) .val (by decide) (fun _ _ => rfl) (sndI_rng1 (by kernel_rfl) (by decide +kernel) rfl (snd_var (i := 13) (by kernel_rfl) (by kernel_rfl) (by kernel_rfl) (by kernel_rfl))) (by kernel_rfl) (sndG_one (i := 25) (by kernel_rfl) (by kernel_rfl)) sndQ_nil (snd_call (f := 30) (by kernel_rfl) (List.mem_of_getElem? (i := 1) rfl) rfl (by kernel_rfl) (sndA_cons rfl (snd_var (i := 1) (by kernel_rfl) (by kernel_rfl) (by kernel_rfl) (by kernel_rfl)) sndA_nil))) sndL_nil))) sndL_nil)))
  (sndB_cons (snd_asg1 (i := 4) (by kernel_rfl) (by kernel_rfl) rfl (snd_typ (fun _ _ _ c => tup_ok c) (by kernel_rfl) (by decide +kernel) (by decide +kernel) (by decide) (by kernel_rfl) rfl (sndL_cons rfl (snd_lc (own := [("j", 26)]) .val (by decide) (fun _ _ => rfl) (sndI_rng1 (by kernel_rfl) (by decide +kernel) rfl (snd_var (i := 13) (by kernel_rfl) (by kernel_rfl) (by kernel_rfl) (by kernel_rfl))) (by kernel_rfl) (sndG_one (i := 26) (by kernel_rfl) (by kernel_rfl)) sndQ_nil (snd_typ (fun _ _ _ c => tup_ok c) (by kernel_rfl) (by decide +kernel) (by decide +kernel) (by decide) (by kernel_rfl) rfl (sndL_cons rfl (snd_lc (own := [("k", 25)]) .val (by decide) (fun _ _ => rfl) (sndI_rng1 (by kernel_rfl) (by decide +kernel) rfl (snd_var (i := 14) (by kernel_rfl) (by kernel_rfl) (by kernel_rfl) (by kernel_rfl))) (by kernel_rfl) (sndG_one (i := 25) (by kernel_rfl) (by kernel_rfl)) sndQ_nil (snd_call (f := 30) (by kernel_rfl) (List.mem_of_getElem? (i := 1) rfl) rfl (by kernel_rfl) (sndA_cons rfl (snd_var (i := 1) (by kernel_rfl) (by kernel_rfl) (by kernel_rfl) (by kernel_rfl)) sndA_nil))) sndL_nil))) sndL_nil)))
  (sndB_cons (snd_parK (by kernel_rfl) (by kernel_rfl) (by decide) (sndL_cons rfl (snd_ix (fun _ _ => rfl) (snd_var (i := 3) (by kernel_rfl) (by kernel_rfl) (by kernel_rfl) (by kernel_rfl)) snd_int) (sndL_cons rfl (snd_typ (fun _ _ _ c => tup_ok c) (by kernel_rfl) (by decide +kernel) (by decide +kernel) (by decide) (by kernel_rfl) rfl (sndL_cons rfl (snd_lc (own := [("k", 25)]) .val (by decide) (fun _ _ => rfl) (sndI_rng1 (by kernel_rfl) (by decide +kernel) rfl (snd_var (i := 13) (by kernel_rfl) (by kernel_rfl) (by kernel_rfl) (by kernel_rfl))) (by kernel_rfl) (sndG_one (i := 25) (by kernel_rfl) (by kernel_rfl)) sndQ_nil (snd_call (f := 30) (by kernel_rfl) (List.mem_of_getElem? (i := 1) rfl) rfl (by kernel_rfl) (sndA_cons rfl (snd_var (i := 1) (by kernel_rfl) (by kernel_rfl) (by kernel_rfl) (by kernel_rfl)) sndA_nil))) sndL_nil)) sndL_nil)))
  (sndB_cons (snd_if (sndT_cmp (fun _ _ _ c => ne_ok c) (by kernel_rfl) (snd_bltn (fun _ _ _ c => repr_ok c) (by kernel_rfl) (by decide +kernel) (by decide +kernel) (by decide) (by kernel_rfl) rfl (sndL_cons rfl (snd_call (f := 18) (by kernel_rfl) (List.mem_of_getElem? (i := 13) rfl) rfl (by kernel_rfl) (sndA_cons rfl (snd_var (i := 15) (by kernel_rfl) (by kernel_rfl) (by kernel_rfl) (by kernel_rfl)) (sndA_cons rfl (snd_var (i := 4) (by kernel_rfl) (by kernel_rfl) (by kernel_rfl) (by kernel_rfl)) sndA_nil))) sndL_nil)) (snd_bltn (fun _ _ _ c => repr_ok c) (by kernel_rfl) (by decide +kernel) (by decide +kernel) (by decide) (by kernel_rfl) rfl (sndL_cons rfl (snd_call (f := 33) (by kernel_rfl) (List.mem_of_getElem? (i := 14) rfl) rfl (by kernel_rfl) (sndA_cons rfl (snd_var (i := 15) (by kernel_rfl) (by kernel_rfl) (by kernel_rfl) (by kernel_rfl)) (sndA_cons rfl (snd_var (i := 4) (by kernel_rfl) (by kernel_rfl) (by kernel_rfl) (by kernel_rfl)) sndA_nil))) sndL_nil))) (sndB_one' (snd_ret snd_bl)) sndB_nil)
  (sndB_cons (snd_asg1 (i := 18) (by kernel_rfl) (by kernel_rfl) rfl (snd_typ (fun _ _ _ c => tup_ok c) (by kernel_rfl) (by decide +kernel) (by decide +kernel) (by decide) (by kernel_rfl) rfl (sndL_cons rfl (snd_lc (own := [("line", 17)]) .val (by decide) (fun _ _ => rfl) (sndI_seq (snd_var (i := 3) (by kernel_rfl) (by kernel_rfl) (by kernel_rfl) (by kernel_rfl))) (by kernel_rfl) (sndG_one (i := 17) (by kernel_rfl) (by kernel_rfl)) sndQ_nil (snd_call (f := 32) (by kernel_rfl) (List.mem_of_getElem? (i := 15) rfl) rfl (by kernel_rfl) (sndA_cons rfl (snd_lc (own := [("a", 5), ("b", 6)]) .val (by decide) (fun _ _ => rfl) (sndI_zip (by kernel_rfl) (by decide +kernel) rfl rfl (snd_var (i := 17) (by kernel_rfl) (by kernel_rfl) (by kernel_rfl) (by kernel_rfl)) (snd_var (i := 16) (by kernel_rfl) (by kernel_rfl) (by kernel_rfl) (by kernel_rfl))) (by kernel_rfl) (sndG_many (is := [5, 6]) (by kernel_rfl)) sndQ_nil (snd_call (f := 29) (by kernel_rfl) (List.mem_of_getElem? (i := 16) rfl) rfl (by kernel_rfl) (sndA_cons rfl (snd_var (i := 5) (by kernel_rfl) (by kernel_rfl) (by kernel_rfl) (by kernel_rfl)) (sndA_cons rfl (snd_var (i := 6) (by kernel_rfl) (by kernel_rfl) (by kernel_rfl) (by kernel_rfl)) sndA_nil)))) sndA_nil))) sndL_nil)))
  (sndB_cons (snd_if (sndT_cmp (fun _ _ _ c => ne_ok c) (by kernel_rfl) (snd_bltn (fun _ _ _ c => repr_ok c) (by kernel_rfl) (by decide +kernel) (by decide +kernel) (by decide) (by kernel_rfl) rfl (sndL_cons rfl (snd_call (f := 20) (by kernel_rfl) (List.mem_of_getElem? (i := 17) rfl) rfl (by kernel_rfl) (sndA_cons rfl (snd_var (i := 3) (by kernel_rfl) (by kernel_rfl) (by kernel_rfl) (by kernel_rfl)) (sndA_cons rfl (snd_var (i := 16) (by kernel_rfl) (by kernel_rfl) (by kernel_rfl) (by kernel_rfl)) sndA_nil))) sndL_nil)) (snd_bltn (fun _ _ _ c => repr_ok c) (by kernel_rfl) (by decide +kernel) (by decide +kernel) (by decide) (by kernel_rfl) rfl (sndL_cons rfl (snd_var (i := 18) (by kernel_rfl) (by kernel_rfl) (by kernel_rfl) (by kernel_rfl)) sndL_nil))) (sndB_one' (snd_ret snd_bl)) sndB_nil)
  (sndB_cons (snd_if (sndT_cmp (fun _ _ _ c => ne_ok c) (by kernel_rfl) (snd_bltn (fun _ _ _ c => repr_ok c) (by kernel_rfl) (by decide +kernel) (by decide +kernel) (by decide) (by kernel_rfl) rfl (sndL_cons rfl (snd_call (f := 21) (by kernel_rfl) (List.mem_of_getElem? (i := 18) rfl) rfl (by kernel_rfl) (sndA_cons rfl (snd_var (i := 3) (by kernel_rfl) (by kernel_rfl) (by kernel_rfl) (by kernel_rfl)) (sndA_cons rfl (snd_var (i := 4) (by kernel_rfl) (by kernel_rfl) (by kernel_rfl) (by kernel_rfl)) sndA_nil))) sndL_nil)) (snd_bltn (fun _ _ _ c => repr_ok c) (by kernel_rfl) (by decide +kernel) (by decide +kernel) (by decide) (by kernel_rfl) rfl (sndL_cons rfl (snd_typ (fun _ _ _ c => tup_ok c) (by kernel_rfl) (by decide +kernel) (by decide +kernel) (by decide) (by kernel_rfl) rfl (sndL_cons rfl (snd_lc (own := [("line", 17)]) .val (by decide) (fun _ _ => rfl) (sndI_seq (snd_var (i := 3) (by kernel_rfl) (by kernel_rfl) (by kernel_rfl) (by kernel_rfl))) (by kernel_rfl) (sndG_one (i := 17) (by kernel_rfl) (by kernel_rfl)) sndQ_nil (snd_call (f := 33) (by kernel_rfl) (List.mem_of_getElem? (i := 14) rfl) rfl (by kernel_rfl) (sndA_cons rfl (snd_var (i := 17) (by kernel_rfl) (by kernel_rfl) (by kernel_rfl) (by kernel_rfl)) (sndA_cons rfl (snd_var (i := 4) (by kernel_rfl) (by kernel_rfl) (by kernel_rfl) (by kernel_rfl)) sndA_nil)))) sndL_nil)) sndL_nil))) (sndB_one' (snd_ret snd_bl)) sndB_nil)
  (sndB_cons (snd_if (sndT_boolop (sndBT_or (sndT_cmp (fun _ _ _ c => ne_ok c) (by kernel_rfl) (snd_bltn (fun _ _ _ c => repr_ok c) (by kernel_rfl) (by decide +kernel) (by decide +kernel) (by decide) (by kernel_rfl) rfl (sndL_cons rfl (snd_call (f := 19) (by kernel_rfl) (List.mem_of_getElem? (i := 19) rfl) rfl (by kernel_rfl) (sndA_cons rfl (snd_var (i := 3) (by kernel_rfl) (by kernel_rfl) (by kernel_rfl) (by kernel_rfl)) sndA_nil)) sndL_nil)) (snd_bltn (fun _ _ _ c => repr_ok c) (by kernel_rfl) (by decide +kernel) (by decide +kernel) (by decide) (by kernel_rfl) rfl (sndL_cons rfl (snd_typ (fun _ _ _ c => tup_ok c) (by kernel_rfl) (by decide +kernel) (by decide +kernel) (by decide) (by kernel_rfl) rfl (sndL_cons rfl (snd_lc (own := [("k", 25)]) .val (by decide) (fun _ _ => rfl) (sndI_rng1 (by kernel_rfl) (by decide +kernel) rfl (snd_var (i := 13) (by kernel_rfl) (by kernel_rfl) (by kernel_rfl) (by kernel_rfl))) (by kernel_rfl) (sndG_one (i := 25) (by kernel_rfl) (by kernel_rfl)) sndQ_nil (snd_typ (fun _ _ _ c => tup_ok c) (by kernel_rfl) (by decide +kernel) (by decide +kernel) (by decide) (by kernel_rfl) rfl (sndL_cons rfl (snd_lc (own := [("line", 17)]) .val (by decide) (fun _ _ => rfl) (sndI_seq (snd_var (i := 3) (by kernel_rfl) (by kernel_rfl) (by kernel_rfl) (by kernel_rfl))) (by kernel_rfl) (sndG_one (i := 17) (by kernel_rfl) (by kernel_rfl)) sndQ_nil (snd_ix (fun _ _ => rfl) (snd_var (i := 17) (by kernel_rfl) (by kernel_rfl) (by kernel_rfl) (by kernel_rfl)) (snd_var (i := 25) (by kernel_rfl) (by kernel_rfl) (by kernel_rfl) (by kernel_rfl)))) sndL_nil))) sndL_nil)) sndL_nil))) (sndBT_or1 (sndT_cmp (fun _ _ _ c => ne_ok c) (by kernel_rfl) (snd_call (f := 19) (by kernel_rfl) (List.mem_of_getElem? (i := 19) rfl) rfl (by kernel_rfl) (sndA_cons rfl (snd_tup sndA_nil) sndA_nil)) (snd_tup sndA_nil))))) (sndB_one' (snd_ret snd_bl)) sndB_nil)
  (sndB_cons (snd_parK (by kernel_rfl) (by kernel_rfl) (by decide) (sndL_cons rfl (snd_call (f := 16) (by kernel_rfl) (List.mem_of_getElem? (i := 20) rfl) rfl (by kernel_rfl) (sndA_cons rfl (snd_var (i := 15) (by kernel_rfl) (by kernel_rfl) (by kernel_rfl) (by kernel_rfl)) (sndA_cons rfl (snd_ix (fun _ _ => rfl) (snd_var (i := 16) (by kernel_rfl) (by kernel_rfl) (by kernel_rfl) (by kernel_rfl)) snd_int) sndA_nil))) (sndL_cons rfl (snd_ix (fun _ _ => rfl) (snd_var (i := 16) (by kernel_rfl) (by kernel_rfl) (by kernel_rfl) (by kernel_rfl)) snd_int) sndL_nil)))
  (sndB_cons (snd_if (sndT_cmp (fun _ _ _ c => ne_ok c) (by kernel_rfl) (snd_bltn (fun _ _ _ c => repr_ok c) (by kernel_rfl) (by decide +kernel) (by decide +kernel) (by decide) (by kernel_rfl) rfl (sndL_cons rfl (snd_var (i := 19) (by kernel_rfl) (by kernel_rfl) (by kernel_rfl) (by kernel_rfl)) sndL_nil)) (snd_bltn (fun _ _ _ c => repr_ok c) (by kernel_rfl) (by decide +kernel) (by decide +kernel) (by decide) (by kernel_rfl) rfl (sndL_cons rfl (snd_typ (fun _ _ _ c => tup_ok c) (by kernel_rfl) (by decide +kernel) (by decide +kernel) (by decide) (by kernel_rfl) rfl (sndL_cons rfl (snd_lc (own := [("a", 5)]) .val (by decide) (fun _ _ => rfl) (sndI_seq (snd_var (i := 15) (by kernel_rfl) (by kernel_rfl) (by kernel_rfl) (by kernel_rfl))) (by kernel_rfl) (sndG_one (i := 5) (by kernel_rfl) (by kernel_rfl)) sndQ_nil (snd_call (f := 29) (by kernel_rfl) (List.mem_of_getElem? (i := 16) rfl) rfl (by kernel_rfl) (sndA_cons rfl (snd_var (i := 5) (by kernel_rfl) (by kernel_rfl) (by kernel_rfl) (by kernel_rfl)) (sndA_cons rfl (snd_var (i := 20) (by kernel_rfl) (by kernel_rfl) (by kernel_rfl) (by kernel_rfl)) sndA_nil)))) sndL_nil)) sndL_nil))) (sndB_one' (snd_ret snd_bl)) sndB_nil)
  (sndB_cons (snd_if (sndT_cmp (fun _ _ _ c => ne_ok c) (by kernel_rfl) (snd_bltn (fun _ _ _ c => repr_ok c) (by kernel_rfl) (by decide +kernel) (by decide +kernel) (by decide) (by kernel_rfl) rfl (sndL_cons rfl (snd_call (f := 15) (by kernel_rfl) (List.mem_of_getElem? (i := 21) rfl) rfl (by kernel_rfl) (sndA_cons rfl (snd_var (i := 15) (by kernel_rfl) (by kernel_rfl) (by kernel_rfl) (by kernel_rfl)) (sndA_cons rfl (snd_var (i := 16) (by kernel_rfl) (by kernel_rfl) (by kernel_rfl) (by kernel_rfl)) sndA_nil))) sndL_nil)) (snd_bltn (fun _ _ _ c => repr_ok c) (by kernel_rfl) (by decide +kernel) (by decide +kernel) (by decide) (by kernel_rfl) rfl (sndL_cons rfl (snd_typ (fun _ _ _ c => tup_ok c) (by kernel_rfl) (by decide +kernel) (by decide +kernel) (by decide) (by kernel_rfl) rfl (sndL_cons rfl (snd_lc (own := [("a", 5), ("b", 6)]) .val (by decide) (fun _ _ => rfl) (sndI_zip (by kernel_rfl) (by decide +kernel) rfl rfl (snd_var (i := 15) (by kernel_rfl) (by kernel_rfl) (by kernel_rfl) (by kernel_rfl)) (snd_var (i := 16) (by kernel_rfl) (by kernel_rfl) (by kernel_rfl) (by kernel_rfl))) (by kernel_rfl) (sndG_many (is := [5, 6]) (by kernel_rfl)) sndQ_nil (snd_call (f := 28) (by kernel_rfl) (List.mem_of_getElem? (i := 22) rfl) rfl (by kernel_rfl) (sndA_cons rfl (snd_var (i := 5) (by kernel_rfl) (by kernel_rfl) (by kernel_rfl) (by kernel_rfl)) (sndA_cons rfl (snd_var (i := 6) (by kernel_rfl) (by kernel_rfl) (by kernel_rfl) (by kernel_rfl)) sndA_nil)))) sndL_nil)) sndL_nil))) (sndB_one' (snd_ret snd_bl)) sndB_nil)
  (sndB_cons (snd_asg1 (i := 21) (by kernel_rfl) (by kernel_rfl) rfl (snd_call (f := 17) (by kernel_rfl) (List.mem_of_getElem? (i := 23) rfl) rfl (by kernel_rfl) (sndA_cons rfl (snd_var (i := 13) (by kernel_rfl) (by kernel_rfl) (by kernel_rfl) (by kernel_rfl)) sndA_nil)))
  (sndB_cons (snd_if (sndT_boolop (sndBT_or (sndT_cmp (fun _ _ _ c => ne_ok c) (by kernel_rfl) (snd_bltn (fun _ _ _ c => repr_ok c) (by kernel_rfl) (by decide +kernel) (by decide +kernel) (by decide) (by kernel_rfl) rfl (sndL_cons rfl (snd_call (f := 21) (by kernel_rfl) (List.mem_of_getElem? (i := 18) rfl) rfl (by kernel_rfl) (sndA_cons rfl (snd_var (i := 3) (by kernel_rfl) (by kernel_rfl) (by kernel_rfl) (by kernel_rfl)) (sndA_cons rfl (snd_var (i := 21) (by kernel_rfl) (by kernel_rfl) (by kernel_rfl) (by kernel_rfl)) sndA_nil))) sndL_nil)) (snd_bltn (fun _ _ _ c => repr_ok c) (by kernel_rfl) (by decide +kernel) (by decide +kernel) (by decide) (by kernel_rfl) rfl (sndL_cons rfl (snd_var (i := 3) (by kernel_rfl) (by kernel_rfl) (by kernel_rfl) (by kernel_rfl)) sndL_nil))) (sndBT_or1 (sndT_cmp (fun _ _ _ c => ne_ok c) (by kernel_rfl) (snd_bltn (fun _ _ _ c => repr_ok c) (by kernel_rfl) (by decide +kernel) (by decide +kernel) (by decide) (by kernel_rfl) rfl (sndL_cons rfl (snd_call (f := 18) (by kernel_rfl) (List.mem_of_getElem? (i := 13) rfl) rfl (by kernel_rfl) (sndA_cons rfl (snd_var (i := 16) (by kernel_rfl) (by kernel_rfl) (by kernel_rfl) (by kernel_rfl)) (sndA_cons rfl (snd_var (i := 21) (by kernel_rfl) (by kernel_rfl) (by kernel_rfl) (by kernel_rfl)) sndA_nil))) sndL_nil)) (snd_bltn (fun _ _ _ c => repr_ok c) (by kernel_rfl) (by decide +kernel) (by decide +kernel) (by decide) (by kernel_rfl) rfl (sndL_cons rfl (snd_var (i := 16) (by kernel_rfl) (by kernel_rfl) (by kernel_rfl) (by kernel_rfl)) sndL_nil)))))) (sndB_one' (snd_ret snd_bl)) sndB_nil)
  (sndB_cons (snd_asg1 (i := 22) (by kernel_rfl) (by kernel_rfl) rfl (snd_typ (fun _ _ _ c => tup_ok c) (by kernel_rfl) (by decide +kernel) (by decide +kernel) (by decide) (by kernel_rfl) rfl (sndL_cons rfl (snd_lc (own := [("j", 26)]) .val (by decide) (fun _ _ => rfl) (sndI_rng1 (by kernel_rfl) (by decide +kernel) rfl (snd_var (i := 13) (by kernel_rfl) (by kernel_rfl) (by kernel_rfl) (by kernel_rfl))) (by kernel_rfl) (sndG_one (i := 26) (by kernel_rfl) (by kernel_rfl)) sndQ_nil (snd_typ (fun _ _ _ c => tup_ok c) (by kernel_rfl) (by decide +kernel) (by decide +kernel) (by decide) (by kernel_rfl) rfl (sndL_cons rfl (snd_lc (own := [("k", 25)]) .val (by decide) (fun _ _ => rfl) (sndI_rng1 (by kernel_rfl) (by decide +kernel) rfl (snd_var (i := 13) (by kernel_rfl) (by kernel_rfl) (by kernel_rfl) (by kernel_rfl))) (by kernel_rfl) (sndG_one (i := 25) (by kernel_rfl) (by kernel_rfl)) sndQ_nil (snd_call (f := 30) (by kernel_rfl) (List.mem_of_getElem? (i := 1) rfl) rfl (by kernel_rfl) (sndA_cons rfl (snd_var (i := 1) (by kernel_rfl) (by kernel_rfl) (by kernel_rfl) (by kernel_rfl)) sndA_nil))) sndL_nil))) sndL_nil)))
  (sndB_cons (snd_asg1 (i := 23) (by kernel_rfl) (by kernel_rfl) rfl (snd_call (f := 20) (by kernel_rfl) (List.mem_of_getElem? (i := 17) rfl) rfl (by kernel_rfl) (sndA_cons rfl (snd_var (i := 22) (by kernel_rfl) (by kernel_rfl) (by kernel_rfl) (by kernel_rfl)) (sndA_cons rfl (snd_var (i := 16) (by kernel_rfl) (by kernel_rfl) (by kernel_rfl) (by kernel_rfl)) sndA_nil))))
  (sndB_cons (snd_asg1 (i := 24) (by kernel_rfl) (by kernel_rfl) rfl (snd_call (f := 22) (by kernel_rfl) (List.mem_of_getElem? (i := 24) rfl) rfl (by kernel_rfl) (sndA_cons rfl (snd_var (i := 22) (by kernel_rfl) (by kernel_rfl) (by kernel_rfl) (by kernel_rfl)) (sndA_cons rfl (snd_var (i := 23) (by kernel_rfl) (by kernel_rfl) (by kernel_rfl) (by kernel_rfl)) sndA_nil))))
  (sndB_cons (snd_if (sndT_boolop (sndBT_and (sndT_cmp (fun _ _ _ _ => nis_ok) (by kernel_rfl) (snd_var (i := 24) (by kernel_rfl) (by kernel_rfl) (by kernel_rfl) (by kernel_rfl)) snd_non) (sndBT_and1 (sndT_cmp (fun _ _ _ c => ne_ok c) (by kernel_rfl) (snd_bltn (fun _ _ _ c => repr_ok c) (by kernel_rfl) (by decide +kernel) (by decide +kernel) (by decide) (by kernel_rfl) rfl (sndL_cons rfl (snd_call (f := 20) (by kernel_rfl) (List.mem_of_getElem? (i := 17) rfl) rfl (by kernel_rfl) (sndA_cons rfl (snd_var (i := 22) (by kernel_rfl) (by kernel_rfl) (by kernel_rfl) (by kernel_rfl)) (sndA_cons rfl (snd_var (i := 24) (by kernel_rfl) (by kernel_rfl) (by kernel_rfl) (by kernel_rfl)) sndA_nil))) sndL_nil)) (snd_bltn (fun _ _ _ c => repr_ok c) (by kernel_rfl) (by decide +kernel) (by decide +kernel) (by decide) (by kernel_rfl) rfl (sndL_cons rfl (snd_var (i := 23) (by kernel_rfl) (by kernel_rfl) (by kernel_rfl) (by kernel_rfl)) sndL_nil)))))) (sndB_one' (snd_ret snd_bl)) sndB_nil)
  (sndB_cons (snd_if (sndT_boolop (sndBT_and (sndT_cmp (fun _ _ _ _ => gt_ok) (by kernel_rfl) (snd_var (i := 13) (by kernel_rfl) (by kernel_rfl) (by kernel_rfl) (by kernel_rfl)) snd_int) (sndBT_and1 (sndT_cmp (fun _ _ _ _ => nis_ok) (by kernel_rfl) (snd_call (f := 22) (by kernel_rfl) (List.mem_of_getElem? (i := 24) rfl) rfl (by kernel_rfl) (sndA_cons rfl (snd_bin (fun _ _ _ c => add_ok c) (snd_bin (fun _ _ _ c => mul_ok c) (snd_sl (snd_var (i := 22) (by kernel_rfl) (by kernel_rfl) (by kernel_rfl) (by kernel_rfl)) sndO_none (sndO_some snd_int)) snd_int) (snd_sl (snd_var (i := 22) (by kernel_rfl) (by kernel_rfl) (by kernel_rfl) (by kernel_rfl)) (sndO_some snd_int) sndO_none)) (sndA_cons rfl (snd_var (i := 23) (by kernel_rfl) (by kernel_rfl) (by kernel_rfl) (by kernel_rfl)) sndA_nil))) snd_non)))) (sndB_one' (snd_ret snd_bl)) sndB_nil)
  (sndB_cons (snd_asg1 (i := 17) (by kernel_rfl) (by kernel_rfl) rfl (snd_typ (fun _ _ _ c => tup_ok c) (by kernel_rfl) (by decide +kernel) (by decide +kernel) (by decide) (by kernel_rfl) rfl (sndL_cons rfl (snd_lc (own := [("j", 26)]) .val (by decide) (fun _ _ => rfl) (sndI_rng1 (by kernel_rfl) (by decide +kernel) rfl (snd_var (i := 13) (by kernel_rfl) (by kernel_rfl) (by kernel_rfl) (by kernel_rfl))) (by kernel_rfl) (sndG_one (i := 26) (by kernel_rfl) (by kernel_rfl)) sndQ_nil (snd_typ (fun _ _ _ c => tup_ok c) (by kernel_rfl) (by decide +kernel) (by decide +kernel) (by decide) (by kernel_rfl) rfl (sndL_cons rfl (snd_lc (own := [("k", 25)]) .val (by decide) (fun _ _ => rfl) (sndI_rng1 (by kernel_rfl) (by decide +kernel) rfl (snd_var (i := 13) (by kernel_rfl) (by kernel_rfl) (by kernel_rfl) (by kernel_rfl))) (by kernel_rfl) (sndG_one (i := 25) (by kernel_rfl) (by kernel_rfl)) sndQ_nil (snd_ite (sndT_cmp (fun _ _ _ _ => le_ok) (by kernel_rfl) (snd_var (i := 25) (by kernel_rfl) (by kernel_rfl) (by kernel_rfl) (by kernel_rfl)) (snd_var (i := 26) (by kernel_rfl) (by kernel_rfl) (by kernel_rfl) (by kernel_rfl))) (snd_tup (sndA_cons rfl snd_int (sndA_cons rfl snd_int sndA_nil))) (snd_tup (sndA_cons rfl snd_int (sndA_cons rfl snd_int sndA_nil))))) sndL_nil))) sndL_nil)))
  (sndB_one' (snd_ret (snd_cmp (fun _ _ _ c => eq_ok c) (by kernel_rfl) (snd_bltn (fun _ _ _ c => repr_ok c) (by kernel_rfl) (by decide +kernel) (by decide +kernel) (by decide) (by kernel_rfl) rfl (sndL_cons rfl (snd_call (f := 22) (by kernel_rfl) (List.mem_of_getElem? (i := 24) rfl) rfl (by kernel_rfl) (sndA_cons rfl (snd_var (i := 17) (by kernel_rfl) (by kernel_rfl) (by kernel_rfl) (by kernel_rfl)) (sndA_cons rfl (snd_call (f := 20) (by kernel_rfl) (List.mem_of_getElem? (i := 17) rfl) rfl (by kernel_rfl) (sndA_cons rfl (snd_var (i := 17) (by kernel_rfl) (by kernel_rfl) (by kernel_rfl) (by kernel_rfl)) (sndA_cons rfl (snd_var (i := 16) (by kernel_rfl) (by kernel_rfl) (by kernel_rfl) (by kernel_rfl)) sndA_nil))) sndA_nil))) sndL_nil)) (snd_bltn (fun _ _ _ c => repr_ok c) (by kernel_rfl) (by decide +kernel) (by decide +kernel) (by decide) (by kernel_rfl) rfl (sndL_cons rfl (snd_var (i := 16) (by kernel_rfl) (by kernel_rfl) (by kernel_rfl) (by kernel_rfl)) sndL_nil)))))))))))))))))))))))))))))
theorem fl0 : ∀ p ∈ flds, Str.ofString p.1 ∈ D.cl ∧ (Str.ofString p.1, p.2) ∈ D.na := by decide +kernel
variable {W : Wd}
theorem xb_TooGreat : defBody (inn 3 0) = [supRow [.Name "number" ⟨8, 25, 8, 31⟩] ⟨8, 8, 8, 13⟩ ⟨8, 8, 8, 15⟩ ⟨8, 8, 8, 24⟩ ⟨8, 8, 8, 32⟩ ⟨8, 8, 8, 32⟩, fldRow "self" "number" "number" ⟨9, 8, 9, 12⟩ ⟨9, 8, 9, 19⟩ ⟨9, 22, 9, 28⟩ ⟨9, 8, 9, 28⟩] := by kernel_rfl
theorem x_TooGreat (c : Ctx0 W D) : XOk W.P W.w W.K W.mg W.base "TooGreat" (He.ga W.K (.ofString "TooGreat")) ["number"] :=
  xok1 (d := ⟨"TooGreat", ["number"], "__init__", "TooGreat.__init__", defArgs (inn 3 0), defBody (inn 3 0), defScope (inn 3 0)⟩) (c.xis (List.mem_of_getElem? (i := 0) rfl)) xb_TooGreat rfl (by decide) ⟨by kernel_rfl, by kernel_rfl, by kernel_rfl, by decide +kernel, by kernel_rfl, by decide +kernel, by decide +kernel, by decide +kernel, by decide +kernel⟩ (by kernel_rfl) (by kernel_rfl) (by decide) (by decide) (by decide) (by decide)
    (fun _ _ _ _ _ _ _ us hl => match us, hl with | [_, _], _ => by kernel_rfl)
theorem o_0 (c : Ctx0 W D) : OkFn W T 1 0 (He.fAd W.K ("is_whole", none)) P_0 :=
  okfn c (j := 0) (lw := lw_0) (N := N_0) rfl rfl rfl ⟨by kernel_rfl, by kernel_rfl, by kernel_rfl, by decide +kernel, by kernel_rfl, by decide +kernel, by decide +kernel⟩ rfl s_0
    (fun _ _ _ _ _ _ us hl => match us, hl with | [_], _ => by kernel_rfl) fun A hr => glb_of c rfl rfl rfl all_nil all_nil fl0 all_nil all_nil all_nil
theorem o_1 (c : Ctx0 W D) : OkFn W T 1 1 (He.fAd W.K ("ratio_of", none)) P_1 :=
  okfn c (j := 1) (lw := lw_1) (N := N_1) rfl rfl rfl ⟨by kernel_rfl, by kernel_rfl, by kernel_rfl, by decide +kernel, by kernel_rfl, by decide +kernel, by decide +kernel⟩ rfl s_1
    (fun _ _ _ _ _ _ us hl => match us, hl with | [_, _], _ => by kernel_rfl) fun A hr => glb_of c rfl rfl rfl all_nil all_nil fl0 all_nil all_nil all_nil
theorem o_2 (c : Ctx0 W D) : OkFn W T 3 2 (He.fAd W.K ("is_ratio", none)) P_2 :=
  okfn c (j := 2) (lw := lw_2) (N := N_2) rfl rfl rfl ⟨by kernel_rfl, by kernel_rfl, by kernel_rfl, by decide +kernel, by kernel_rfl, by decide +kernel, by decide +kernel⟩ rfl s_2
    (fun _ _ _ _ _ _ us hl => match us, hl with | [_], _ => by kernel_rfl) fun A hr => glb_of c rfl rfl rfl all_nil all_nil fl0 (all_cons (fnAt c (by decide +kernel) (o_0 c) (hr.mono (by decide))) all_nil) all_nil all_nil
theorem o_3 (c : Ctx0 W D) : OkFn W T 3 3 (He.fAd W.K ("ratio_sum", none)) P_3 :=
  okfn c (j := 3) (lw := lw_3) (N := N_3) rfl rfl rfl ⟨by kernel_rfl, by kernel_rfl, by kernel_rfl, by decide +kernel, by kernel_rfl, by decide +kernel, by decide +kernel⟩ rfl s_3
    (fun _ _ _ _ _ _ us hl => match us, hl with | [_, _], _ => by kernel_rfl) fun A hr => glb_of c rfl rfl rfl all_nil all_nil fl0 (all_cons (fnAt c (by decide +kernel) (o_1 c) (hr.mono (by decide))) all_nil) all_nil all_nil
theorem o_4 (c : Ctx0 W D) : OkFn W T 3 4 (He.fAd W.K ("ratio_less", none)) P_4 :=
  okfn c (j := 4) (lw := lw_4) (N := N_4) rfl rfl rfl ⟨by kernel_rfl, by kernel_rfl, by kernel_rfl, by decide +kernel, by kernel_rfl, by decide +kernel, by decide +kernel⟩ rfl s_4
    (fun _ _ _ _ _ _ us hl => match us, hl with | [_, _], _ => by kernel_rfl) fun A hr => glb_of c rfl rfl rfl all_nil all_nil fl0 (all_cons (fnAt c (by decide +kernel) (o_1 c) (hr.mono (by decide))) all_nil) all_nil all_nil
theorem o_5 (c : Ctx0 W D) : OkFn W T 3 5 (He.fAd W.K ("ratio_product", none)) P_5 :=
  okfn c (j := 5) (lw := lw_5) (N := N_5) rfl rfl rfl ⟨by kernel_rfl, by kernel_rfl, by kernel_rfl, by decide +kernel, by kernel_rfl, by decide +kernel, by decide +kernel⟩ rfl s_5
    (fun _ _ _ _ _ _ us hl => match us, hl with | [_, _], _ => by kernel_rfl) fun A hr => glb_of c rfl rfl rfl all_nil all_nil fl0 (all_cons (fnAt c (by decide +kernel) (o_1 c) (hr.mono (by decide))) all_nil) all_nil all_nil
theorem o_6 (c : Ctx0 W D) : OkFn W T 3 6 (He.fAd W.K ("ratio_quotient", none)) P_6 :=
  okfn c (j := 6) (lw := lw_6) (N := N_6) rfl rfl rfl ⟨by kernel_rfl, by kernel_rfl, by kernel_rfl, by decide +kernel, by kernel_rfl, by decide +kernel, by decide +kernel⟩ rfl s_6
    (fun _ _ _ _ _ _ us hl => match us, hl with | [_, _], _ => by kernel_rfl) fun A hr => glb_of c rfl rfl rfl all_nil all_nil fl0 (all_cons (fnAt c (by decide +kernel) (o_1 c) (hr.mono (by decide))) all_nil) all_nil all_nil
theorem o_7 (c : Ctx0 W D) : OkFn W T 3 7 (He.fAd W.K ("not_long", none)) P_7 :=
  okfn c (j := 7) (lw := lw_7) (N := N_7) rfl rfl rfl ⟨by kernel_rfl, by kernel_rfl, by kernel_rfl, by decide +kernel, by kernel_rfl, by decide +kernel, by decide +kernel⟩ rfl s_7
    (fun _ _ _ _ _ _ us hl => match us, hl with | [_], _ => by kernel_rfl) fun A hr => glb_of c rfl rfl rfl (all_cons (xcAt c (x_TooGreat c) hr (by decide)) all_nil) all_nil fl0 all_nil all_nil all_nil
theorem o_8 (c : Ctx0 W D) : OkFn W T 1 8 (He.fAd W.K ("whole_row", none)) P_8 :=
  okfn c (j := 8) (lw := lw_8) (N := N_8) rfl rfl rfl ⟨by kernel_rfl, by kernel_rfl, by kernel_rfl, by decide +kernel, by kernel_rfl, by decide +kernel, by decide +kernel⟩ rfl s_8
    (fun _ _ _ _ _ _ us hl => match us, hl with | [_], _ => by kernel_rfl) fun A hr => glb_of c rfl rfl rfl all_nil all_nil fl0 all_nil all_nil all_nil
theorem o_9 (c : Ctx0 W D) : OkFn W T 1 9 (He.fAd W.K ("made_small", none)) P_9 :=
  okfn c (j := 9) (lw := lw_9) (N := N_9) rfl rfl rfl ⟨by kernel_rfl, by kernel_rfl, by kernel_rfl, by decide +kernel, by kernel_rfl, by decide +kernel, by decide +kernel⟩ rfl s_9
    (fun _ _ _ _ _ _ us hl => match us, hl with | [_], _ => by kernel_rfl) fun A hr => glb_of c rfl rfl rfl all_nil all_nil fl0 all_nil all_nil all_nil
theorem o_10 (c : Ctx0 W D) : OkFn W T 1 10 (He.fAd W.K ("RowBasis", some "__init__")) P_10 :=
  okfn c (j := 10) (lw := lw_10) (N := N_10) rfl rfl rfl ⟨by kernel_rfl, by kernel_rfl, by kernel_rfl, by decide +kernel, by kernel_rfl, by decide +kernel, by decide +kernel⟩ rfl s_10
    (fun _ _ _ _ _ _ us hl => match us, hl with | [_], _ => by kernel_rfl) fun A hr => glb_of c rfl rfl rfl all_nil all_nil fl0 all_nil all_nil all_nil
theorem o_11 (c : Ctx0 W D) : OkFn W T 1 11 (He.fAd W.K ("RowBasis", some "many")) P_11 :=
  okfn c (j := 11) (lw := lw_11) (N := N_11) rfl rfl rfl ⟨by kernel_rfl, by kernel_rfl, by kernel_rfl, by decide +kernel, by kernel_rfl, by decide +kernel, by decide +kernel⟩ rfl s_11
    (fun _ _ _ _ _ _ us hl => match us, hl with | [_], _ => by kernel_rfl) fun A hr => glb_of c rfl rfl rfl all_nil all_nil fl0 all_nil all_nil all_nil
theorem o_12 (c : Ctx0 W D) : OkFn W T 3 12 (He.fAd W.K ("RowBasis", some "led_down")) P_12 :=
  okfn c (j := 12) (lw := lw_12) (N := N_12) rfl rfl rfl ⟨by kernel_rfl, by kernel_rfl, by kernel_rfl, by decide +kernel, by kernel_rfl, by decide +kernel, by decide +kernel⟩ rfl s_12
    (fun _ _ _ _ _ _ us hl => match us, hl with | [_, _], _ => by kernel_rfl) fun A hr => glb_of c rfl rfl rfl all_nil all_nil fl0 (all_cons (fnAt c (by decide +kernel) (o_9 c) (hr.mono (by decide))) all_nil) (all_cons (metAt c (by decide +kernel) (by decide +kernel) (o_11 c) (hr.mono (by decide))) all_nil) all_nil
theorem o_13 (c : Ctx0 W D) : OkFn W T 5 13 (He.fAd W.K ("RowBasis", some "factors")) P_13 :=
  okfn c (j := 13) (lw := lw_13) (N := N_13) rfl rfl rfl ⟨by kernel_rfl, by kernel_rfl, by kernel_rfl, by decide +kernel, by kernel_rfl, by decide +kernel, by decide +kernel⟩ rfl s_13
    (fun _ _ _ _ _ _ us hl => match us, hl with | [_, _], _ => by kernel_rfl) fun A hr => glb_of c rfl rfl rfl all_nil all_nil fl0 (all_cons (fnAt c (by decide +kernel) (o_8 c) (hr.mono (by decide))) (all_cons (fnAt c (by decide +kernel) (o_1 c) (hr.mono (by decide))) all_nil)) (all_cons (metAt c (by decide +kernel) (by decide +kernel) (o_12 c) (hr.mono (by decide))) all_nil) all_nil
theorem o_14 (c : Ctx0 W D) : OkFn W T 5 14 (He.fAd W.K ("RowBasis", some "put")) P_14 :=
  okfn c (j := 14) (lw := lw_14) (N := N_14) rfl rfl rfl ⟨by kernel_rfl, by kernel_rfl, by kernel_rfl, by decide +kernel, by kernel_rfl, by decide +kernel, by decide +kernel⟩ rfl s_14
    (fun _ _ _ _ _ _ us hl => match us, hl with | [_, _], _ => by kernel_rfl) fun A hr => glb_of c rfl rfl rfl all_nil all_nil fl0 (all_cons (fnAt c (by decide +kernel) (o_8 c) (hr.mono (by decide))) all_nil) (all_cons (metAt c (by decide +kernel) (by decide +kernel) (o_12 c) (hr.mono (by decide))) all_nil) all_nil
theorem o_15 (c : Ctx0 W D) : OkFn W T 5 15 (He.fAd W.K ("row_sum", none)) P_15 :=
  okfn c (j := 15) (lw := lw_15) (N := N_15) rfl rfl rfl ⟨by kernel_rfl, by kernel_rfl, by kernel_rfl, by decide +kernel, by kernel_rfl, by decide +kernel, by decide +kernel⟩ rfl s_15
    (fun _ _ _ _ _ _ us hl => match us, hl with | [_, _], _ => by kernel_rfl) fun A hr => glb_of c rfl rfl rfl all_nil all_nil fl0 (all_cons (fnAt c (by decide +kernel) (o_3 c) (hr.mono (by decide))) all_nil) all_nil all_nil
theorem o_16 (c : Ctx0 W D) : OkFn W T 5 16 (He.fAd W.K ("row_scaled", none)) P_16 :=
  okfn c (j := 16) (lw := lw_16) (N := N_16) rfl rfl rfl ⟨by kernel_rfl, by kernel_rfl, by kernel_rfl, by decide +kernel, by kernel_rfl, by decide +kernel, by decide +kernel⟩ rfl s_16
    (fun _ _ _ _ _ _ us hl => match us, hl with | [_, _], _ => by kernel_rfl) fun A hr => glb_of c rfl rfl rfl all_nil all_nil fl0 (all_cons (fnAt c (by decide +kernel) (o_5 c) (hr.mono (by decide))) all_nil) all_nil all_nil
theorem o_17 (c : Ctx0 W D) : OkFn W T 1 17 (He.fAd W.K ("unit_rows", none)) P_17 :=
  okfn c (j := 17) (lw := lw_17) (N := N_17) rfl rfl rfl ⟨by kernel_rfl, by kernel_rfl, by kernel_rfl, by decide +kernel, by kernel_rfl, by decide +kernel, by decide +kernel⟩ rfl s_17
    (fun _ _ _ _ _ _ us hl => match us, hl with | [_], _ => by kernel_rfl) fun A hr => glb_of c rfl rfl rfl all_nil all_nil fl0 all_nil all_nil all_nil
theorem o_18 (c : Ctx0 W D) : OkFn W T 3 18 (He.fAd W.K ("row_led", none)) P_18 :=
  okfn c (j := 18) (lw := lw_18) (N := N_18) rfl rfl rfl ⟨by kernel_rfl, by kernel_rfl, by kernel_rfl, by decide +kernel, by kernel_rfl, by decide +kernel, by decide +kernel⟩ rfl s_18
    (fun _ _ _ _ _ _ us hl => match us, hl with | [_, _], _ => by kernel_rfl) fun A hr => glb_of c rfl rfl rfl all_nil all_nil fl0 (all_cons (fnAt c (by decide +kernel) (o_8 c) (hr.mono (by decide))) (all_cons (fnAt c (by decide +kernel) (o_1 c) (hr.mono (by decide))) all_nil)) all_nil all_nil
theorem o_19 (c : Ctx0 W D) : OkFn W T 1 19 (He.fAd W.K ("across", none)) P_19 :=
  okfn c (j := 19) (lw := lw_19) (N := N_19) rfl rfl rfl ⟨by kernel_rfl, by kernel_rfl, by kernel_rfl, by decide +kernel, by kernel_rfl, by decide +kernel, by decide +kernel⟩ rfl s_19
    (fun _ _ _ _ _ _ us hl => match us, hl with | [_], _ => by kernel_rfl) fun A hr => glb_of c rfl rfl rfl all_nil all_nil fl0 all_nil all_nil all_nil
theorem o_20 (c : Ctx0 W D) : OkFn W T 5 20 (He.fAd W.K ("column_led", none)) P_20 :=
  okfn c (j := 20) (lw := lw_20) (N := N_20) rfl rfl rfl ⟨by kernel_rfl, by kernel_rfl, by kernel_rfl, by decide +kernel, by kernel_rfl, by decide +kernel, by decide +kernel⟩ rfl s_20
    (fun _ _ _ _ _ _ us hl => match us, hl with | [_, _], _ => by kernel_rfl) fun A hr => glb_of c rfl rfl rfl all_nil all_nil fl0 (all_cons (fnAt c (by decide +kernel) (o_18 c) (hr.mono (by decide))) (all_cons (fnAt c (by decide +kernel) (o_19 c) (hr.mono (by decide))) all_nil)) all_nil all_nil
theorem o_21 (c : Ctx0 W D) : OkFn W T 5 21 (He.fAd W.K ("tables_led", none)) P_21 :=
  okfn c (j := 21) (lw := lw_21) (N := N_21) rfl rfl rfl ⟨by kernel_rfl, by kernel_rfl, by kernel_rfl, by decide +kernel, by kernel_rfl, by decide +kernel, by decide +kernel⟩ rfl s_21
    (fun _ _ _ _ _ _ us hl => match us, hl with | [_, _], _ => by kernel_rfl) fun A hr => glb_of c rfl rfl rfl all_nil all_nil fl0 (all_cons (fnAt c (by decide +kernel) (o_18 c) (hr.mono (by decide))) all_nil) all_nil all_nil
theorem o_22 (c : Ctx0 W D) : OkFn W T 7 22 (He.fAd W.K ("one_solution", none)) P_22 :=
  okfn c (j := 22) (lw := lw_22) (N := N_22) rfl rfl rfl ⟨by kernel_rfl, by kernel_rfl, by kernel_rfl, by decide +kernel, by kernel_rfl, by decide +kernel, by decide +kernel⟩ rfl s_22
    (fun _ _ _ _ _ _ us hl => match us, hl with | [_, _], _ => by kernel_rfl) fun A hr => glb_of c rfl rfl rfl all_nil all_nil fl0 (all_cons (fnAt c (by decide +kernel) (o_19 c) (hr.mono (by decide))) all_nil) (all_cons (metAt c (by decide +kernel) (by decide +kernel) (o_14 c) (hr.mono (by decide))) (all_cons (metAt c (by decide +kernel) (by decide +kernel) (o_13 c) (hr.mono (by decide))) all_nil)) (all_cons (mkAt c rfl (by decide +kernel) (by decide +kernel) (o_10 c) (hr.mono (by decide))) all_nil)
theorem o_23 (c : Ctx0 W D) : OkFn W T 1 23 (He.fAd W.K ("_law_source", none)) P_23 :=
  okfn c (j := 23) (lw := lw_23) (N := N_23) rfl rfl rfl ⟨by kernel_rfl, by kernel_rfl, by kernel_rfl, by decide +kernel, by kernel_rfl, by decide +kernel, by decide +kernel⟩ rfl s_23
    (fun _ _ _ _ _ _ us hl => match us, hl with | [_], _ => by kernel_rfl) fun A hr => glb_of c rfl rfl rfl all_nil all_nil fl0 all_nil all_nil all_nil
theorem o_24 (c : Ctx0 W D) : OkFn W T 1 24 (He.fAd W.K ("_law_pick", none)) P_24 :=
  okfn c (j := 24) (lw := lw_24) (N := N_24) rfl rfl rfl ⟨by kernel_rfl, by kernel_rfl, by kernel_rfl, by decide +kernel, by kernel_rfl, by decide +kernel, by decide +kernel⟩ rfl s_24
    (fun _ _ _ _ _ _ us hl => match us, hl with | [_, _], _ => by kernel_rfl) fun A hr => glb_of c rfl rfl rfl all_nil all_nil fl0 all_nil all_nil all_nil
theorem o_25 (c : Ctx0 W D) : OkFn W T 3 25 (He.fAd W.K ("_law_of", none)) P_25 :=
  okfn c (j := 25) (lw := lw_25) (N := N_25) rfl rfl rfl ⟨by kernel_rfl, by kernel_rfl, by kernel_rfl, by decide +kernel, by kernel_rfl, by decide +kernel, by decide +kernel⟩ rfl s_25
    (fun _ _ _ _ _ _ us hl => match us, hl with | [_, _], _ => by kernel_rfl) fun A hr => glb_of c rfl rfl rfl all_nil all_nil fl0 (all_cons (fnAt c (by decide +kernel) (o_24 c) (hr.mono (by decide))) all_nil) all_nil all_nil
theorem o_26 (c : Ctx0 W D) : OkFn W T 1 26 (He.fAd W.K ("_law_part", none)) P_26 :=
  okfn c (j := 26) (lw := lw_26) (N := N_26) rfl rfl rfl ⟨by kernel_rfl, by kernel_rfl, by kernel_rfl, by decide +kernel, by kernel_rfl, by decide +kernel, by decide +kernel⟩ rfl s_26
    (fun _ _ _ _ _ _ us hl => match us, hl with | [_, _], _ => by kernel_rfl) fun A hr => glb_of c rfl rfl rfl all_nil all_nil fl0 all_nil all_nil all_nil
theorem o_27 (c : Ctx0 W D) : OkFn W T 3 27 (He.fAd W.K ("_law_num", none)) P_27 :=
  okfn c (j := 27) (lw := lw_27) (N := N_27) rfl rfl rfl ⟨by kernel_rfl, by kernel_rfl, by kernel_rfl, by decide +kernel, by kernel_rfl, by decide +kernel, by decide +kernel⟩ rfl s_27
    (fun _ _ _ _ _ _ us hl => match us, hl with | [_, _], _ => by kernel_rfl) fun A hr => glb_of c rfl rfl rfl all_nil all_nil fl0 (all_cons (fnAt c (by decide +kernel) (o_26 c) (hr.mono (by decide))) all_nil) all_nil all_nil
theorem o_28 (c : Ctx0 W D) : OkFn W T 5 28 (He.fAd W.K ("_law_add", none)) P_28 :=
  okfn c (j := 28) (lw := lw_28) (N := N_28) rfl rfl rfl ⟨by kernel_rfl, by kernel_rfl, by kernel_rfl, by decide +kernel, by kernel_rfl, by decide +kernel, by decide +kernel⟩ rfl s_28
    (fun _ _ _ _ _ _ us hl => match us, hl with | [_, _], _ => by kernel_rfl) fun A hr => glb_of c rfl rfl rfl all_nil all_nil fl0 (all_cons (fnAt c (by decide +kernel) (o_27 c) (hr.mono (by decide))) all_nil) all_nil all_nil
theorem o_29 (c : Ctx0 W D) : OkFn W T 5 29 (He.fAd W.K ("_law_mul", none)) P_29 :=
  okfn c (j := 29) (lw := lw_29) (N := N_29) rfl rfl rfl ⟨by kernel_rfl, by kernel_rfl, by kernel_rfl, by decide +kernel, by kernel_rfl, by decide +kernel, by decide +kernel⟩ rfl s_29
    (fun _ _ _ _ _ _ us hl => match us, hl with | [_, _], _ => by kernel_rfl) fun A hr => glb_of c rfl rfl rfl all_nil all_nil fl0 (all_cons (fnAt c (by decide +kernel) (o_27 c) (hr.mono (by decide))) all_nil) all_nil all_nil
theorem o_30 (c : Ctx0 W D) : OkFn W T 5 30 (He.fAd W.K ("_law_drawn", none)) P_30 :=
  okfn c (j := 30) (lw := lw_30) (N := N_30) rfl rfl rfl ⟨by kernel_rfl, by kernel_rfl, by kernel_rfl, by decide +kernel, by kernel_rfl, by decide +kernel, by decide +kernel⟩ rfl s_30
    (fun _ _ _ _ _ _ us hl => match us, hl with | [_], _ => by kernel_rfl) fun A hr => glb_of c rfl rfl rfl all_nil all_nil fl0 (all_cons (fnAt c (by decide +kernel) (o_24 c) (hr.mono (by decide))) (all_cons (fnAt c (by decide +kernel) (o_27 c) (hr.mono (by decide))) all_nil)) all_nil all_nil
theorem o_31 (c : Ctx0 W D) : OkFn W T 3 31 (He.fAd W.K ("_law_is", none)) P_31 :=
  okfn c (j := 31) (lw := lw_31) (N := N_31) rfl rfl rfl ⟨by kernel_rfl, by kernel_rfl, by kernel_rfl, by decide +kernel, by kernel_rfl, by decide +kernel, by decide +kernel⟩ rfl s_31
    (fun _ _ _ _ _ _ us hl => match us, hl with | [_, _, _], _ => by kernel_rfl) fun A hr => glb_of c rfl rfl rfl all_nil all_nil fl0 (all_cons (fnAt c (by decide +kernel) (o_26 c) (hr.mono (by decide))) all_nil) all_nil all_nil
theorem o_32 (c : Ctx0 W D) : OkFn W T 7 32 (He.fAd W.K ("_law_sum", none)) P_32 :=
  okfn c (j := 32) (lw := lw_32) (N := N_32) rfl rfl rfl ⟨by kernel_rfl, by kernel_rfl, by kernel_rfl, by decide +kernel, by kernel_rfl, by decide +kernel, by decide +kernel⟩ rfl s_32
    (fun _ _ _ _ _ _ us hl => match us, hl with | [_], _ => by kernel_rfl) fun A hr => glb_of c rfl rfl rfl all_nil all_nil fl0 (all_cons (fnAt c (by decide +kernel) (o_28 c) (hr.mono (by decide))) all_nil) all_nil all_nil
theorem o_33 (c : Ctx0 W D) : OkFn W T 9 33 (He.fAd W.K ("_law_led", none)) P_33 :=
  okfn c (j := 33) (lw := lw_33) (N := N_33) rfl rfl rfl ⟨by kernel_rfl, by kernel_rfl, by kernel_rfl, by decide +kernel, by kernel_rfl, by decide +kernel, by decide +kernel⟩ rfl s_33
    (fun _ _ _ _ _ _ us hl => match us, hl with | [_, _], _ => by kernel_rfl) fun A hr => glb_of c rfl rfl rfl all_nil all_nil fl0 (all_cons (fnAt c (by decide +kernel) (o_32 c) (hr.mono (by decide))) (all_cons (fnAt c (by decide +kernel) (o_29 c) (hr.mono (by decide))) all_nil)) all_nil all_nil
theorem o_34 (c : Ctx0 W D) : OkFn W T 5 34 (He.fAd W.K ("_law_figures_right", none)) P_34 :=
  okfn c (j := 34) (lw := lw_34) (N := N_34) rfl rfl rfl ⟨by kernel_rfl, by kernel_rfl, by kernel_rfl, by decide +kernel, by kernel_rfl, by decide +kernel, by decide +kernel⟩ rfl s_34
    (fun _ _ _ _ _ _ us hl => match us, hl with | [_], _ => by kernel_rfl) fun A hr => glb_of c rfl rfl rfl (all_cons (xcAt c (x_TooGreat c) hr (by decide)) all_nil) (all_cons (c.exm (by decide +kernel)) all_nil) fl0 (all_cons (fnAt c (by decide +kernel) (o_24 c) (hr.mono (by decide))) (all_cons (fnAt c (by decide +kernel) (o_7 c) (hr.mono (by decide))) all_nil)) all_nil all_nil
theorem o_35 (c : Ctx0 W D) : OkFn W T 11 35 (He.fAd W.K ("law", none)) P_35 :=
  okfn c (j := 35) (lw := lw_35) (N := N_35) rfl rfl rfl ⟨by kernel_rfl, by kernel_rfl, by kernel_rfl, by decide +kernel, by kernel_rfl, by decide +kernel, by decide +kernel⟩ rfl s_35
    (fun _ _ _ _ _ _ us hl => match us, hl with | [_], _ => by kernel_rfl) fun A hr => glb_of c rfl rfl rfl all_nil all_nil fl0 (all_cons (fnAt c (by decide +kernel) (o_23 c) (hr.mono (by decide))) (all_cons (fnAt c (by decide +kernel) (o_30 c) (hr.mono (by decide))) (all_cons (fnAt c (by decide +kernel) (o_31 c) (hr.mono (by decide))) (all_cons (fnAt c (by decide +kernel) (o_3 c) (hr.mono (by decide))) (all_cons (fnAt c (by decide +kernel) (o_4 c) (hr.mono (by decide))) (all_cons (fnAt c (by decide +kernel) (o_5 c) (hr.mono (by decide))) (all_cons (fnAt c (by decide +kernel) (o_6 c) (hr.mono (by decide))) (all_cons (fnAt c (by decide +kernel) (o_24 c) (hr.mono (by decide))) (all_cons (fnAt c (by decide +kernel) (o_25 c) (hr.mono (by decide))) (all_cons (fnAt c (by decide +kernel) (o_1 c) (hr.mono (by decide))) (all_cons (fnAt c (by decide +kernel) (o_27 c) (hr.mono (by decide))) (all_cons (fnAt c (by decide +kernel) (o_2 c) (hr.mono (by decide))) (all_cons (fnAt c (by decide +kernel) (o_34 c) (hr.mono (by decide))) (all_cons (fnAt c (by decide +kernel) (o_18 c) (hr.mono (by decide))) (all_cons (fnAt c (by decide +kernel) (o_33 c) (hr.mono (by decide))) (all_cons (fnAt c (by decide +kernel) (o_32 c) (hr.mono (by decide))) (all_cons (fnAt c (by decide +kernel) (o_29 c) (hr.mono (by decide))) (all_cons (fnAt c (by decide +kernel) (o_20 c) (hr.mono (by decide))) (all_cons (fnAt c (by decide +kernel) (o_21 c) (hr.mono (by decide))) (all_cons (fnAt c (by decide +kernel) (o_19 c) (hr.mono (by decide))) (all_cons (fnAt c (by decide +kernel) (o_16 c) (hr.mono (by decide))) (all_cons (fnAt c (by decide +kernel) (o_15 c) (hr.mono (by decide))) (all_cons (fnAt c (by decide +kernel) (o_28 c) (hr.mono (by decide))) (all_cons (fnAt c (by decide +kernel) (o_17 c) (hr.mono (by decide))) (all_cons (fnAt c (by decide +kernel) (o_22 c) (hr.mono (by decide))) all_nil))))))))))))))))))))))))) all_nil all_nil
end K07
end
section
set_option Elab.async false
set_option linter.all false
set_option maxRecDepth 100000
set_option maxHeartbeats 0
namespace K07
open PySem PySem.Spec PyProof.Rows L2 Cv
abbrev R : PySem.W.OpenRow := PySem.W.OpenLaw.row PySem.Challenge.rw_copiedcurves_k07_fractions_by_cross_prod
abbrev hk : PySem.W.Hook := D.hook 5
def ob (s : PySem.W.SharedT) : AlL := D.obsG 5 (HandSHeadRun.getT s)
theorem ob_eq (s : PySem.W.SharedT) : ob s = hk.obs s.abs := LawD.obsG_eq (HandSHeadRun.getT_eq s)
def loose0 : List Str := ["__name__", "CurveError", "TooGreat", "MOST_FIGURES", "LONG_NUMBER", "NONE", "ONE", "is_whole", "ratio_of", "is_ratio", "ratio_sum", "ratio_less", "ratio_product", "ratio_quotient", "not_long", "whole_row", "made_small", "RowBasis", "row_sum", "row_scaled", "unit_rows", "row_led", "across", "column_led", "tables_led", "one_solution", "_law_source", "_law_pick", "_law_of", "_law_part"]
def loose1 : List Str := ["_law_num", "_law_add", "_law_mul", "_law_drawn", "_law_is", "_law_sum", "_law_led", "_law_figures_right"]
def loose : List Str := loose0 ++ loose1
theorem run (w : World) : HandSHeadRun.RunEqI R (PySem.W.view R.prog [0, 43]) hk ob 2000 loose w := by
  unfold HandSHeadRun.RunEqI
  kernel_rfl
end K07
open PySem PySem.W PySem.Calls PyProof.Rows
theorem K07.holds_of (ht : ∀ ns : List Int, ns.length ≤ 63 → (∀ k ∈ ns, Builtin.Int.intBits k ≤ 1048576) → ∃ gh, K07.T 35 [.scr ns] [] = .ok (.bl true) gh) : PySem.Challenge.rw_copiedcurves_k07_fractions_by_cross_prod.Holds := by
  w_on; o_law
  refine HandSHeadRun.head_imp (r := OpenLaw.row PySem.Challenge.rw_copiedcurves_k07_fractions_by_cross_prod) (q := view (OpenLaw.row PySem.Challenge.rw_copiedcurves_k07_fractions_by_cross_prod).prog [0, 43]) (H := K07.hk) (ob := K07.ob) (M := 2000) (loose := K07.loose) (d := HandSHeadRun.topDef (OpenLaw.row PySem.Challenge.rw_copiedcurves_k07_fractions_by_cross_prod).prog 43) (kwd := []) K07.ob_eq
    K07.run (by kernel_rfl) (by kernel_rfl) (by kernel_rfl) (by rfl) (by first | assumption | decide +kernel) (by decide +kernel) ⟨rfl, rfl, rfl, rfl, rfl, by decide +kernel⟩ ?hw ?hc
  case hw => w_witness2
  case hc =>
    refine Cv.walk_G (l := PySem.Challenge.rw_copiedcurves_k07_fractions_by_cross_prod) (n := 63) (k := 11) (i := 35) (x := "script") (T := K07.T) (cl := fun K c => He.ga K (.ofString c)) rfl (by decide) (by kernel_rfl) ⟨rfl, by decide, by decide⟩ ?F ht
    intro w mg fa h Y G hmg0
    obtain ⟨K, KX, c⟩ := Y
    have hmg : mg ("law" : PySem.Str) = some (.ref fa) := by
      have e : (HandSHeadRun.topDef (OpenLaw.row PySem.Challenge.rw_copiedcurves_k07_fractions_by_cross_prod).prog 43).name = ("law" : PySem.Str) := by kernel_rfl
      rw [← e]
      exact hmg0
    have c0 : ∀ base : Heap, K.In base → base.Ns mainGlobals mg → Cv.Ctx0 ⟨PySem.Challenge.rw_copiedcurves_k07_fractions_by_cross_prod.prog, w, K, mg, base, fun c => He.ga K (.ofString c)⟩ K07.D := fun base k1 k2 => ⟨c, k1, k2, fun _ => rfl, fun _ => ⟨by kernel_rfl, by kernel_rfl⟩⟩
    have hfa : fa = He.ga K "law" := by
      have := He.glo_ok KX G ((Cv.xs_all (c0 h KX G)).1 "law" (by decide +kernel))
      rw [hmg] at this
      exact (PySem.Value.ref.inj (Option.some.inj this))
    subst hfa
    obtain ⟨fd, h1, h2, h3, h4, h5, oc, od, osl, h6⟩ := K07.o_35 (c0 h KX G)
    refine ⟨K, fd, KX, fun s u => h5 s [u] rfl, fun base k1 k2 => ?_⟩
    obtain ⟨fd', g1, g2, g3, g4, g5, oc', od', osl', g6⟩ := K07.o_35 (c0 base k1 k2)
    have e := h6.symm.trans g6
    injection e with e
    injection e with _ _ e
    injection e with e
    subst e
    exact g1
end
open PySem PySem.W PySem.Calls PyProof.Rows
theorem PySem.Challenge.cw_copiedcurves_k07_fractions_by_cross_prod_holds : PySem.Challenge.rw_copiedcurves_k07_fractions_by_cross_prod.Holds := by
  exact K07.holds_of K07.law_true
