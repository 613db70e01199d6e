import PyProof.Rows.All
import Wide.All
import OpenK.AllK
import Wide.FinOn
import PySem.Challenge.RW_wholeback_k77_ledgers_told
import HandS.ForMost
import HandS.ForExc
import HandS.SetKeys
import KE.KEqNest
import HandS.TupAny
import HandS.Wide
import HandS.Star
import HandS.IsInst
import HandS.Property
import HandS.TupLen
import HandS.Style
import HandS.Walk
import HandS.Zip
import HandS.CallSlots
import HandS.Defaults
import HandS.More
import HandS.List
import HandS.Small
import HandS.DictTup
import HandS.Comp
import HandS.Text
import HandS.DictComp
import HandS.TupMul
import HandS.SetFor
import PyProof.Rows.SetFrom
import HandS.ListItems
import KE.GoesEnum
import KE.GoesMore
import HandS.Conv
import PyProof.DictMoreH
import HandS.TupSets
import HandS.Keys
import KE.KDictPairs
import HandS.DictEq
import PyProof.DictTable
import HandS.HeadHook4
import HandS.HeadHook2
import HandS.Head0
import HandS.Head1
import HandS.Head2
import HandS.HeadEnd
set_option Elab.async false
set_option linter.all false
namespace DL
open PySem L2
inductive Kx where
  | k (x : Key) | t (xs : List Key)
  deriving DecidableEq
inductive D where
  | non | bl (b : Bool) | int (i : Int) | str (s : Str) | ty (n : String) | cls (c : Nat)
  | tup (ds : List D) | lst (ds : List D) | dct (ks : List Kx) (vs : List D) | ins (c : Nat) (ns : List Str) (vs : List D)
  /-- the script: read, never written -/
  | scr (ds : List D)
  /-- a tuple that the text's top has written -/
  | ktup (ds : List D)
  /-- a set of ints and texts -/
  | set (ks : List Key)
  /-- an instance, a dict whose fields are objects of their own: nothing is told of them -/
  | insN (c : Nat) (ns : List Str) | dctN
inductive U where
  | fr (d : D) | lst (ds : List D) | dct (ks : List Kx) (vs : List D)
def U.own : U → Bool
  | .fr _ => false
  | _ => true
def U.view : U → D
  | .fr d => d
  | .lst ds => .lst ds
  | .dct ks vs => .dct ks vs
inductive T where
  | fr (d : D) | lst (ds : List D) | dct (ks : List Kx) (vs : List D) | ins (c : Nat) (ns : List Str) (vs : List D)
  /-- an instance, a dict with parts of their own -/
  | insN (c : Nat) (ns : List Str) (us : List U) | dctN (ks : List Key) (us : List U)
def T.view : T → D
  | .fr d => d
  | .lst ds => .lst ds
  | .dct ks vs => .dct ks vs
  | .ins c ns vs => .ins c ns vs
  | .insN c ns _ => .insN c ns
  | .dctN _ _ => .dctN
def T.frz : T → D
  | .insN c ns us => .ins c ns (us.map U.view)
  | .dctN ks us => .dct (ks.map .k) (us.map U.view)
  | t => t.view
def T.parts : T → List U
  | .insN _ _ us => us
  | .dctN _ us => us
  | _ => []
def T.own : T → Bool
  | .fr _ => false
  | _ => true
inductive Rv where
  | tmp (t : T) | slot (i : Nat) | sub (i k : Nat)
abbrev En := List (Option T)
abbrev G := V × List V
instance : Coe V G := ⟨fun v => (v, [])⟩
abbrev Sg := List (Option G)
def unG (σ : Sg) : L2.St := σ.map (Option.map Prod.fst)
def U.toT : U → T
  | .fr d => .fr d
  | .lst ds => .lst ds
  | .dct ks vs => .dct ks vs
def T.nst : T → Bool
  | .insN _ _ _ => true
  | .dctN _ _ => true
  | _ => false
structure Ex where
  c : Nat
  ns : List Str
  vs : List D
inductive Res (α : Type) where
  | ok (a : α) (S : En) | exc (x : Ex) (S : En) | stuck
abbrev M (α : Type) := En → Res α
def M.bind {α β : Type} (m : M α) (f : α → M β) : M β := fun S => match m S with
  | .ok a S' => f a S'
  | .exc x S' => .exc x S'
  | .stuck => .stuck
def M.ret {α : Type} (a : α) : M α := fun S => .ok a S
instance : Monad M where
  pure := M.ret
  bind := M.bind
def viewR (r : Rv) (S : En) : Option D := match r with
  | .tmp t => .some t.view
  | .slot i => match S[i]? with
    | .some (.some t) => .some t.view
    | _ => .none
  | .sub i k => match S[i]? with
    | .some (.some t) => t.parts[k]?.map U.view
    | _ => .none
structure Kt where
  K : PySem.W.Frag
  cA : Nat → Addr
  P : Program
  w : World
def hasK (ks : List Key) (k : Key) : Bool := ks.any fun j => decide (j = k)
def WrT (K : PySem.W.Frag) (a : Addr) (xs : List V) : Prop := ∃ (o : Obj) (its : Array Value) (n : Nat), K.lookup a = some o ∧ o.cls = .type "tuple" ∧ o.data = .seq its n ∧ its.size ≤ sizeLine ∧ Vals xs its.toList
theorem WrT.sq {K : PySem.W.Frag} {H : Hp} {a : Addr} {xs : List V} (h : WrT K a xs) : SqT K H a xs := .inr h
mutual
inductive DV (κ : Kt) (H : Hp) (Av : Addr → Prop) : V → D → Prop
  | non : DV κ H Av .non .non
  | bl (b : Bool) : DV κ H Av (.bl b) (.bl b)
  | int (i : Int) : DV κ H Av (.int i) (.int i)
  | str (x : Str) : DV κ H Av (.str x) (.str x)
  | ty (n : String) : DV κ H Av (.ty n) (.ty n)
  | cls (c : Nat) : DV κ H Av (.ref (κ.cA c)) (.cls c)
  | tup {a : Addr} {xs : List V} {ds : List D} : H a = some (.tup xs) → ¬ Av a → DVs κ H Av xs ds → DV κ H Av (.ref a) (.tup ds)
  | tup0 {a : Addr} : WrT κ.K a [] → DV κ H Av (.ref a) (.tup [])
  | ktup {a : Addr} {xs : List V} {ds : List D} : WrT κ.K a xs → DVs κ H Av xs ds → DV κ H Av (.ref a) (.ktup ds)
  | lst {a : Addr} {xs : List V} {ds : List D} : H a = some (.lst xs) → ¬ Av a → DVs κ H Av xs ds → DV κ H Av (.ref a) (.lst ds)
  | scr {a : Addr} {o : Obj} {xs : List V} {ds : List D} : H a = some (.frz o (.lst xs)) → ¬ Av a → DVs κ H Av xs ds → DV κ H Av (.ref a) (.scr ds)
  | dK {a : Addr} {kvs : List (Key × V)} {vs : List D} : Rd H a (.dK kvs) → ¬ Av a → DVs κ H Av (kvs.map (·.2)) vs → DV κ H Av (.ref a) (.dct (kvs.map fun p => .k p.1) vs)
  | dT {a : Addr} {kvs : List (List Key × V)} {vs : List D} : kvs ≠ [] → Rd H a (.dT kvs) → ¬ Av a → DVs κ H Av (kvs.map (·.2)) vs → DV κ H Av (.ref a) (.dct (kvs.map fun p => .t p.1) vs)
  | ins {a dx : Addr} {c : Nat} {fs : List (Str × V)} {vs : List D} : H a = some (.ins (κ.cA c) dx fs) → ¬ Av a → DVs κ H Av (fs.map (·.2)) vs → DV κ H Av (.ref a) (.ins c (fs.map (·.1)) vs)
  | set {a : Addr} {ks : List Key} : H a = some (SetK κ.P κ.w a (hasK ks) ks.length) → ¬ Av a → DV κ H Av (.ref a) (.set ks)
  | insN {a dx : Addr} {c : Nat} {fs : List (Str × V)} : H a = some (.ins (κ.cA c) dx fs) → ¬ Av a → DV κ H Av (.ref a) (.insN c (fs.map (·.1)))
  | dctN {a : Addr} {kvs : List (Key × V)} : Rd H a (.dK kvs) → ¬ Av a → DV κ H Av (.ref a) .dctN
inductive DVs (κ : Kt) (H : Hp) (Av : Addr → Prop) : List V → List D → Prop
  | nil : DVs κ H Av [] []
  | cons {v : V} {vs : List V} {d : D} {ds : List D} : DV κ H Av v d → DVs κ H Av vs ds → DVs κ H Av (v :: vs) (d :: ds)
end
section
variable {κ : Kt} {H H' : Hp} {Av Av' : Addr → Prop}
mutual
theorem DV.mono (k : ∀ b o, H b = some o → ¬ Av b → H' b = some o) (k2 : ∀ b, H b ≠ none → ¬ Av b → ¬ Av' b) : ∀ {v : V} {d : D}, DV κ H Av v d → DV κ H' Av' v d
  | _, _, .non => .non
  | _, _, .bl b => .bl b
  | _, _, .int i => .int i
  | _, _, .str x => .str x
  | _, _, .ty n => .ty n
  | _, _, .cls c => .cls c
  | _, _, .tup r na h => .tup (k _ _ r na) (k2 _ (by simp [r]) na) (DVs.mono k k2 h)
  | _, _, .tup0 r => .tup0 r
  | _, _, .ktup r h => .ktup r (DVs.mono k k2 h)
  | _, _, .lst r na h => .lst (k _ _ r na) (k2 _ (by simp [r]) na) (DVs.mono k k2 h)
  | _, _, .scr r na h => .scr (k _ _ r na) (k2 _ (by simp [r]) na) (DVs.mono k k2 h)
  | _, _, .dK r na h => .dK (r.imp (fun e => k _ _ e na) fun ⟨o, e⟩ => ⟨o, k _ _ e na⟩) (k2 _ (by rcases r with e | ⟨o, e⟩ <;> simp [e]) na) (DVs.mono k k2 h)
  | _, _, .dT z r na h => .dT z (r.imp (fun e => k _ _ e na) fun ⟨o, e⟩ => ⟨o, k _ _ e na⟩) (k2 _ (by rcases r with e | ⟨o, e⟩ <;> simp [e]) na) (DVs.mono k k2 h)
  | _, _, .ins r na h => .ins (k _ _ r na) (k2 _ (by simp [r]) na) (DVs.mono k k2 h)
  | _, _, .set r na => .set (k _ _ r na) (k2 _ (by simp [r]) na)
  | _, _, .insN r na => .insN (k _ _ r na) (k2 _ (by simp [r]) na)
  | _, _, .dctN r na => .dctN (r.imp (fun e => k _ _ e na) fun ⟨o, e⟩ => ⟨o, k _ _ e na⟩) (k2 _ (by rcases r with e | ⟨o, e⟩ <;> simp [e]) na)
theorem DVs.mono (k : ∀ b o, H b = some o → ¬ Av b → H' b = some o) (k2 : ∀ b, H b ≠ none → ¬ Av b → ¬ Av' b) : ∀ {vs : List V} {ds : List D}, DVs κ H Av vs ds → DVs κ H' Av' vs ds
  | _, _, .nil => .nil
  | _, _, .cons h t => .cons (DV.mono k k2 h) (DVs.mono k k2 t)
end
theorem DV.same {v : V} {d : D} (h : DV κ H Av v d) (s : Same H H') : DV κ H' Av v d := h.mono (fun b o e _ => s b o e) fun _ _ n => n
theorem DV.less {v : V} {d : D} (h : DV κ H Av v d) (s : ∀ b, Av' b → Av b) : DV κ H Av' v d := h.mono (fun b o e _ => e) fun b _ n z => n (s b z)
theorem DVs.less {v : List V} {d : List D} (h : DVs κ H Av v d) (s : ∀ b, Av' b → Av b) : DVs κ H Av' v d := h.mono (fun b o e _ => e) fun b _ n z => n (s b z)
theorem DVs.length : ∀ {vs : List V} {ds : List D}, DVs κ H Av vs ds → vs.length = ds.length
  | _, _, .nil => rfl
  | _, _, .cons _ t => congrArg (· + 1) (DVs.length t)
theorem DVs.get : ∀ {vs : List V} {ds : List D} {i : Nat} {d : D}, DVs κ H Av vs ds → ds[i]? = some d → ∃ v, vs[i]? = some v ∧ DV κ H Av v d
  | _, _, _, _, .nil, e => by simp at e
  | _, _, 0, _, .cons h _, e => by simp at e; subst e; exact ⟨_, rfl, h⟩
  | _, _, i + 1, d, .cons _ t, e => by
    obtain ⟨v, h1, h2⟩ := DVs.get (i := i) (d := d) t (by simpa using e)
    exact ⟨v, by simpa using h1, h2⟩
theorem DVs.app : ∀ {vs ws : List V} {ds es : List D}, DVs κ H Av vs ds → DVs κ H Av ws es → DVs κ H Av (vs ++ ws) (ds ++ es)
  | _, _, _, _, .nil, s => s
  | _, _, _, _, .cons h t, s => .cons h (DVs.app t s)
theorem DVs.set {v : V} {d : D} (h : DV κ H Av v d) : ∀ {vs : List V} {ds : List D} (i : Nat), DVs κ H Av vs ds → DVs κ H Av (vs.set i v) (ds.set i d)
  | _, _, _, .nil => .nil
  | _, _, 0, .cons _ t => .cons h t
  | _, _, i + 1, .cons g t => .cons g (DVs.set h i t)
theorem DVs.take : ∀ {vs : List V} {ds : List D} (n : Nat), DVs κ H Av vs ds → DVs κ H Av (vs.take n) (ds.take n)
  | _, _, 0, _ => .nil
  | _, _, _ + 1, .nil => .nil
  | _, _, n + 1, .cons h t => .cons h (DVs.take n t)
theorem DVs.drop : ∀ {vs : List V} {ds : List D} (n : Nat), DVs κ H Av vs ds → DVs κ H Av (vs.drop n) (ds.drop n)
  | _, _, 0, h => h
  | _, _, _ + 1, .nil => .nil
  | _, _, n + 1, .cons _ t => DVs.drop n t
def PR (κ : Kt) (H : Hp) (Av : Addr → Prop) (v : V) : U → Prop
  | .fr d => DV κ H Av v d
  | .lst ds => ∃ a xs, v = .ref a ∧ H a = some (.lst xs) ∧ DVs κ H Av xs ds
  | .dct ks vs => ∃ a, v = .ref a ∧ ((∃ kvs : List (Key × V), H a = some (.dK kvs) ∧ ks = kvs.map (fun p => Kx.k p.1) ∧ DVs κ H Av (kvs.map (·.2)) vs) ∨ ∃ kvs : List (List Key × V), kvs ≠ [] ∧ H a = some (.dT kvs) ∧ ks = kvs.map (fun p => Kx.t p.1) ∧ DVs κ H Av (kvs.map (·.2)) vs)
structure Dst (a : Addr) (ws : List V) (us : List U) : Prop where
  root : ∀ (k : Nat) (u : U), us[k]? = some u → u.own = true → ws[k]? ≠ some (.ref a)
  inj : ∀ (j k : Nat) (u w : U) (p : Addr), us[j]? = some u → u.own = true → us[k]? = some w → w.own = true → ws[j]? = some (.ref p) → ws[k]? = some (.ref p) → j = k
def TR (κ : Kt) (H : Hp) (Av : Addr → Prop) (v : V) : T → Prop
  | .fr d => DV κ H Av v d
  | .lst ds => ∃ a xs, v = .ref a ∧ H a = some (.lst xs) ∧ DVs κ H Av xs ds
  | .dct ks vs => ∃ a, v = .ref a ∧ ((∃ kvs : List (Key × V), H a = some (.dK kvs) ∧ ks = kvs.map (fun p => Kx.k p.1) ∧ DVs κ H Av (kvs.map (·.2)) vs) ∨ ∃ kvs : List (List Key × V), kvs ≠ [] ∧ H a = some (.dT kvs) ∧ ks = kvs.map (fun p => Kx.t p.1) ∧ DVs κ H Av (kvs.map (·.2)) vs)
  | .ins c ns vs => ∃ a dx fs, v = .ref a ∧ H a = some (.ins (κ.cA c) dx fs) ∧ ns = fs.map (·.1) ∧ DVs κ H Av (fs.map (·.2)) vs
  | .insN c ns us => ∃ a dx fs, v = .ref a ∧ H a = some (.ins (κ.cA c) dx fs) ∧ ns = fs.map (·.1) ∧ Paired (PR κ H Av) (fs.map (·.2)) us ∧ Dst a (fs.map (·.2)) us
  | .dctN ks us => ∃ a kvs, v = .ref a ∧ H a = some (.dK kvs) ∧ ks = kvs.map (·.1) ∧ Paired (PR κ H Av) (kvs.map (·.2)) us ∧ Dst a (kvs.map (·.2)) us
def TR0 (κ : Kt) (H : Hp) (Av : Addr → Prop) (v : V) : T → Prop
  | .fr d => DV κ H Av v d
  | .lst ds => ∃ a xs, v = .ref a ∧ H a = some (.lst xs) ∧ DVs κ H Av xs ds
  | .dct ks vs => ∃ a, v = .ref a ∧ ((∃ kvs : List (Key × V), H a = some (.dK kvs) ∧ ks = kvs.map (fun p => Kx.k p.1) ∧ DVs κ H Av (kvs.map (·.2)) vs) ∨ ∃ kvs : List (List Key × V), kvs ≠ [] ∧ H a = some (.dT kvs) ∧ ks = kvs.map (fun p => Kx.t p.1) ∧ DVs κ H Av (kvs.map (·.2)) vs)
  | .ins c ns vs => ∃ a dx fs, v = .ref a ∧ H a = some (.ins (κ.cA c) dx fs) ∧ ns = fs.map (·.1) ∧ DVs κ H Av (fs.map (·.2)) vs
  | _ => False
theorem TR0.toR {v : V} {t : T} (h : TR0 κ H Av v t) : TR κ H Av v t := by cases t <;> first | exact h | exact h.elim
theorem TR0.pl {v : V} {t : T} (h : TR0 κ H Av v t) : t.nst = false := by cases t <;> first | rfl | exact h.elim
def Gh (H : Hp) (g : G) : T → Prop
  | .insN _ _ _ => ∀ a C dx fs, g.1 = .ref a → H a = some (.ins C dx fs) → g.2 = fs.map (·.2)
  | .dctN _ _ => ∀ a kvs, g.1 = .ref a → H a = some (.dK kvs) → g.2 = kvs.map (·.2)
  | _ => True
def Fp (t : T) (g : G) (a : Addr) : Prop := t.own = true ∧ (g.1 = .ref a ∨ ∃ (k : Nat) (u : U), t.parts[k]? = some u ∧ u.own = true ∧ g.2[k]? = some (.ref a))
structure TRG (κ : Kt) (H : Hp) (Av : Addr → Prop) (g : G) (t : T) : Prop where
  tr : TR κ H Av g.1 t
  gh : Gh H g t
theorem Fp.own {t : T} {g : G} {a : Addr} (h : Fp t g a) : t.own = true := h.1
theorem Fp.plain {t : T} {g : G} {a : Addr} (h : Fp t g a) (n : t.nst = false) : g.1 = .ref a := by
  rcases h.2 with h | ⟨k, u, e, _⟩
  · exact h
  · cases t with
    | insN => cases n
    | dctN => cases n
    | _ => simp [T.parts] at e
theorem TRG.of {v : V} {t : T} (h : TR κ H Av v t) (n : t.nst = false) : TRG κ H Av (v, []) t := ⟨h, by cases t <;> first | exact True.intro | cases n⟩
theorem PR.ref {v : V} {u : U} (h : PR κ H Av v u) (o : u.own = true) : ∃ a w, v = .ref a ∧ H a = some w ∧ ∀ xs, w ≠ .tup xs := by
  cases u with
  | fr d => cases o
  | lst ds => obtain ⟨a, xs, e, h, _⟩ := h; exact ⟨a, _, e, h, fun _ => nofun⟩
  | dct ks vs => obtain ⟨a, e, ⟨kvs, h, _⟩ | ⟨kvs, _, h, _⟩⟩ := h <;> exact ⟨a, _, e, h, fun _ => nofun⟩
theorem PR.mono {v : V} {u : U} (h : PR κ H Av v u) (ko : u.own = true → ∀ a o, v = .ref a → H a = some o → H' a = some o) (k : ∀ b o, H b = some o → ¬ Av b → H' b = some o) (k2 : ∀ b, H b ≠ none → ¬ Av b → ¬ Av' b) : PR κ H' Av' v u := by
  cases u with
  | fr d => exact DV.mono k k2 h
  | lst ds => obtain ⟨a, xs, e, h, r⟩ := h; exact ⟨a, xs, e, ko rfl a _ e h, r.mono k k2⟩
  | dct ks vs =>
    obtain ⟨a, e, ⟨kvs, h, q, r⟩ | ⟨kvs, z, h, q, r⟩⟩ := h
    · exact ⟨a, e, .inl ⟨kvs, ko rfl a _ e h, q, r.mono k k2⟩⟩
    · exact ⟨a, e, .inr ⟨kvs, z, ko rfl a _ e h, q, r.mono k k2⟩⟩
theorem PRs.mono : ∀ {ws : List V} {us : List U}, Paired (PR κ H Av) ws us → (∀ (i : Nat) (u : U) (a : Addr) (o : HO), us[i]? = some u → u.own = true → ws[i]? = some (.ref a) → H a = some o → H' a = some o) → (∀ b o, H b = some o → ¬ Av b → H' b = some o) → (∀ b, H b ≠ none → ¬ Av b → ¬ Av' b) → Paired (PR κ H' Av') ws us
  | _, _, .nil, _, _, _ => .nil
  | _, _, .cons h t, ko, k, k2 => .cons (h.mono (fun ho a o e q => ko 0 _ a o rfl ho (by rw [← e]; rfl) q) k k2) (PRs.mono t (fun i u a o e1 e2 e3 e4 => ko (i + 1) u a o e1 e2 e3 e4) k k2)
theorem PR.freeze {v : V} {u : U} (h : PR κ H Av v u) (hs : ∀ b, Av' b → Av b) (hv : ∀ a, u.own = true → v = .ref a → ¬ Av' a) : DV κ H Av' v u.view := by
  cases u with
  | fr d => exact DV.less h hs
  | lst ds => obtain ⟨a, xs, e, h, r⟩ := h; subst e; exact .lst h (hv a rfl rfl) (r.less hs)
  | dct ks vs =>
    obtain ⟨a, e, ⟨kvs, h, q, r⟩ | ⟨kvs, z, h, q, r⟩⟩ := h
    · subst e; subst q; exact .dK (.inl h) (hv a rfl rfl) (r.less hs)
    · subst e; subst q; exact .dT z (.inl h) (hv a rfl rfl) (r.less hs)
theorem PRs.freeze (hs : ∀ b, Av' b → Av b) : ∀ {ws : List V} {us : List U}, Paired (PR κ H Av) ws us → (∀ (i : Nat) (u : U) (a : Addr), us[i]? = some u → u.own = true → ws[i]? = some (.ref a) → ¬ Av' a) → DVs κ H Av' ws (us.map U.view)
  | _, _, .nil, _ => .nil
  | _, _, .cons h t, hv => .cons (h.freeze hs fun a ho e => hv 0 _ a rfl ho (by rw [← e]; rfl)) (PRs.freeze hs t fun i u a e1 e2 e3 => hv (i + 1) u a e1 e2 e3)
theorem PR.toT {v : V} {u : U} (h : PR κ H Av v u) : TR κ H Av v u.toT := by cases u <;> exact h
theorem U.toT_view (u : U) : u.toT.view = u.view := by cases u <;> rfl
theorem U.toT_own (u : U) : u.toT.own = u.own := by cases u <;> rfl
theorem TR.ref {v : V} {t : T} (h : TR κ H Av v t) (o : t.own = true) : ∃ a u, v = .ref a ∧ H a = some u ∧ ∀ xs, u ≠ .tup xs := by
  cases t with
  | fr d => cases o
  | lst ds => obtain ⟨a, xs, e, h, _⟩ := h; exact ⟨a, _, e, h, fun _ => nofun⟩
  | dct ks vs => obtain ⟨a, e, ⟨kvs, h, _⟩ | ⟨kvs, _, h, _⟩⟩ := h <;> exact ⟨a, _, e, h, fun _ => nofun⟩
  | ins c ns vs => obtain ⟨a, dx, fs, e, h, _⟩ := h; exact ⟨a, _, e, h, fun _ => nofun⟩
  | insN c ns us => obtain ⟨a, dx, fs, e, h, _⟩ := h; exact ⟨a, _, e, h, fun _ => nofun⟩
  | dctN ks us => obtain ⟨a, kvs, e, h, _⟩ := h; exact ⟨a, _, e, h, fun _ => nofun⟩
theorem TR.mono0 {v : V} {t : T} (h : TR κ H Av v t) (hn : t.nst = false) (ko : t.own = true → ∀ a o, v = .ref a → H a = some o → H' a = some o) (k : ∀ b o, H b = some o → ¬ Av b → H' b = some o) (k2 : ∀ b, H b ≠ none → ¬ Av b → ¬ Av' b) : TR κ H' Av' v t := by
  cases t with
  | fr d => exact DV.mono k k2 h
  | lst ds => obtain ⟨a, xs, e, h, r⟩ := h; exact ⟨a, xs, e, ko rfl a _ e h, r.mono k k2⟩
  | dct ks vs =>
    obtain ⟨a, e, ⟨kvs, h, q, r⟩ | ⟨kvs, z, h, q, r⟩⟩ := h
    · exact ⟨a, e, .inl ⟨kvs, ko rfl a _ e h, q, r.mono k k2⟩⟩
    · exact ⟨a, e, .inr ⟨kvs, z, ko rfl a _ e h, q, r.mono k k2⟩⟩
  | ins c ns vs => obtain ⟨a, dx, fs, e, h, q, r⟩ := h; exact ⟨a, dx, fs, e, ko rfl a _ e h, q, r.mono k k2⟩
  | insN c ns us => cases hn
  | dctN ks us => cases hn
theorem TR.mono {v : V} {t : T} (h : TR κ H Av v t) (s : ∀ b o, H b = some o → H' b = some o) (k2 : ∀ b, H b ≠ none → ¬ Av b → ¬ Av' b) : TR κ H' Av' v t := by
  cases t with
  | insN c ns us => obtain ⟨a, dx, fs, e, h, q, r, d⟩ := h; exact ⟨a, dx, fs, e, s a _ h, q, PRs.mono r (fun _ _ a o _ _ _ z => s a o z) (fun b o z _ => s b o z) k2, d⟩
  | dctN ks us => obtain ⟨a, kvs, e, h, q, r, d⟩ := h; exact ⟨a, kvs, e, s a _ h, q, PRs.mono r (fun _ _ a o _ _ _ z => s a o z) (fun b o z _ => s b o z) k2, d⟩
  | _ => exact TR.mono0 h rfl (fun _ a o _ z => s a o z) (fun b o z _ => s b o z) k2
theorem TR.less {v : V} {t : T} (h : TR κ H Av v t) (s : ∀ b, Av' b → Av b) : TR κ H Av' v t := TR.mono h (fun _ _ z => z) fun b _ n z => n (s b z)
theorem TRG.mono {g : G} {t : T} (h : TRG κ H Av g t) (ko : ∀ a o, Fp t g a → H a = some o → H' a = some o) (k : ∀ b o, H b = some o → ¬ Av b → H' b = some o) (k2 : ∀ b, H b ≠ none → ¬ Av b → ¬ Av' b) : TRG κ H' Av' g t := by
  obtain ⟨h, z⟩ := h
  cases t with
  | insN c ns us =>
    obtain ⟨a, dx, fs, e, h, q, r, d⟩ := h
    have eg := z a _ dx fs e h
    have h' := ko a _ ⟨rfl, .inl e⟩ h
    refine ⟨⟨a, dx, fs, e, h', q, PRs.mono r (fun i u b o e1 e2 e3 e4 => ko b o ⟨rfl, .inr ⟨i, u, e1, e2, by rw [eg]; exact e3⟩⟩ e4) k k2, d⟩, fun b C dx2 fs2 e2 h2 => ?_⟩
    rw [e] at e2; cases e2
    rw [h'] at h2; cases h2
    exact eg
  | dctN ks us =>
    obtain ⟨a, kvs, e, h, q, r, d⟩ := h
    have eg := z a kvs e h
    have h' := ko a _ ⟨rfl, .inl e⟩ h
    refine ⟨⟨a, kvs, e, h', q, PRs.mono r (fun i u b o e1 e2 e3 e4 => ko b o ⟨rfl, .inr ⟨i, u, e1, e2, by rw [eg]; exact e3⟩⟩ e4) k k2, d⟩, fun b kvs2 e2 h2 => ?_⟩
    rw [e] at e2; cases e2
    rw [h'] at h2; cases h2
    exact eg
  | _ => exact ⟨TR.mono0 h rfl (fun o a u e q => ko a u ⟨o, .inl e⟩ q) k k2, True.intro⟩
theorem TRG.less {g : G} {t : T} (h : TRG κ H Av g t) (s : ∀ b, Av' b → Av b) : TRG κ H Av' g t := h.mono (fun _ _ _ z => z) (fun _ _ z _ => z) fun b _ n z => n (s b z)
theorem TRG.at {g : G} {t : T} (h : TRG κ H Av g t) {a : Addr} (f : Fp t g a) : ∃ u, H a = some u ∧ ∀ xs, u ≠ .tup xs := by
  obtain ⟨h, z⟩ := h
  obtain ⟨o, f | ⟨k, u, e1, e2, e3⟩⟩ := f
  · obtain ⟨b, u, e, q, n⟩ := h.ref o
    rw [f] at e; cases e
    exact ⟨u, q, n⟩
  · have key : ∀ {ws : List V} {us : List U}, Paired (PR κ H Av) ws us → ∀ {k : Nat} {u : U} {v : V}, us[k]? = some u → ws[k]? = some v → PR κ H Av v u := by
      intro ws us p
      induction p with
      | nil => intro k u v e; simp at e
      | cons h t ih =>
        intro k u v e1 e2
        cases k with
        | zero => cases e1; cases e2; exact h
        | succ k => exact ih (by simpa using e1) (by simpa using e2)
    cases t with
    | insN c ns us =>
      obtain ⟨b, dx, fs, e, h, q, r, d⟩ := h
      rw [z b _ dx fs e h] at e3
      obtain ⟨p, w, q1, q2, n⟩ := (key r e1 e3).ref e2
      cases q1
      exact ⟨w, q2, n⟩
    | dctN ks us =>
      obtain ⟨b, kvs, e, h, q, r, d⟩ := h
      rw [z b kvs e h] at e3
      obtain ⟨p, w, q1, q2, n⟩ := (key r e1 e3).ref e2
      cases q1
      exact ⟨w, q2, n⟩
    | _ => simp [T.parts] at e1
theorem TRG.freeze {g : G} {t : T} (h : TRG κ H Av g t) (hs : ∀ b, Av' b → Av b) (hv : ∀ a, Fp t g a → ¬ Av' a) : DV κ H Av' g.1 t.frz := by
  obtain ⟨h, z⟩ := h
  cases t with
  | fr d => exact DV.less h hs
  | lst ds => obtain ⟨a, xs, e, h, r⟩ := h; have n := hv a ⟨rfl, .inl e⟩; rw [e]; exact .lst h n (r.less hs)
  | dct ks vs =>
    obtain ⟨a, e, ⟨kvs, h, q, r⟩ | ⟨kvs, y, h, q, r⟩⟩ := h
    · have n := hv a ⟨rfl, .inl e⟩; rw [e]; subst q; exact .dK (.inl h) n (r.less hs)
    · have n := hv a ⟨rfl, .inl e⟩; rw [e]; subst q; exact .dT y (.inl h) n (r.less hs)
  | ins c ns vs => obtain ⟨a, dx, fs, e, h, q, r⟩ := h; have n := hv a ⟨rfl, .inl e⟩; rw [e]; subst q; exact .ins h n (r.less hs)
  | insN c ns us =>
    obtain ⟨a, dx, fs, e, h, q, r, d⟩ := h
    have eg := z a _ dx fs e h
    have n := hv a ⟨rfl, .inl e⟩
    rw [e]; subst q
    exact .ins h n (PRs.freeze hs r fun i u b e1 e2 e3 => hv b ⟨rfl, .inr ⟨i, u, e1, e2, by rw [eg]; exact e3⟩⟩)
  | dctN ks us =>
    obtain ⟨a, kvs, e, h, q, r, d⟩ := h
    have eg := z a kvs e h
    have n := hv a ⟨rfl, .inl e⟩
    rw [e]; subst q
    show DV κ H Av' (.ref a) (.dct ((kvs.map (·.1)).map .k) (us.map U.view))
    rw [List.map_map]
    exact .dK (.inl h) n (PRs.freeze hs r fun i u b e1 e2 e3 => hv b ⟨rfl, .inr ⟨i, u, e1, e2, by rw [eg]; exact e3⟩⟩)
theorem TR.dv {v : V} {t : T} (h : TR κ H Av v t) : DV κ H (fun _ => False) v t.view := by
  have hs : ∀ b, (fun _ : Addr => False) b → Av b := fun _ z => z.elim
  cases t with
  | insN c ns us => obtain ⟨a, dx, fs, e, h, q, _⟩ := h; subst e; subst q; exact .insN h fun z => z
  | dctN ks us => obtain ⟨a, kvs, e, h, _⟩ := h; subst e; exact .dctN (.inl h) fun z => z
  | fr d => exact DV.less h hs
  | lst ds => obtain ⟨a, xs, e, h, r⟩ := h; subst e; exact .lst h (fun z => z) (r.less hs)
  | dct ks vs =>
    obtain ⟨a, e, ⟨kvs, h, q, r⟩ | ⟨kvs, z, h, q, r⟩⟩ := h
    · subst e; subst q; exact .dK (.inl h) (fun z => z) (r.less hs)
    · subst e; subst q; exact .dT z (.inl h) (fun z => z) (r.less hs)
  | ins c ns vs => obtain ⟨a, dx, fs, e, h, q, r⟩ := h; subst e; subst q; exact .ins h (fun z => z) (r.less hs)
end
def OwnAt (S : En) (σ : Sg) (a : Addr) : Prop := ∃ (i : Nat) (t : T) (g : G), S[i]? = some (some t) ∧ Fp t g a ∧ σ[i]? = some (some g)
def AvS (B : Addr → Prop) (S : En) (σ : Sg) (a : Addr) : Prop := B a ∨ OwnAt S σ a
structure Ntp (H : Hp) (b : Addr) : Prop where
  nn : H b ≠ none
  nt : ∀ xs, H b ≠ some (.tup xs)
theorem Ntp.keep {H H' : Hp} {b : Addr} (h : Ntp H b) (k : ∀ o, H b = some o → H' b = some o) : Ntp H' b := by
  cases e : H b with
  | none => exact absurd e h.nn
  | some o =>
    have e2 := k o e
    exact ⟨by rw [e2]; simp, fun xs z => h.nt xs (by rw [e2] at z; rw [e]; exact z)⟩
theorem Ntp.of {H : Hp} {b : Addr} {o : HO} (e : H b = some o) (n : ∀ xs, o ≠ .tup xs) : Ntp H b := ⟨by rw [e]; simp, fun xs z => by rw [e] at z; exact n xs (Option.some.inj z)⟩
structure Good (κ : Kt) (B : Addr → Prop) (H : Hp) (σ : Sg) (S : En) : Prop where
  len : S.length = σ.length
  trk : ∀ b, B b → Ntp H b
  dis : ∀ b, B b → ¬ OwnAt S σ b
  inj : ∀ (i j : Nat) (a : Addr) (t u : T) (g g' : G), S[i]? = some (some t) → Fp t g a → S[j]? = some (some u) → Fp u g' a → σ[i]? = some (some g) → σ[j]? = some (some g') → i = j
  slot : ∀ (i : Nat) (t : T), S[i]? = some (some t) → ∃ g : G, σ[i]? = some (some g) ∧ TRG κ H (AvS B S σ) g t
def TmpAt (r : Rv) (v : G) (a : Addr) : Prop := ∃ t, r = .tmp t ∧ Fp t v a
def Bx (B : Addr → Prop) (r : Rv) (v : G) (a : Addr) : Prop := B a ∨ TmpAt r v a
def RvR (κ : Kt) (H : Hp) (Av : Addr → Prop) (σ : Sg) (v : G) : Rv → Prop
  | .tmp t => TRG κ H Av v t
  | .slot i => σ[i]? = some (some v)
  | .sub i k => ∃ g : G, σ[i]? = some (some g) ∧ g.2[k]? = some v.1
structure Post (κ : Kt) (B : Addr → Prop) (σ : Sg) (H : Hp) (S : En) (H' : Hp) (S' : En) (v : G) (r : Rv) : Prop where
  keep : ∀ b o, H b = some o → ¬ OwnAt S σ b → H' b = some o
  sub : ∀ a, OwnAt S' σ a → OwnAt S σ a
  tnew : ∀ a, TmpAt r v a → H a = none ∨ (OwnAt S σ a ∧ ¬ OwnAt S' σ a)
  good : Good κ (Bx B r v) H' σ S'
  rv : RvR κ H' (AvS (Bx B r v) S' σ) σ v r
structure PostX (κ : Kt) (B : Addr → Prop) (σ : Sg) (H : Hp) (S : En) (H' : Hp) (S' : En) (x : Ex) (d : Addr) : Prop where
  keep : ∀ b o, H b = some o → ¬ OwnAt S σ b → H' b = some o
  sub : ∀ a, OwnAt S' σ a → OwnAt S σ a
  good : Good κ B H' σ S'
  xd : ∃ fs : List (Str × V), H' d = some (.xd fs) ∧ fs.map (·.1) = x.ns ∧ DVs κ H' (AvS B S' σ) (fs.map (·.2)) x.vs
def Out (κ : Kt) (W : WX) (B : Addr → Prop) (σ : Sg) (H : Hp) (S : En) (Q : VK) : Res Rv → Prop
  | .ok r S' => ∀ (v : G) H', Post κ B σ H S H' S' v r → Q v.1 H'
  | .exc x S' => ∀ d H', PostX κ B σ H S H' S' x d → W (.ref (κ.cA x.c)) (some d) (unG σ) H'
  | .stuck => False
def tE (κ : Kt) (W : WX) (f : M Rv) : TE := fun σ H Q => ∃ (B : Addr → Prop) (S : En) (τ : Sg), unG τ = σ ∧ Good κ B H τ S ∧ Out κ W B τ H S Q (f S)
theorem _root_.L2.PE.weak {X : Cx} {e : Expr} {t t' : TE} (h : PE X e t) (k : ∀ σ H Q, t' σ H Q → t σ H Q) : PE X e t' := ⟨fun pins s σ H Q I q => h.run pins s σ H Q I (k σ H Q q)⟩
theorem unG_get {σ : Sg} {i : Nat} {g : G} (h : σ[i]? = some (some g)) : (unG σ)[i]? = some (some g.1) := by
  unfold unG
  rw [List.getElem?_map, h]
  rfl
theorem unG_len (σ : Sg) : (unG σ).length = σ.length := List.length_map ..
theorem unG_set (σ : Sg) (i : Nat) (g : G) : unG (σ.set i (some g)) = (unG σ).set i (some g.1) := by
  unfold unG
  rw [List.map_set]
  rfl
section
variable {κ : Kt} {B B' : Addr → Prop} {H H' H1 H2 : Hp} {σ : Sg} {S S' S1 S2 : En} {v v1 v2 : G} {r r1 r2 : Rv}
theorem Good.weaken (g : Good κ B H σ S) (h : ∀ b, B' b → B b) : Good κ B' H σ S :=
  ⟨g.len, fun b z => g.trk b (h b z), fun b z => g.dis b (h b z), g.inj, fun i t e => by
    obtain ⟨v, e1, e2⟩ := g.slot i t e
    exact ⟨v, e1, e2.less fun b z => z.imp (h b) id⟩⟩
theorem Good.same (g : Good κ B H σ S) (s : Same H H') : Good κ B H' σ S :=
  ⟨g.len, fun b z => (g.trk b z).keep (s b), g.dis, g.inj, fun i t e => by
    obtain ⟨v, e1, e2⟩ := g.slot i t e
    exact ⟨v, e1, e2.mono (fun a o _ z => s a o z) (fun b o z _ => s b o z) fun b _ n z => n z⟩⟩
theorem Good.ownTrk (g : Good κ B H σ S) {b : Addr} (h : OwnAt S σ b) : Ntp H b := by
  obtain ⟨i, t, v, e1, e2, e3⟩ := h
  obtain ⟨v', e4, e5⟩ := g.slot i t e1
  rw [e3] at e4; cases e4
  obtain ⟨u, e7, n⟩ := e5.at e2
  exact .of e7 n
theorem Good.more (g : Good κ B H σ S) (h : ∀ b, B' b → B b ∨ (Ntp H' b ∧ H b = none)) (s : Same H H') : Good κ B' H' σ S := by
  refine ⟨g.len, fun b z => ?_, fun b z q => ?_, g.inj, fun i t e => ?_⟩
  · rcases h b z with h | h
    · exact (g.same s).trk b h
    · exact h.1
  · rcases h b z with h | h
    · exact g.dis b h q
    · exact (g.ownTrk q).nn h.2
  · obtain ⟨v, e1, e2⟩ := g.slot i t e
    refine ⟨v, e1, e2.mono (fun a o _ z => s a o z) (fun b o z _ => s b o z) fun b hb n z => n ?_⟩
    rcases z with z | z
    · rcases h b z with h | h
      · exact .inl h
      · exact absurd h.2 hb
    · exact .inr z
theorem RvR.later (h : RvR κ H1 (AvS B S1 σ) σ v1 r1) (hB : ∀ a, TmpAt r1 v1 a → B a) (g : Good κ B H1 σ S1) (p : Post κ B σ H1 S1 H2 S2 v2 r2) : RvR κ H2 (AvS (Bx B r2 v2) S2 σ) σ v1 r1 := by
  cases r1 with
  | slot i => exact h
  | sub i k => exact h
  | tmp t =>
    refine TRG.mono h (fun a u f q => p.keep a u q (g.dis a (hB a ⟨t, rfl, f⟩))) (fun b o q n => p.keep b o q fun z => n (.inr z)) fun b q n z => ?_
    rcases z with (z | z) | z
    · exact n (.inl z)
    · rcases p.tnew b z with z | z
      · exact q z
      · exact n (.inr z.1)
    · exact n (.inr (p.sub b z))
theorem PRs.at {Av : Addr → Prop} : ∀ {ws : List V} {us : List U}, Paired (PR κ H Av) ws us → ∀ {k : Nat} {u : U}, us[k]? = some u → ∃ v, ws[k]? = some v ∧ PR κ H Av v u
  | _, _, .nil, k, u, e => by simp at e
  | _, _, .cons h t, 0, u, e => by cases e; exact ⟨_, rfl, h⟩
  | _, _, .cons h t, k + 1, u, e => PRs.at t (k := k) (by simpa using e)
theorem TRG.part {Av : Addr → Prop} {g : G} {t : T} {k : Nat} {u : U} (h : TRG κ H Av g t) (e : t.parts[k]? = some u) : ∃ v, g.2[k]? = some v ∧ PR κ H Av v u := by
  obtain ⟨h, z⟩ := h
  cases t with
  | insN c ns us =>
    obtain ⟨b, dx, fs, q0, q1, q, r, d⟩ := h
    rw [z b _ dx fs q0 q1]
    exact PRs.at r e
  | dctN ks us =>
    obtain ⟨b, kvs, q0, q1, q, r, d⟩ := h
    rw [z b kvs q0 q1]
    exact PRs.at r e
  | _ => simp [T.parts] at e
theorem RvR.view (g : Good κ B H σ S) (h : RvR κ H (AvS B S σ) σ v r) {d : D} (e : viewR r S = some d) : ∃ t, TR κ H (AvS B S σ) v.1 t ∧ t.view = d := by
  cases r with
  | tmp t => exact ⟨t, h.tr, Option.some.inj e⟩
  | slot i =>
    unfold viewR at e
    dsimp only at e
    split at e
    · rename_i t q
      obtain ⟨v', e1, e2⟩ := g.slot i t q
      have e3 : σ[i]? = some (some v) := h
      rw [e1] at e3; cases e3
      exact ⟨t, e2.tr, Option.some.inj e⟩
    · cases e
  | sub i k =>
    unfold viewR at e
    dsimp only at e
    split at e
    · rename_i t q
      obtain ⟨u, eu, rfl⟩ := Option.map_eq_some_iff.mp e
      obtain ⟨v', e1, e2⟩ := g.slot i t q
      obtain ⟨g', e3, e4⟩ := h
      rw [e1] at e3; cases e3
      obtain ⟨w, e5, e6⟩ := e2.part eu
      rw [e4] at e5; cases e5
      exact ⟨u.toT, e6.toT, U.toT_view u⟩
    · cases e
end
end DL

set_option Elab.async false
set_option linter.all false
namespace DL
open PySem L2
theorem tE_iff {κ : Kt} {W : WX} {f : M Rv} {σ : L2.St} {H : Hp} {Q : VK} : tE κ W f σ H Q ↔ ∃ B S τ, unG τ = σ ∧ Good κ B H τ S ∧ Out κ W B τ H S Q (f S) := Iff.rfl
structure Chain (κ : Kt) (B : Addr → Prop) (σ : Sg) (H : Hp) (S : En) (B' : Addr → Prop) (H' : Hp) (S' : En) : Prop where
  keep : ∀ b o, H b = some o → ¬ OwnAt S σ b → H' b = some o
  sub : ∀ a, OwnAt S' σ a → OwnAt S σ a
  le : ∀ a, B a → B' a
  good : Good κ B' H' σ S'
theorem frno {d : D} {P : Prop} (z : (T.fr d).own = true) : P := Bool.noConfusion z
structure Fresh (κ : Kt) (Av : Addr → Prop) (H H' : Hp) (v : V) (t : T) : Prop where
  same : Same H H'
  new : t.own = true → ∀ a, v = .ref a → H a = none
  tr : TR0 κ H' (fun b => Av b ∨ (t.own = true ∧ v = .ref b)) v t
structure FreshG (κ : Kt) (Av : Addr → Prop) (H H' : Hp) (g : G) (t : T) : Prop where
  same : Same H H'
  new : ∀ a, Fp t g a → H a = none
  tr : TRG κ H' (fun b => Av b ∨ Fp t g b) g t
section
variable {κ : Kt} {W : WX} {B B' B1 B2 : Addr → Prop} {H H' H1 H2 H3 : Hp} {σ : Sg} {S S' S1 S2 S3 : En} {v v1 v2 : G} {r r1 r2 : Rv} {Q R : VK}
theorem Chain.refl (g : Good κ B H σ S) : Chain κ B σ H S B H S := ⟨fun _ _ e _ => e, fun _ e => e, fun _ e => e, g⟩
theorem Chain.step (c : Chain κ B σ H S B1 H1 S1) (p : Post κ B1 σ H1 S1 H2 S2 v r) : Chain κ B σ H S (Bx B1 r v) H2 S2 :=
  ⟨fun b o e n => p.keep b o (c.keep b o e n) fun z => n (c.sub b z), fun a z => c.sub a (p.sub a z), fun a z => .inl (c.le a z), p.good⟩
theorem Chain.postX {x : Ex} {d : Addr} (c : Chain κ B σ H S B1 H1 S1) (p : PostX κ B1 σ H1 S1 H2 S2 x d) : PostX κ B σ H S H2 S2 x d :=
  ⟨fun b o e n => p.keep b o (c.keep b o e n) fun z => n (c.sub b z), fun a z => c.sub a (p.sub a z), p.good.weaken c.le, by
    obtain ⟨fs, h1, h2, h3⟩ := p.xd
    exact ⟨fs, h1, h2, h3.less fun b z => z.imp (c.le b) id⟩⟩
theorem Chain.bind {f : M Rv} {k : Rv → M Rv} (c : Chain κ B σ H S B1 H1 S1) (o : Out κ W B σ H S Q (M.bind f k S1))
    (hk : ∀ S2 H2 (v : G) r, Post κ B1 σ H1 S1 H2 S2 v r → Out κ W B σ H S Q (k r S2) → R v.1 H2) : tE κ W f (unG σ) H1 R := by
  refine tE_iff.mpr ⟨B1, S1, σ, rfl, c.good, ?_⟩
  unfold M.bind at o
  cases e : f S1 with
  | ok r S2 => rw [e] at o; exact fun v H2 p => hk S2 H2 v r p o
  | exc x S2 => rw [e] at o; exact fun d H2 p => o d H2 (c.postX p)
  | stuck => rw [e] at o; exact o
theorem Chain.finG {t : T} (c : Chain κ B σ H S B1 H1 S1) (f : FreshG κ (AvS B1 S1 σ) H1 H2 v t) : Post κ B σ H S H2 S1 v (.tmp t) := by
  have tn : ∀ a, TmpAt (.tmp t) v a → Fp t v a := fun a ⟨u, e1, e2⟩ => by
    cases e1; exact e2
  have g2 : Good κ (Bx B (.tmp t) v) H2 σ S1 := c.good.more (fun b z => by
    rcases z with z | z
    · exact .inl (c.le b z)
    · obtain ⟨u, e2, n⟩ := f.tr.at (tn b z)
      exact .inr ⟨.of e2 n, f.new b (tn b z)⟩) f.same
  refine ⟨fun b o e n => f.same b o (c.keep b o e n), c.sub, fun a z => ?_, g2, ?_⟩
  · have hn := f.new a (tn a z)
    by_cases hh : H a = none
    · exact .inl hh
    · refine .inr ⟨?_, fun q => (c.good.ownTrk q).nn hn⟩
      refine Classical.byContradiction fun no => ?_
      cases e : H a with
      | none => exact hh e
      | some o => have := c.keep a o e no; rw [hn] at this; cases this
  · refine TRG.less f.tr fun b z => ?_
    rcases z with (z | z) | z
    · exact .inl (.inl (c.le b z))
    · exact .inr (tn b z)
    · exact .inl (.inr z)
theorem Fresh.toG {Av : Addr → Prop} {t : T} {v : V} (f : Fresh κ Av H H' v t) : FreshG κ Av H H' (v, []) t :=
  ⟨f.same, fun a z => f.new z.own a (z.plain f.tr.pl), .of (f.tr.toR.less fun b z => z.imp id fun q => ⟨q.own, q.plain f.tr.pl⟩) f.tr.pl⟩
theorem Chain.fin {t : T} {v : V} (c : Chain κ B σ H S B1 H1 S1) (f : Fresh κ (AvS B1 S1 σ) H1 H2 v t) : Post κ B σ H S H2 S1 (v, []) (.tmp t) := c.finG f.toG
theorem Fresh.here {Av : Addr → Prop} {d : D} {v : V} (h : DV κ H Av v d) : Fresh κ Av H H v (.fr d) := ⟨Same.refl H, (fun z => frno z), h.less fun b z => z.elim id fun q => frno q.1⟩
theorem Same.upd {p : Addr} {o : HO} (hp : H p = none) : Same H (upd H p o) := fun b u e => by rw [upd_ne (ne_of_none e hp)]; exact e
theorem Fresh.lst {Av : Addr → Prop} {p : Addr} {xs : List V} {ds : List D} (hp : H p = none) (h : DVs κ H Av xs ds) : Fresh κ Av H (upd H p (.lst xs)) (.ref p) (.lst ds) :=
  ⟨Same.upd hp, fun _ a e => by cases e; exact hp, p, xs, rfl, upd_same, h.mono (fun b o e _ => Same.upd hp b o e) fun b e n z => z.elim n fun q => by cases q.2; exact e hp⟩
theorem Fresh.tup {Av : Addr → Prop} {p : Addr} {xs : List V} {ds : List D} (hp : H p = none) (hA : ¬ Av p) (h : DVs κ H Av xs ds) : Fresh κ Av H (upd H p (.tup xs)) (.ref p) (.fr (.tup ds)) :=
  ⟨Same.upd hp, (fun z => frno z), DV.tup upd_same (fun z => z.elim hA fun q => frno q.1) (h.mono (fun b o e _ => Same.upd hp b o e) fun b e n z => z.elim n fun q => frno q.1)⟩
theorem Good.avOk (g : Good κ B H σ S) {p : Addr} (hp : H p = none ∨ ∃ xs, H p = some (.tup xs)) : ¬ AvS B S σ p := fun z => by
  have n : Ntp H p := z.elim (g.trk p) g.ownTrk
  rcases hp with hp | ⟨xs, hp⟩
  · exact n.nn hp
  · exact n.nt xs hp
theorem Good.avTrk (g : Good κ B H σ S) {p : Addr} (hp : H p = none) : ¬ AvS B S σ p := fun z => z.elim (fun z => (g.trk p z).nn hp) fun z => (g.ownTrk z).nn hp
theorem Chain.later (p1 : Post κ B σ H S H1 S1 v1 r1) (p2 : Post κ (Bx B r1 v1) σ H1 S1 H2 S2 v2 r2) : RvR κ H2 (AvS (Bx (Bx B r1 v1) r2 v2) S2 σ) σ v1 r1 :=
  p1.rv.later (fun a z => .inr z) p1.good p2
end
def eVar (i : Nat) : M Rv := fun S => match S[i]? with
  | some (some _) => .ok (.slot i) S
  | _ => .stuck
def eC (d : D) : M Rv := fun S => .ok (.tmp (.fr d)) S
section
variable {X : Cx} {κ : Kt} {W : WX}
theorem Post.slot {B : Addr → Prop} {H : Hp} {σ : Sg} {S : En} {i : Nat} {v : G} (g : Good κ B H σ S) (e : σ[i]? = some (some v)) : Post κ B σ H S H S v (.slot i) :=
  ⟨fun _ _ e _ => e, fun _ e => e, fun a ⟨t, e, _⟩ => Rv.noConfusion e, g.weaken fun b z => z.elim id fun ⟨t, e, _⟩ => Rv.noConfusion e, e⟩
theorem de_var (i : Nat) {x : Str} {pos : Pos} (h : PE X (.Name x pos) (tVar i)) : PE X (.Name x pos) (tE κ W (eVar i)) := h.weak fun σ H Q h => by
  obtain ⟨B, S, τ, rfl, g, o⟩ := tE_iff.mp h
  unfold eVar at o
  split at o
  · rename_i t e
    obtain ⟨v, e1, e2⟩ := g.slot i _ e
    exact ⟨v.1, unG_get e1, o v H (Post.slot g e1)⟩
  · exact o.elim
theorem de_C {e : Expr} {v : V} {d : D} (h : PE X e (tC v)) (hv : ∀ H Av, DV κ H Av v d) : PE X e (tE κ W (eC d)) := h.weak fun σ H Q h => by
  obtain ⟨B, S, τ, rfl, g, o⟩ := tE_iff.mp h
  exact o (v, []) H ((Chain.refl g).fin (.here (hv H _)))
theorem de_int {i j pos} : PE X (.Constant (.int i) j pos) (tE κ W (eC (.int i))) := de_C pe_int fun _ _ => .int i
theorem de_bl {b j pos} : PE X (.Constant (.bool b) j pos) (tE κ W (eC (.bl b))) := de_C pe_bl fun _ _ => .bl b
theorem de_non {j pos} : PE X (.Constant .none j pos) (tE κ W (eC .non)) := de_C pe_non fun _ _ => .non
theorem de_str {x j pos} : PE X (.Constant (.str x) j pos) (tE κ W (eC (.str x))) := de_C pe_str fun _ _ => .str x
end
def VOp2 (κ : Kt) (r : R2) (g : D → D → Option T) : Prop := ∀ (H : Hp) (Q : VK) (Av : Addr → Prop) (x y : V) (tx ty t : T), (∀ p, H p = none → ¬ Av p) → TR κ H Av x tx → TR κ H Av y ty → g tx.view ty.view = some t →
  (∀ v H', Fresh κ Av H H' v t → Q v H') → r x y H Q
def eBin (g : D → D → Option T) (fa fb : M Rv) : M Rv := M.bind fa fun ra => M.bind fb fun rb => fun S => match viewR ra S, viewR rb S with
  | some da, some db => match g da db with
    | some t => .ok (.tmp t) S
    | none => .stuck
  | _, _ => .stuck
def eUn (g : D → Option T) (fa : M Rv) : M Rv := M.bind fa fun ra => fun S => match viewR ra S with
  | some da => match g da with
    | some t => .ok (.tmp t) S
    | none => .stuck
  | _ => .stuck
def VOp1 (κ : Kt) (r : V → Hp → VK → Prop) (g : D → Option T) : Prop := ∀ (H : Hp) (Q : VK) (Av : Addr → Prop) (x : V) (tx t : T), (∀ p, H p = none → ¬ Av p) → TR κ H Av x tx → g tx.view = some t →
  (∀ v H', Fresh κ Av H H' v t → Q v H') → r x H Q
section
variable {κ : Kt} {W : WX} {fa fb : M Rv} {σ : L2.St} {H : Hp} {Q : VK}
theorem two_red {g : D → D → Option T} {r : R2} (hv : VOp2 κ r g) (h : tE κ W (eBin g fa fb) σ H Q) : tE κ W fa σ H fun x H1 => tE κ W fb σ H1 fun y H2 => r x y H2 Q := by
  obtain ⟨B, S, τ, rfl, g0, o⟩ := tE_iff.mp h
  refine (Chain.refl g0).bind o fun S1 H1 v1 r1 p1 o1 => ?_
  have c1 := (Chain.refl g0).step p1
  refine c1.bind o1 fun S2 H2 v2 r2 p2 o2 => ?_
  have c2 := c1.step p2
  have w1 := Chain.later p1 p2

  split at o2
  · rename_i da db e1 e2
    split at o2
    · rename_i t e3
      obtain ⟨t1, h1, q1⟩ := RvR.view c2.good w1 e1
      obtain ⟨t2, h2, q2⟩ := RvR.view c2.good p2.rv e2
      exact hv H2 Q _ v1.1 v2.1 t1 t2 t (fun p hp => c2.good.avTrk hp) h1 h2 (by rw [q1, q2]; exact e3) fun v H3 f => o2 (v, []) H3 (c2.fin f)
    · exact o2.elim
  · exact o2.elim
theorem one_red {g : D → Option T} {r : V → Hp → VK → Prop} (hv : VOp1 κ r g) (h : tE κ W (eUn g fa) σ H Q) : tE κ W fa σ H fun x H1 => r x H1 Q := by
  obtain ⟨B, S, τ, rfl, g0, o⟩ := tE_iff.mp h
  refine (Chain.refl g0).bind o fun S1 H1 v1 r1 p1 o1 => ?_
  have c1 := (Chain.refl g0).step p1

  split at o1
  · rename_i da e1
    split at o1
    · rename_i t e3
      obtain ⟨t1, h1, q1⟩ := RvR.view c1.good p1.rv e1
      exact hv H1 Q _ v1.1 t1 t (fun p hp => c1.good.avTrk hp) h1 (by rw [q1]; exact e3) fun v H3 f => o1 (v, []) H3 (c1.fin f)
    · exact o1.elim
  · exact o1.elim
end
section
variable {X : Cx} {κ : Kt} {W : WX} {a b e : Expr} {fa fb : M Rv} {pos : Pos}
theorem de_bin {op : Operator} {r : R2} {g : D → D → Option T} (ho : OpR X (binaryOp op) r) (hv : VOp2 κ r g) (ha : PE X a (tE κ W fa)) (hb : PE X b (tE κ W fb)) : PE X (.BinOp a op b pos) (tE κ W (eBin g fa fb)) :=
  (pe_op ho ha hb).weak fun σ H Q h => two_red hv h
theorem de_cmp {op : CmpOp} {r : R2} {g : D → D → Option T} (ho : OpR X (compareOp op) r) (hv : VOp2 κ r g) (ha : PE X a (tE κ W fa)) (hb : PE X b (tE κ W fb)) (hm : behindInMarks op b = false) : PE X (.Compare a [op] [b] pos) (tE κ W (eBin g fa fb)) :=
  (pe_cmpR ho ha hb hm).weak fun σ H Q h => two_red hv h
end
end DL

set_option Elab.async false
set_option linter.all false
namespace DL
open PySem L2
section
variable {κ : Kt} {H : Hp} {Av : Addr → Prop} {v : V} {t : T}
theorem DV.int_inv {i : Int} (h : DV κ H Av v (.int i)) : v = .int i := by cases h; rfl
theorem DV.bl_inv {i : Bool} (h : DV κ H Av v (.bl i)) : v = .bl i := by cases h; rfl
theorem DV.str_inv {i : Str} (h : DV κ H Av v (.str i)) : v = .str i := by cases h; rfl
theorem DV.non_inv (h : DV κ H Av v .non) : v = .non := by cases h; rfl
theorem DV.ty_inv {n : String} (h : DV κ H Av v (.ty n)) : v = .ty n := by cases h; rfl
theorem DV.cls_inv {n : Nat} (h : DV κ H Av v (.cls n)) : v = .ref (κ.cA n) := by cases h; rfl
theorem DV.lst_inv {ds : List D} (h : DV κ H Av v (.lst ds)) : ∃ a xs, v = .ref a ∧ H a = some (.lst xs) ∧ ¬ Av a ∧ DVs κ H Av xs ds := by
  cases h with
  | lst h1 h2 h3 => exact ⟨_, _, rfl, h1, h2, h3⟩
theorem DV.scr_inv {ds : List D} (h : DV κ H Av v (.scr ds)) : ∃ a o xs, v = .ref a ∧ H a = some (.frz o (.lst xs)) ∧ DVs κ H Av xs ds := by
  cases h with
  | scr h1 h2 h3 => exact ⟨_, _, _, rfl, h1, h3⟩
theorem DV.tup_inv {ds : List D} (h : DV κ H Av v (.tup ds)) : ∃ a xs, v = .ref a ∧ SqT κ.K H a xs ∧ DVs κ H Av xs ds := by
  cases h with
  | tup h1 h2 h3 => exact ⟨_, _, rfl, .of h1, h3⟩
  | tup0 h1 => exact ⟨_, _, rfl, h1.sq, .nil⟩
theorem TR.int {i : Int} (h : TR κ H Av v t) (e : t.view = .int i) : v = .int i := by
  cases t <;> first | (cases e; exact DV.int_inv h) | cases e
theorem TR.bl {i : Bool} (h : TR κ H Av v t) (e : t.view = .bl i) : v = .bl i := by
  cases t <;> first | (cases e; exact DV.bl_inv h) | cases e
theorem TR.str {i : Str} (h : TR κ H Av v t) (e : t.view = .str i) : v = .str i := by
  cases t <;> first | (cases e; exact DV.str_inv h) | cases e
theorem TR.non (h : TR κ H Av v t) (e : t.view = .non) : v = .non := by
  cases t <;> first | (cases e; exact DV.non_inv h) | cases e
theorem TR.lst {ds : List D} (h : TR κ H Av v t) (e : t.view = .lst ds) : ∃ a xs, v = .ref a ∧ H a = some (.lst xs) ∧ DVs κ H Av xs ds := by
  cases t with
  | fr d => cases e; obtain ⟨a, xs, h1, h2, _, h3⟩ := DV.lst_inv h; exact ⟨a, xs, h1, h2, h3⟩
  | lst ds' => cases e; exact h
  | _ => cases e
theorem TR.scr {ds : List D} (h : TR κ H Av v t) (e : t.view = .scr ds) : ∃ a o xs, v = .ref a ∧ H a = some (.frz o (.lst xs)) ∧ DVs κ H Av xs ds := by
  cases t <;> first | (cases e; exact DV.scr_inv h) | cases e
theorem TR.tup {ds : List D} (h : TR κ H Av v t) (e : t.view = .tup ds) : ∃ a xs, v = .ref a ∧ SqT κ.K H a xs ∧ DVs κ H Av xs ds ∧ DV κ H Av v (.tup ds) := by
  cases t with
  | fr d => cases e; obtain ⟨a, xs, h1, h2, h3⟩ := DV.tup_inv h; exact ⟨a, xs, h1, h2, h3, h⟩
  | lst ds' => cases e
  | _ => cases e
end
def addD : D → D → Option T
  | .int i, .int j => some (.fr (.int (i + j)))
  | .str a, .str b => if a.length + b.length ≤ sizeLine then some (.fr (.str (a ++ b))) else none
  | .lst a, .lst b => if a.length + b.length ≤ sizeLine then some (.lst (a ++ b)) else none
  | .tup a, .tup b => if a.length + b.length ≤ sizeLine then some (.fr (.tup (a ++ b))) else none
  | _, _ => none
def subD : D → D → Option T
  | .int i, .int j => some (.fr (.int (i - j)))
  | _, _ => none
def mulOk (i j : Int) : Bool := (decide (-(2 ^ 64) < i) && decide (i < 2 ^ 64)) || (decide (-(2 ^ 64) < j) && decide (j < 2 ^ 64)) || decide (i.natAbs.log2 + j.natAbs.log2 < 1000000)
def mulD : D → D → Option T
  | .int i, .int j => if mulOk i j = true then some (.fr (.int (i * j))) else none
  | .lst a, .int k => if -(2 ^ 63) ≤ k ∧ k < 2 ^ 63 ∧ a.length * k.toNat ≤ sizeLine then some (.lst (List.replicate k.toNat a).flatten) else none
  | _, _ => none
def modD : D → D → Option T
  | .int i, .int j => if 0 < j then some (.fr (.int (i % j))) else none
  | _, _ => none
def fdivD : D → D → Option T
  | .int i, .int j => if 0 < j ∧ j.natAbs.log2 < 9000 then some (.fr (.int (i / j))) else none
  | _, _ => none
def powD : D → D → Option T
  | .int i, .int j => if 0 ≤ j ∧ j ≤ 1000000 ∧ i.natAbs < 2 ^ 64 then some (.fr (.int (i ^ j.toNat))) else none
  | _, _ => none
def rAddD (K : PySem.W.Frag) : R2 := fun x y H Q => (rI0 fun i j => .int (i + j)) x y H Q ∨ (∃ i j, x = .str i ∧ y = .str j ∧ i.length + j.length ≤ sizeLine ∧ Q (.str (i ++ j)) H) ∨ rCat x y H Q ∨ rCatA K x y H Q
section
variable {κ : Kt} {X : Cx}
theorem op_addD : OpR X (binaryOp .Add) (rAddD X.K) := OpR.or op_add (OpR.or op_add_str (OpR.or op_cat op_catA))
theorem v_add : VOp2 κ (rAddD κ.K) addD := by
  intro H Q Av x y tx ty t hA hx hy e k
  unfold addD at e
  split at e
  · rename_i i j e1 e2
    cases e
    exact .inl ⟨i, j, hx.int e1, hy.int e2, k _ H (.here (.int _))⟩
  · rename_i a b e1 e2
    split at e
    · rename_i hl
      cases e
      exact .inr (.inl ⟨a, b, hx.str e1, hy.str e2, hl, k _ H (.here (.str _))⟩)
    · cases e
  · rename_i a b e1 e2
    split at e
    · rename_i hl
      cases e
      obtain ⟨p, xs, h1, h2, h3⟩ := hx.lst e1
      obtain ⟨q, ys, g1, g2, g3⟩ := hy.lst e2
      refine .inr (.inr (.inl ⟨p, q, xs, ys, h1, g1, h2, g2, by rw [h3.length, g3.length]; exact hl, fun p hp => k _ _ (.lst hp (h3.app g3))⟩))
    · cases e
  · rename_i a b e1 e2
    split at e
    · rename_i hl
      cases e
      obtain ⟨p, xs, h1, h2, h3, h4⟩ := hx.tup e1
      obtain ⟨q, ys, g1, g2, g3, g4⟩ := hy.tup e2
      refine .inr (.inr (.inr ⟨p, q, xs, ys, h1, g1, h2, g2, by rw [h3.length, g3.length]; exact hl, fun z => ?_, fun _ z => ?_, fun _ _ p hp => ?_⟩))
      · subst z; cases h3; subst g1; exact k _ H (.here g4)
      · subst z; cases g3; subst h1; rw [List.append_nil] at k; exact k _ H (.here h4)
      · exact k _ _ (.tup hp (hA p hp) (h3.app g3))
    · cases e
  · cases e
theorem v_sub : VOp2 κ (rI0 fun i j => .int (i - j)) subD := by
  intro H Q Av x y tx ty t hA hx hy e k
  unfold subD at e
  split at e
  · rename_i i j e1 e2
    cases e
    exact ⟨i, j, hx.int e1, hy.int e2, k _ H (.here (.int _))⟩
  · cases e
def rMulD : R2 := fun x y H Q => (rI CMul fun i j => .int (i * j)) x y H Q ∨ (rI CMulW fun i j => .int (i * j)) x y H Q ∨ rRep x y H Q
theorem op_mulD : OpR X (binaryOp .Mult) rMulD := OpR.or op_mul (OpR.or op_mulW op_rep)
theorem v_mul : VOp2 κ rMulD mulD := by
  intro H Q Av x y tx ty t hA hx hy e k
  unfold mulD at e
  split at e
  · rename_i i j e1 e2
    split at e
    · rename_i hm
      cases e
      unfold mulOk at hm
      simp only [Bool.or_eq_true, Bool.and_eq_true, decide_eq_true_eq] at hm
      rcases hm with (hm | hm) | hm
      · exact .inl ⟨i, j, hx.int e1, hy.int e2, .inl hm, k _ H (.here (.int _))⟩
      · exact .inl ⟨i, j, hx.int e1, hy.int e2, .inr hm, k _ H (.here (.int _))⟩
      · exact .inr (.inl ⟨i, j, hx.int e1, hy.int e2, hm, k _ H (.here (.int _))⟩)
    · cases e
  · rename_i a b e1 e2
    split at e
    · rename_i hl
      cases e
      obtain ⟨p, xs, h1, h2, h3⟩ := hx.lst e1
      refine .inr (.inr ⟨p, b, xs, h1, hy.int e2, h2, hl.1, hl.2.1, by rw [h3.length]; exact hl.2.2, fun p hp => k _ _ (.lst hp ?_)⟩)
      clear hl k
      induction b.toNat with
      | zero => exact .nil
      | succ n ih => rw [List.replicate_succ, List.replicate_succ, List.flatten_cons, List.flatten_cons]; exact h3.app ih
    · cases e
  · cases e
theorem v_mod : VOp2 κ (rI (fun _ j => 0 < j) fun i j => .int (i % j)) modD := by
  intro H Q Av x y tx ty t hA hx hy e k
  unfold modD at e
  split at e
  · rename_i i j e1 e2
    split at e
    · rename_i hj
      cases e
      exact ⟨i, j, hx.int e1, hy.int e2, hj, k _ H (.here (.int _))⟩
    · cases e
  · cases e
theorem v_fdiv : VOp2 κ (rI CDivW fun i j => .int (i / j)) fdivD := by
  intro H Q Av x y tx ty t hA hx hy e k
  unfold fdivD at e
  split at e
  · rename_i i j e1 e2
    split at e
    · rename_i hj
      cases e
      exact ⟨i, j, hx.int e1, hy.int e2, hj, k _ H (.here (.int _))⟩
    · cases e
  · cases e
theorem v_pow : VOp2 κ (rI CPow fun i j => .int (i ^ j.toNat)) powD := by
  intro H Q Av x y tx ty t hA hx hy e k
  unfold powD at e
  split at e
  · rename_i i j e1 e2
    split at e
    · rename_i hj
      cases e
      exact ⟨i, j, hx.int e1, hy.int e2, hj, k _ H (.here (.int _))⟩
    · cases e
  · cases e
def cmpD (pi : Int → Int → Bool) (ps : Str → Str → Bool) : D → D → Option T
  | .int i, .int j => some (.fr (.bl (pi i j)))
  | .str a, .str b => some (.fr (.bl (ps a b)))
  | _, _ => none
def ltS (a b : Str) : Bool := decide (a.cps.toList < b.cps.toList)
def ltD := cmpD (fun i j => decide (i < j)) ltS
def leD := cmpD (fun i j => decide (i ≤ j)) fun a b => !ltS b a
def gtD := cmpD (fun i j => decide (j < i)) fun a b => ltS b a
def geD := cmpD (fun i j => decide (j ≤ i)) fun a b => !ltS a b
def rCmpD (pi : Int → Int → Bool) (ps : Str → Str → Bool) : R2 := fun x y H Q => (rI0 fun i j => .bl (pi i j)) x y H Q ∨ ∃ i j, x = .str i ∧ y = .str j ∧ Q (.bl (ps i j)) H
theorem v_cmp {pi : Int → Int → Bool} {ps : Str → Str → Bool} : VOp2 κ (rCmpD pi ps) (cmpD pi ps) := by
  intro H Q Av x y tx ty t hA hx hy e k
  unfold cmpD at e
  split at e
  · rename_i i j e1 e2
    cases e
    exact .inl ⟨i, j, hx.int e1, hy.int e2, k _ H (.here (.bl _))⟩
  · rename_i i j e1 e2
    cases e
    exact .inr ⟨i, j, hx.str e1, hy.str e2, k _ H (.here (.bl _))⟩
  · cases e
theorem op_ltDD : OpR X (compareOp .Lt) (rCmpD (fun i j => decide (i < j)) ltS) := OpR.or op_lt op_lt_str
theorem op_leDD : OpR X (compareOp .LtE) (rCmpD (fun i j => decide (i ≤ j)) fun a b => !ltS b a) := OpR.or op_le op_le_str
theorem op_gtDD : OpR X (compareOp .Gt) (rCmpD (fun i j => decide (j < i)) fun a b => ltS b a) := OpR.or op_gt op_gt_str
theorem op_geDD : OpR X (compareOp .GtE) (rCmpD (fun i j => decide (j ≤ i)) fun a b => !ltS a b) := OpR.or op_ge op_ge_str
def D.isNon : D → Bool
  | .non => true
  | _ => false
def isND : D → D → Option T := fun x y => if y.isNon = true then some (.fr (.bl x.isNon)) else none
def notND : D → D → Option T := fun x y => if y.isNon = true then some (.fr (.bl (!x.isNon))) else none
theorem DV.isNon {H : Hp} {Av : Addr → Prop} {v : V} {d : D} (h : DV κ H Av v d) : decide (v = .non) = d.isNon := by
  cases h <;> rfl
theorem D.isNon_eq : ∀ {d : D}, d.isNon = true → d = .non
  | .non, _ => rfl
theorem v_isN : VOp2 κ (fun x y H Q => y = .non ∧ Q (.bl (decide (x = .non))) H) isND := by
  intro H Q Av x y tx ty t hA hx hy e k
  have q := hx.dv.isNon
  unfold isND at e
  split at e
  · rename_i h
    cases e
    exact ⟨hy.non (D.isNon_eq h), by rw [q]; exact k _ H (.here (.bl _))⟩
  · cases e
theorem v_notN : VOp2 κ (fun x y H Q => y = .non ∧ Q (.bl (!decide (x = .non))) H) notND := by
  intro H Q Av x y tx ty t hA hx hy e k
  have q := hx.dv.isNon
  unfold notND at e
  split at e
  · rename_i h
    cases e
    exact ⟨hy.non (D.isNon_eq h), by rw [q]; exact k _ H (.here (.bl _))⟩
  · cases e
end
end DL

set_option Elab.async false
set_option linter.all false
namespace DL
open PySem L2 PySem.W
def allO : List (Option Bool) → Option Bool
  | [] => some true
  | some b :: r => (allO r).map fun c => b && c
  | none :: _ => none
def D.plain : D → Bool
  | .non => true
  | .bl _ => true
  | .int _ => true
  | .str _ => true
  | .lst _ => true
  | .tup _ => true
  | _ => false
def eqF : Nat → D → D → Option Bool
  | 0, _, _ => none
  | n + 1, d, e => match d, e with
    | .non, .non => some true
    | .bl a, .bl b => some (a == b)
    | .bl a, .int b => some ((if a then 1 else 0) == b)
    | .int a, .bl b => some (a == (if b then 1 else 0))
    | .int a, .int b => some (a == b)
    | .str a, .str b => some (a == b)
    | .lst xs, .lst ys => if xs.length = ys.length then allO (List.zipWith (eqF n) xs ys) else some false
    | .tup xs, .tup ys => (allO (List.zipWith (eqF n) xs ys)).map fun b => b && (xs.length == ys.length)
    | d, e => if d.plain && e.plain then some false else none
theorem allO_some : ∀ {l : List (Option Bool)} {b : Bool}, allO l = some b → ∃ bs : List Bool, l = bs.map some ∧ b = bs.all id
  | [], b, h => by cases h; exact ⟨[], rfl, rfl⟩
  | some c :: r, b, h => by
    unfold allO at h
    cases e : allO r with
    | none => rw [e] at h; cases h
    | some d =>
      rw [e] at h
      obtain ⟨bs, h1, h2⟩ := allO_some e
      cases h
      exact ⟨c :: bs, by rw [h1]; rfl, by rw [h2]; rfl⟩
  | none :: r, b, h => by cases h
section
variable {κ : Kt} {X : Cx} {pins : List (Addr × Obj)} {σ : L2.St} {H : Hp} {s : Shared} {Av Av' : Addr → Prop}
theorem DVs.item {vs : List V} {ds : List D} {j : Nat} (h : DVs κ H Av vs ds) (hj : j < vs.length) : DV κ H Av vs[j] (ds[j]'(by rw [← h.length]; exact hj)) := by
  obtain ⟨v, e1, e2⟩ := h.get (i := j) (d := ds[j]'(by rw [← h.length]; exact hj)) (List.getElem?_eq_getElem _)
  rw [List.getElem?_eq_getElem hj] at e1
  cases e1
  exact e2
theorem Vals.item {vs : List V} {us : List Value} {j : Nat} (h : Vals vs us) (hj : j < vs.length) (hu : j < us.length) : RelV vs[j] us[j] := by
  obtain ⟨u, e1, e2⟩ := h.get (i := j) (x := vs[j]) (List.getElem?_eq_getElem hj)
  rw [List.getElem?_eq_getElem hu] at e1
  cases e1
  exact e2
theorem all_range {bs : List Bool} {n : Nat} (h : bs.length = n) : (List.range n).all (fun j => bs.getD j true) = bs.all id := by
  subst h
  apply Bool.eq_iff_iff.mpr
  rw [List.all_eq_true, List.all_eq_true]
  constructor
  · intro k x hx
    obtain ⟨j, hj, e⟩ := List.mem_iff_getElem.mp hx
    have := k j (List.mem_range.mpr hj)
    rw [List.getD_eq_getElem?_getD, List.getElem?_eq_getElem hj] at this
    rw [← e]; exact this
  · intro k j hj
    have hj := List.mem_range.mp hj
    rw [List.getD_eq_getElem?_getD, List.getElem?_eq_getElem hj]
    exact k _ (List.getElem_mem hj)
theorem zip_at {n : Nat} {xs ys : List D} {bs : List Bool} (h : List.zipWith (eqF n) xs ys = bs.map some) {j : Nat} (h1 : j < xs.length) (h2 : j < ys.length) : eqF n xs[j] ys[j] = some (bs.getD j true) := by
  have hl : (List.zipWith (eqF n) xs ys).length = min xs.length ys.length := List.length_zipWith
  have hj : j < (List.zipWith (eqF n) xs ys).length := by omega
  have hb : j < bs.length := by rw [h, List.length_map] at hj; exact hj
  have e : (List.zipWith (eqF n) xs ys)[j] = eqF n xs[j] ys[j] := by simp
  have e2 : (List.zipWith (eqF n) xs ys)[j] = some bs[j] := by simp [h]
  rw [← e, e2, List.getD_eq_getElem?_getD, List.getElem?_eq_getElem hb]
  all_goals rfl
theorem list_no_tuple (I : Inv X pins σ H s) {a : Addr} {xs ys : List V} (h1 : H a = some (.lst xs)) (h2 : SqT X.K H a ys) : False := by
  obtain ⟨_, _, ⟨o, n, e1, c1, _⟩, _⟩ := I.list (.of h1)
  obtain ⟨_, _, ⟨o2, e2, c2, _⟩, _⟩ := I.tuple h2
  rw [e1] at e2
  cases e2
  rw [c1] at c2
  injection c2 with z
  exact absurd z (by decide)
theorem eqF_same (I : Inv X pins σ H s) (hk : X.K = κ.K) : ∀ (n : Nat) {d e : D} {v : V} {b : Bool}, DV κ H Av v d → DV κ H Av' v e → eqF n d e = some b → b = true
  | 0, _, _, _, _, _, _, h => nomatch h
  | n + 1, d, e, v, b, h1, h2, h => by
    have zip : ∀ {vs : List V} {xs ys : List D} {c : Bool}, DVs κ H Av vs xs → DVs κ H Av' vs ys → allO (List.zipWith (eqF n) xs ys) = some c → c = true := fun {vs xs ys c} g1 g2 g => by
      obtain ⟨bs, e1, e2⟩ := allO_some g
      rw [e2, List.all_eq_true]
      intro b hb
      obtain ⟨j, hj, ej⟩ := List.mem_iff_getElem.mp hb
      have l1 := g1.length
      have l2 := g2.length
      have lz : (List.zipWith (eqF n) xs ys).length = bs.length := by rw [e1, List.length_map]
      rw [List.length_zipWith] at lz
      have q := zip_at e1 (j := j) (by omega) (by omega)
      rw [List.getD_eq_getElem?_getD, List.getElem?_eq_getElem hj] at q
      have r := eqF_same I hk n (g1.item (j := j) (by omega)) (g2.item (j := j) (by omega)) q
      rw [← ej]; exact r
    cases h1 with
    | non => cases h2; cases h; rfl
    | bl c => cases h2; simp only [eqF] at h; cases h; simp
    | int c => cases h2; simp only [eqF] at h; cases h; simp
    | str c => cases h2; simp only [eqF] at h; cases h; simp
    | ty c => cases e <;> simp [eqF, D.plain] at h
    | cls c => cases e <;> simp [eqF, D.plain] at h
    | scr _ _ _ => cases e <;> simp [eqF, D.plain] at h
    | dK _ _ _ => cases e <;> simp [eqF, D.plain] at h
    | dT _ _ _ _ => cases e <;> simp [eqF, D.plain] at h
    | set _ _ => cases e <;> simp [eqF, D.plain] at h
    | ins _ _ _ => cases e <;> simp [eqF, D.plain] at h
    | insN _ _ => cases e <;> simp [eqF, D.plain] at h
    | dctN _ _ => cases e <;> simp [eqF, D.plain] at h
    | @lst a xs ds r1 _ g1 =>
      cases h2 with
      | lst r2 _ g2 =>
        rw [r1] at r2
        cases r2
        have hl : ds.length = _ := g1.length.symm.trans g2.length
        simp only [eqF, hl, if_true] at h
        exact zip g1 g2 h
      | tup r2 _ _ => rw [r1] at r2; cases r2
      | tup0 r2 => exact (list_no_tuple I r1 (hk ▸ r2.sq)).elim
      | _ => simp [eqF, D.plain] at h
    | @tup a xs ds r1 n1 g1 =>
      cases e with
      | tup es =>
        obtain ⟨a', ys, e1, sq, g2⟩ := h2.tup_inv
        cases e1
        have ex := I.tuple_inj (.of r1) (hk ▸ sq)
        subst ex
        have hl : ds.length = es.length := g1.length.symm.trans g2.length
        simp only [eqF, hl, Option.map_eq_some_iff] at h
        obtain ⟨c, hc, eb⟩ := h
        rw [← eb, zip g1 g2 hc]
        simp
      | lst es =>
        obtain ⟨a', ys, e1, h3, _⟩ := h2.lst_inv
        cases e1
        rw [r1] at h3; cases h3
      | non => cases h2
      | bl _ => cases h2
      | int _ => cases h2
      | str _ => cases h2
      | _ => simp [eqF, D.plain] at h
    | ktup _ _ => cases e <;> simp [eqF, D.plain] at h
    | @tup0 a r1 =>
      have g1 : DVs κ H Av [] [] := .nil
      cases e with
      | tup es =>
        obtain ⟨a', ys, e1, sq, g2⟩ := h2.tup_inv
        cases e1
        have ex := I.tuple_inj (hk ▸ r1.sq) (hk ▸ sq)
        subst ex
        have hl : ([] : List D).length = es.length := g1.length.symm.trans g2.length
        simp only [eqF, hl, Option.map_eq_some_iff] at h
        obtain ⟨c, hc, eb⟩ := h
        rw [← eb, zip g1 g2 hc]
        simp
      | lst es =>
        obtain ⟨a', ys, e1, h3, _⟩ := h2.lst_inv
        cases e1
        exact (list_no_tuple I h3 (hk ▸ r1.sq)).elim
      | non => cases h2
      | bl _ => cases h2
      | int _ => cases h2
      | str _ => cases h2
      | _ => simp [eqF, D.plain] at h
def Cmp3 (A : Around) (s : Shared) (v u : Value) (b : Bool) : Prop := SeqAt.EqAt A s v u b ∧ SeqAt.RcAt A s v u b ∧ SeqAt.RcNeAt A s v u (!b)
theorem eqF_at (I : Inv X pins σ H s) (hk : X.K = κ.K) : ∀ (n : Nat) (A : Around) {d e : D} {x y : V} {v u : Value} {b : Bool}, A.units + n < cLine → DV κ H Av x d → DV κ H Av' y e → RelV x v → RelV y u → eqF n d e = some b → Cmp3 A s v u b
  | 0, _, _, _, _, _, _, _, _, _, _, _, _, _, h => nomatch h
  | n + 1, A, d, e, x, y, v, u, b, hu, h1, h2, r1, r2, h => by
    have hn : A.units < cLine := by omega
    have hin : A.in1.units + n < cLine := by show A.units + 1 + n < cLine; omega
    have zip : ∀ {xs ys : List D} {vs ws : List V} {us zs : List Value} {bs : List Bool}, DVs κ H Av vs xs → DVs κ H Av' ws ys → Vals vs us → Vals ws zs → List.zipWith (eqF n) xs ys = bs.map some →
        ∀ j (h1 : j < us.toArray.size) (h2 : j < zs.toArray.size), SeqAt.EqAt A.in1 s us.toArray[j] zs.toArray[j] (bs.getD j true) := fun {xs ys vs ws us zs bs} g1 g2 q1 q2 e j j1 j2 => by
      rw [List.size_toArray] at j1 j2
      have l1 := g1.length
      have l2 := g2.length
      have m1 := q1.length
      have m2 := q2.length
      have := (eqF_at I hk n A.in1 hin (g1.item (j := j) (by omega)) (g2.item (j := j) (by omega)) (Vals.item q1 (by omega) j1) (Vals.item q2 (by omega) j2) (zip_at e (j := j) (by omega) (by omega))).1
      simpa using this
    have refs : ∀ {a a' : Addr}, x = .ref a → y = .ref a' → SeqAt.RcAt A s (.ref a) (.ref a') b → SeqAt.EqAt A s (.ref a) (.ref a') b := fun {a a'} e1 e2 k => by
      by_cases z : a = a'
      · subst z; subst e1; subst e2
        rw [eqF_same I hk (n + 1) h1 h2 h]
        exact SeqAt.EqAt.same _
      · exact .of_refs z k
    cases d with
    | non =>
      have ex := h1.non_inv; subst ex
      have ev : v = Value.none := r1; subst ev
      cases e with
      | non => have ey := h2.non_inv; subst ey; have eu : u = Value.none := r2; subst eu; cases h; exact ⟨.same _, .none_none, .none_none⟩
      | bl c => have ey := h2.bl_inv; subst ey; have eu : u = Value.bool c := r2; subst eu; cases h; exact ⟨.none_bool c, .none_bool c, .none_bool c⟩
      | int c => have ey := h2.int_inv; subst ey; obtain ⟨t, rfl⟩ := r2; cases h; exact ⟨.none_int c t, .none_int c t, .none_int c t⟩
      | str c => have ey := h2.str_inv; subst ey; obtain ⟨t, rfl⟩ := r2; cases h; exact ⟨.none_str c t, .none_str c t, .none_str c t⟩
      | lst es => obtain ⟨a, ys, rfl, g1, _, g2⟩ := h2.lst_inv; have eu : u = Value.ref a := r2; subst eu; obtain ⟨zs, q, pl, _⟩ := I.list (.of g1); cases h; exact ⟨.none_list pl.isList hn, .none_list pl.isList hn, .none_list pl.isList hn⟩
      | tup es => obtain ⟨a, ys, rfl, g1, g2⟩ := h2.tup_inv; have eu : u = Value.ref a := r2; subst eu; obtain ⟨zs, q, pl, _⟩ := I.tuple (hk ▸ g1); cases h; exact ⟨.none_tuple pl hn, .none_tuple pl hn, .none_tuple pl hn⟩
      | _ => simp [eqF, D.plain] at h
    | bl k =>
      have ex := h1.bl_inv; subst ex
      have ev : v = Value.bool k := r1; subst ev
      cases e with
      | non => have ey := h2.non_inv; subst ey; have eu : u = Value.none := r2; subst eu; cases h; exact ⟨.bool_none k, .bool_none k, .bool_none k⟩
      | bl c => have ey := h2.bl_inv; subst ey; have eu : u = Value.bool c := r2; subst eu; cases h; exact ⟨.bool_bool k c, .bool_bool k c, .bool_bool k c⟩
      | int c => have ey := h2.int_inv; subst ey; obtain ⟨t, rfl⟩ := r2; cases h; exact ⟨.bool_int k c t, .bool_int k c t, .bool_int k c t⟩
      | str c => have ey := h2.str_inv; subst ey; obtain ⟨t, rfl⟩ := r2; cases h; exact ⟨.bool_str k c t, .bool_str k c t, .bool_str k c t⟩
      | lst es => obtain ⟨a, ys, rfl, g1, _, g2⟩ := h2.lst_inv; have eu : u = Value.ref a := r2; subst eu; obtain ⟨zs, q, pl, _⟩ := I.list (.of g1); cases h; exact ⟨.bool_list k pl.isList hn, .bool_list k pl.isList hn, .bool_list k pl.isList hn⟩
      | tup es => obtain ⟨a, ys, rfl, g1, g2⟩ := h2.tup_inv; have eu : u = Value.ref a := r2; subst eu; obtain ⟨zs, q, pl, _⟩ := I.tuple (hk ▸ g1); cases h; exact ⟨.bool_tuple k pl hn, .bool_tuple k pl hn, .bool_tuple k pl hn⟩
      | _ => simp [eqF, D.plain] at h
    | int k =>
      have ex := h1.int_inv; subst ex
      obtain ⟨tk, rfl⟩ := r1
      cases e with
      | non => have ey := h2.non_inv; subst ey; have eu : u = Value.none := r2; subst eu; cases h; exact ⟨.int_none k tk, .int_none k tk, .int_none k tk⟩
      | bl c => have ey := h2.bl_inv; subst ey; have eu : u = Value.bool c := r2; subst eu; cases h; exact ⟨.int_bool k tk c, .int_bool k tk c, .int_bool k tk c⟩
      | int c => have ey := h2.int_inv; subst ey; obtain ⟨t, rfl⟩ := r2; cases h; exact ⟨.int_int k tk c t, .int_int k tk c t, .int_int k tk c t⟩
      | str c => have ey := h2.str_inv; subst ey; obtain ⟨t, rfl⟩ := r2; cases h; exact ⟨.int_str k tk c t, .int_str k tk c t, .int_str k tk c t⟩
      | lst es => obtain ⟨a, ys, rfl, g1, _, g2⟩ := h2.lst_inv; have eu : u = Value.ref a := r2; subst eu; obtain ⟨zs, q, pl, _⟩ := I.list (.of g1); cases h; exact ⟨.int_list k tk pl.isList hn, .int_list k tk pl.isList hn, .int_list k tk pl.isList hn⟩
      | tup es => obtain ⟨a, ys, rfl, g1, g2⟩ := h2.tup_inv; have eu : u = Value.ref a := r2; subst eu; obtain ⟨zs, q, pl, _⟩ := I.tuple (hk ▸ g1); cases h; exact ⟨.int_tuple k tk pl hn, .int_tuple k tk pl hn, .int_tuple k tk pl hn⟩
      | _ => simp [eqF, D.plain] at h
    | str k =>
      have ex := h1.str_inv; subst ex
      obtain ⟨tk, rfl⟩ := r1
      cases e with
      | non => have ey := h2.non_inv; subst ey; have eu : u = Value.none := r2; subst eu; cases h; exact ⟨.str_none k tk, .str_none k tk, .str_none k tk⟩
      | bl c => have ey := h2.bl_inv; subst ey; have eu : u = Value.bool c := r2; subst eu; cases h; exact ⟨.str_bool k tk c, .str_bool k tk c, .str_bool k tk c⟩
      | int c => have ey := h2.int_inv; subst ey; obtain ⟨t, rfl⟩ := r2; cases h; exact ⟨.str_int k tk c t, .str_int k tk c t, .str_int k tk c t⟩
      | str c => have ey := h2.str_inv; subst ey; obtain ⟨t, rfl⟩ := r2; cases h; exact ⟨.str_str k tk c t, .str_str k tk c t, .str_str k tk c t⟩
      | lst es => obtain ⟨a, ys, rfl, g1, _, g2⟩ := h2.lst_inv; have eu : u = Value.ref a := r2; subst eu; obtain ⟨zs, q, pl, _⟩ := I.list (.of g1); cases h; exact ⟨.str_list k tk pl.isList hn, .str_list k tk pl.isList hn, .str_list k tk pl.isList hn⟩
      | tup es => obtain ⟨a, ys, rfl, g1, g2⟩ := h2.tup_inv; have eu : u = Value.ref a := r2; subst eu; obtain ⟨zs, q, pl, _⟩ := I.tuple (hk ▸ g1); cases h; exact ⟨.str_tuple k tk pl hn, .str_tuple k tk pl hn, .str_tuple k tk pl hn⟩
      | _ => simp [eqF, D.plain] at h
    | lst ds =>
      obtain ⟨a, xs, rfl, g1, _, g2⟩ := h1.lst_inv
      have ev : v = Value.ref a := r1
      obtain ⟨us, q1, pl, _⟩ := I.list (.of g1)
      cases e with
      | non => subst ev; have ey := h2.non_inv; subst ey; have eu : u = Value.none := r2; subst eu; cases h; exact ⟨.list_none pl.isList hn, .list_none pl.isList hn, .list_none pl.isList hn⟩
      | bl c => subst ev; have ey := h2.bl_inv; subst ey; have eu : u = Value.bool c := r2; subst eu; cases h; exact ⟨.list_bool c pl.isList hn, .list_bool c pl.isList hn, .list_bool c pl.isList hn⟩
      | int c => subst ev; have ey := h2.int_inv; subst ey; obtain ⟨t, rfl⟩ := r2; cases h; exact ⟨.list_int c t pl.isList hn, .list_int c t pl.isList hn, .list_int c t pl.isList hn⟩
      | str c => subst ev; have ey := h2.str_inv; subst ey; obtain ⟨t, rfl⟩ := r2; cases h; exact ⟨.list_str c t pl.isList hn, .list_str c t pl.isList hn, .list_str c t pl.isList hn⟩
      | lst es =>
        obtain ⟨a', ys, ey, k1, _, k2⟩ := h2.lst_inv
        subst ey
        have eu : u = Value.ref a' := r2
        subst ev; subst eu
        obtain ⟨zs, q2, pl2, _⟩ := I.list (.of k1)
        have l1 := g2.length.symm.trans q1.length
        have l2 := k2.length.symm.trans q2.length
        simp only [eqF] at h
        split at h
        · rename_i hl
          obtain ⟨bs, e1, e2⟩ := allO_some h
          have hz : us.toArray.size = zs.toArray.size := by rw [List.size_toArray, List.size_toArray]; omega
          have lb : bs.length = us.toArray.size := by
            have := congrArg List.length e1
            rw [List.length_zipWith, List.length_map] at this
            rw [List.size_toArray]; omega
          rw [e2, ← all_range lb]
          have rc : SeqAt.RcAt A s (.ref a) (.ref a') ((List.range us.toArray.size).all fun j => bs.getD j true) := .lists pl.isList pl2.isList hz hn (zip g2 k2 q1 q2 e1)
          refine ⟨?_, rc, .lists pl.isList pl2.isList hz hn (zip g2 k2 q1 q2 e1)⟩
          rw [all_range lb, ← e2] at rc ⊢
          exact refs rfl rfl rc
        · rename_i hl
          cases h
          have hz : (us.toArray.size != zs.toArray.size) = true := by rw [List.size_toArray, List.size_toArray]; simp; omega
          exact ⟨refs rfl rfl (.lists_lengths pl.isList pl2.isList hz hn), .lists_lengths pl.isList pl2.isList hz hn, .lists_lengths pl.isList pl2.isList hz hn⟩
      | tup es => subst ev; obtain ⟨a', ys, rfl, k1, k2⟩ := h2.tup_inv; have eu : u = Value.ref a' := r2; subst eu; obtain ⟨zs, q, pl2, _⟩ := I.tuple (hk ▸ k1); cases h; exact ⟨.list_tuple pl.isList pl2 hn, .list_tuple pl.isList pl2 hn, .list_tuple pl.isList pl2 hn⟩
      | _ => simp [eqF, D.plain] at h
    | tup ds =>
      obtain ⟨a, xs, rfl, g1, g2⟩ := h1.tup_inv
      have ev : v = Value.ref a := r1
      obtain ⟨us, q1, pl, _⟩ := I.tuple (hk ▸ g1)
      cases e with
      | non => subst ev; have ey := h2.non_inv; subst ey; have eu : u = Value.none := r2; subst eu; cases h; exact ⟨.tuple_none pl hn, .tuple_none pl hn, .tuple_none pl hn⟩
      | bl c => subst ev; have ey := h2.bl_inv; subst ey; have eu : u = Value.bool c := r2; subst eu; cases h; exact ⟨.tuple_bool c pl hn, .tuple_bool c pl hn, .tuple_bool c pl hn⟩
      | int c => subst ev; have ey := h2.int_inv; subst ey; obtain ⟨t, rfl⟩ := r2; cases h; exact ⟨.tuple_int c t pl hn, .tuple_int c t pl hn, .tuple_int c t pl hn⟩
      | str c => subst ev; have ey := h2.str_inv; subst ey; obtain ⟨t, rfl⟩ := r2; cases h; exact ⟨.tuple_str c t pl hn, .tuple_str c t pl hn, .tuple_str c t pl hn⟩
      | lst es => subst ev; obtain ⟨a', ys, rfl, k1, _, k2⟩ := h2.lst_inv; have eu : u = Value.ref a' := r2; subst eu; obtain ⟨zs, q, pl2, _⟩ := I.list (.of k1); cases h; exact ⟨.tuple_list pl pl2.isList hn, .tuple_list pl pl2.isList hn, .tuple_list pl pl2.isList hn⟩
      | tup es =>
        obtain ⟨a', ys, ey, k1, k2⟩ := h2.tup_inv
        subst ey
        have eu : u = Value.ref a' := r2
        subst ev; subst eu
        obtain ⟨zs, q2, pl2, _⟩ := I.tuple (hk ▸ k1)
        have l1 := g2.length.symm.trans q1.length
        have l2 := k2.length.symm.trans q2.length
        simp only [eqF, Option.map_eq_some_iff] at h
        obtain ⟨c, hc, eb⟩ := h
        obtain ⟨bs, e1, e2⟩ := allO_some hc
        have lb : bs.length = min us.toArray.size zs.toArray.size := by
          have := congrArg List.length e1
          rw [List.length_zipWith, List.length_map] at this
          rw [List.size_toArray, List.size_toArray]; omega
        have hz : (us.toArray.size == zs.toArray.size) = (ds.length == es.length) := by rw [List.size_toArray, List.size_toArray, l1, l2]
        rw [← eb, e2, ← all_range lb, ← hz]
        have rc : SeqAt.RcAt A s (.ref a) (.ref a') ((List.range (min us.toArray.size zs.toArray.size)).all (fun j => bs.getD j true) && us.toArray.size == zs.toArray.size) := .tuples pl pl2 hn (zip g2 k2 q1 q2 e1)
        refine ⟨?_, rc, .tuples pl pl2 hn (zip g2 k2 q1 q2 e1)⟩
        rw [all_range lb, ← e2, hz, eb] at rc ⊢
        exact refs rfl rfl rc
      | _ => simp [eqF, D.plain] at h
    | _ => cases e <;> simp [eqF, D.plain] at h
end
def neD (x y : D) : Option T := (eqF 40 x y).map fun b => .fr (.bl (!b))
def rEqDD (κ : Kt) (neg : Bool) : R2 := fun x y H Q => ∃ d e b Av Av', DV κ H Av x d ∧ DV κ H Av' y e ∧ eqF 40 d e = some b ∧ Q (.bl (if neg then !b else b)) H
theorem op_neDD {κ : Kt} {X : Cx} (hk : X.K = κ.K) (hu : X.A.units + 64 < cLine) : OpR X (compareOp .NotEq) (rEqDD κ true) := by
  intro pins s σ H x y v u Q I rx ry h
  obtain ⟨d, e, b, Av, Av', h1, h2, h3, q⟩ := h
  exact (eqF_at I hk 40 X.A (by omega) h1 h2 rx ry h3).2.2 X.prog X.w _ _ ⟨.bl (!b), H, I, rfl, q⟩
theorem v_ne {κ : Kt} : VOp2 κ (rEqDD κ true) neD := by
  intro H Q Av x y tx ty t hA hx hy e k
  unfold neD at e
  rw [Option.map_eq_some_iff] at e
  obtain ⟨b, hb, rfl⟩ := e
  exact ⟨_, _, b, _, _, hx.dv, hy.dv, hb, k _ H (.here (.bl _))⟩
end DL

set_option Elab.async false
set_option linter.all false
namespace DL
open PySem L2
def inF (x : D) (ds : List D) : Option Bool := if (ds.all fun d => (eqF 39 d x).isSome) = true then some (ds.any fun d => eqF 39 d x == some true) else none
def itemsD : D → Option (List D)
  | .lst ds => some ds
  | .tup ds => some ds
  | .scr ds => some ds
  | .ktup ds => some ds
  | _ => none
def SqA (K : PySem.W.Frag) (H : Hp) (a : Addr) (xs : List V) : Prop := SqL K H a xs ∨ SqT K H a xs
section
variable {κ : Kt} {H : Hp} {Av : Addr → Prop} {v : V} {t : T}
theorem TR.items {y : D} {ds : List D} (h : TR κ H Av v t) (e : t.view = y) (ey : itemsD y = some ds) : ∃ a xs, v = .ref a ∧ SqA κ.K H a xs ∧ DVs κ H Av xs ds := by
  cases y with
  | lst es => cases ey; obtain ⟨a, xs, h1, h2, h3⟩ := h.lst e; exact ⟨a, xs, h1, .inl (.of h2), h3⟩
  | tup es => cases ey; obtain ⟨a, xs, h1, h2, h3, _⟩ := h.tup e; exact ⟨a, xs, h1, .inr h2, h3⟩
  | ktup es =>
    cases ey
    cases t with
    | fr d => cases e; cases (show DV κ H Av v (.ktup ds) from h) with | ktup h1 h2 => exact ⟨_, _, rfl, .inr h1.sq, h2⟩
    | _ => cases e
  | scr es => cases ey; obtain ⟨a, o, xs, h1, h2, h3⟩ := h.scr e; exact ⟨a, xs, h1, .inl (.inl (.inr ⟨o, h2⟩)), h3⟩
  | _ => cases ey
end
def rInDD (κ : Kt) (neg : Bool) : R2 := fun x y H Q => ∃ dx a xs ds b Av Av', y = .ref a ∧ SqA κ.K H a xs ∧ DVs κ H Av xs ds ∧ DV κ H Av' x dx ∧ inF dx ds = some b ∧ Q (.bl (if neg then !b else b)) H
theorem in_items {κ : Kt} {X : Cx} {pins : List (Addr × Obj)} {σ : L2.St} {H : Hp} {s : Shared} {Av Av' : Addr → Prop} {xs : List V} {ds : List D} {its : List Value} {x : V} {v : Value} {dx : D} {b : Bool} (hk : X.K = κ.K) (hu : X.A.units + 64 < cLine)
    (I : Inv X pins σ H s) (g : DVs κ H Av xs ds) (r : Vals xs its) (hx : DV κ H Av' x dx) (rx : RelV x v) (h : inF dx ds = some b) :
    ∃ e : Value → Bool, (∀ y, y ∈ its.toArray → SeqAt.EqAt X.A.in1 s y v (e y)) ∧ its.toArray.any e = b := by
  unfold inF at h
  split at h
  case isFalse => cases h
  rename_i ha
  cases h
  rw [List.all_eq_true] at ha
  have l1 := g.length
  have l2 := r.length
  have at' : ∀ j (hj : j < its.length), ∃ c, eqF 39 (ds[j]'(by omega)) dx = some c ∧ SeqAt.EqAt X.A.in1 s its[j] v c := fun j hj => by
    have q := ha _ (List.getElem_mem (l := ds) (n := j) (by omega))
    obtain ⟨c, hc⟩ := Option.isSome_iff_exists.mp q
    exact ⟨c, hc, (eqF_at I hk 39 X.A.in1 (by show X.A.units + 1 + 39 < cLine; omega) (g.item (j := j) (by omega)) hx (Vals.item r (by omega) hj) rx hc).1⟩
  let P : Value → Prop := fun y => ∃ j, ∃ hj : j < its.length, its[j] = y ∧ eqF 39 (ds[j]'(by omega)) dx = some true
  refine ⟨fun y => @decide (P y) (Classical.propDecidable _), fun y hy => ?_, ?_⟩
  · obtain ⟨j, hj, e⟩ := List.mem_iff_getElem.mp (List.mem_toArray.mp hy)
    by_cases z : P y
    · obtain ⟨j', hj', e', ht⟩ := id z
      obtain ⟨c, hc, ec⟩ := at' j' hj'
      rw [ht] at hc; cases hc
      rw [e'] at ec
      simpa [z] using ec
    · obtain ⟨c, hc, ec⟩ := at' j hj
      cases c with
      | true => exact absurd ⟨j, hj, e, hc⟩ z
      | false => rw [e] at ec; simpa [z] using ec
  · apply Bool.eq_iff_iff.mpr
    rw [List.any_toArray, List.any_eq_true, List.any_eq_true]
    constructor
    · rintro ⟨y, hy, z⟩
      obtain ⟨j, hj, e, ht⟩ := @of_decide_eq_true _ (Classical.propDecidable _) z
      exact ⟨_, List.getElem_mem (l := ds) (n := j) (by omega), by simp [ht]⟩
    · rintro ⟨d, hd, z⟩
      obtain ⟨j, hj, e⟩ := List.mem_iff_getElem.mp hd
      refine ⟨its[j]'(by omega), List.getElem_mem _, @decide_eq_true _ (Classical.propDecidable _) ⟨j, by omega, rfl, ?_⟩⟩
      rw [e]; simpa using z
theorem op_inDD {κ : Kt} {X : Cx} (hk : X.K = κ.K) (hu : X.A.units + 64 < cLine) : OpR X (compareOp .In) (rInDD κ false) := by
  intro pins s σ H x y v u Q I rx ry h
  obtain ⟨dx, a, xs, ds, b, Av, Av', rfl, sq, g, hx, e, q⟩ := h
  cases (show u = Value.ref a from ry)
  rcases sq with sq | sq
  · obtain ⟨its, r, pl, hz⟩ := I.list (hk ▸ sq)
    obtain ⟨f, f1, f2⟩ := in_items hk hu I g r hx rx e
    exact SeqAt.in_listAt f pl.isList f1 ⟨.bl _, H, I, rfl, by rw [f2]; exact q⟩
  · obtain ⟨its, r, pl, hz⟩ := I.tuple (hk ▸ sq)
    obtain ⟨f, f1, f2⟩ := in_items hk hu I g r hx rx e
    exact SeqAt.in_tupleAt f pl f1 ⟨.bl _, H, I, rfl, by rw [f2]; exact q⟩
theorem op_notInDD {κ : Kt} {X : Cx} (hk : X.K = κ.K) (hu : X.A.units + 64 < cLine) : OpR X (compareOp .NotIn) (rInDD κ true) := by
  intro pins s σ H x y v u Q I rx ry h
  obtain ⟨dx, a, xs, ds, b, Av, Av', rfl, sq, g, hx, e, q⟩ := h
  cases (show u = Value.ref a from ry)
  rcases sq with sq | sq
  · obtain ⟨its, r, pl, hz⟩ := I.list (hk ▸ sq)
    obtain ⟨f, f1, f2⟩ := in_items hk hu I g r hx rx e
    exact SeqAt.notIn_listAt f pl.isList f1 ⟨.bl _, H, I, rfl, by rw [f2]; exact q⟩
  · obtain ⟨its, r, pl, hz⟩ := I.tuple (hk ▸ sq)
    obtain ⟨f, f1, f2⟩ := in_items hk hu I g r hx rx e
    exact SeqAt.notIn_tupleAt f pl f1 ⟨.bl _, H, I, rfl, by rw [f2]; exact q⟩
structure PostB (κ : Kt) (B : Addr → Prop) (σ : Sg) (H : Hp) (S : En) (H' : Hp) (S' : En) : Prop where
  keep : ∀ b o, H b = some o → ¬ OwnAt S σ b → H' b = some o
  sub : ∀ a, OwnAt S' σ a → OwnAt S σ a
  good : Good κ B H' σ S'
def OutB (κ : Kt) (W : WX) (B : Addr → Prop) (σ : Sg) (H : Hp) (S : En) (Q : Bool → Hp → Prop) : Res Bool → Prop
  | .ok b S' => ∀ H', PostB κ B σ H S H' S' → Q b H'
  | .exc x S' => ∀ d H', PostX κ B σ H S H' S' x d → W (.ref (κ.cA x.c)) (some d) (unG σ) H'
  | .stuck => False
def tT (κ : Kt) (W : WX) (f : M Bool) : TT := fun σ H Q => ∃ (B : Addr → Prop) (S : En) (τ : Sg), unG τ = σ ∧ Good κ B H τ S ∧ OutB κ W B τ H S Q (f S)
theorem _root_.L2.PT.weak {X : Cx} {e : Expr} {t t' : TT} (h : PT X e t) (k : ∀ σ H Q, t' σ H Q → t σ H Q) : PT X e t' := ⟨fun pins s σ H Q I q => h.run pins s σ H Q I (k σ H Q q)⟩
theorem _root_.L2.PW.weak {X : Cx} {e : Expr} {t t' : TT} (h : PW X e t) (k : ∀ σ H Q, t' σ H Q → t σ H Q) : PW X e t' := ⟨fun wh pins s σ H Q I q => h.run wh pins s σ H Q I (k σ H Q q)⟩
def bOf (f : M Rv) : M Bool := M.bind f fun r S => match viewR r S with
  | some (.bl b) => .ok b S
  | _ => .stuck
section
variable {κ : Kt} {W : WX} {B B' B1 B2 : Addr → Prop} {H H' H1 H2 H3 : Hp} {σ : Sg} {S S' S1 S2 S3 : En} {v v1 v2 : G} {r r1 r2 : Rv} {Q R : VK}
theorem Chain.postB (c : Chain κ B σ H S B1 H1 S1) : PostB κ B σ H S H1 S1 := ⟨c.keep, c.sub, c.good.weaken c.le⟩
theorem Chain.stepB (c : Chain κ B σ H S B1 H1 S1) (p : PostB κ B1 σ H1 S1 H2 S2) : Chain κ B σ H S B1 H2 S2 :=
  ⟨fun b o e n => p.keep b o (c.keep b o e n) fun z => n (c.sub b z), fun a z => c.sub a (p.sub a z), c.le, p.good⟩
theorem Chain.bindB {QB : Bool → Hp → Prop} {f : M Rv} {k : Rv → M Bool} (c : Chain κ B σ H S B1 H1 S1) (o : OutB κ W B σ H S QB (M.bind f k S1))
    (hk : ∀ S2 H2 (v : G) r, Post κ B1 σ H1 S1 H2 S2 v r → OutB κ W B σ H S QB (k r S2) → R v.1 H2) : tE κ W f (unG σ) H1 R := by
  refine tE_iff.mpr ⟨B1, S1, σ, rfl, c.good, ?_⟩
  unfold M.bind at o
  cases e : f S1 with
  | ok r S2 => rw [e] at o; exact fun v H2 p => hk S2 H2 v r p o
  | exc x S2 => rw [e] at o; exact fun d H2 p => o d H2 (c.postX p)
  | stuck => rw [e] at o; exact o
theorem Chain.bindT {RB : Bool → Hp → Prop} {f : M Bool} {k : Bool → M Rv} (c : Chain κ B σ H S B1 H1 S1) (o : Out κ W B σ H S Q (M.bind f k S1))
    (hk : ∀ S2 H2 b, PostB κ B1 σ H1 S1 H2 S2 → Out κ W B σ H S Q (k b S2) → RB b H2) : tT κ W f (unG σ) H1 RB := by
  refine ⟨B1, S1, σ, rfl, c.good, ?_⟩
  unfold M.bind at o
  cases e : f S1 with
  | ok b S2 => rw [e] at o; exact fun H2 p => hk S2 H2 b p o
  | exc x S2 => rw [e] at o; exact fun d H2 p => o d H2 (c.postX p)
  | stuck => rw [e] at o; exact o
theorem Chain.bindTT {QB RB : Bool → Hp → Prop} {f : M Bool} {k : Bool → M Bool} (c : Chain κ B σ H S B1 H1 S1) (o : OutB κ W B σ H S QB (M.bind f k S1))
    (hk : ∀ S2 H2 b, PostB κ B1 σ H1 S1 H2 S2 → OutB κ W B σ H S QB (k b S2) → RB b H2) : tT κ W f (unG σ) H1 RB := by
  refine ⟨B1, S1, σ, rfl, c.good, ?_⟩
  unfold M.bind at o
  cases e : f S1 with
  | ok b S2 => rw [e] at o; exact fun H2 p => hk S2 H2 b p o
  | exc x S2 => rw [e] at o; exact fun d H2 p => o d H2 (c.postX p)
  | stuck => rw [e] at o; exact o
theorem bOf_red {f : M Rv} {QB : Bool → Hp → Prop} {σ : L2.St} (h : tT κ W (bOf f) σ H QB) : tE κ W f σ H fun x H1 => ∃ k, x = .bl k ∧ QB k H1 := by
  obtain ⟨B, S, τ, rfl, g, o⟩ := h
  refine (Chain.refl g).bindB o fun S1 H1 v r p o1 => ?_
  have c1 := (Chain.refl g).step p
  split at o1
  · rename_i b e
    obtain ⟨t, h1, h2⟩ := RvR.view c1.good p.rv e
    exact ⟨b, h1.bl h2, o1 H1 c1.postB⟩
  · exact o1.elim
end
def bNot (f : M Bool) : M Bool := M.bind f fun b => M.ret (!b)
def bAnd (f g : M Bool) : M Bool := M.bind f fun b => if b = true then g else M.ret false
def bOr (f g : M Bool) : M Bool := M.bind f fun b => if b = true then M.ret true else g
def eAnd (f g : M Rv) : M Rv := M.bind (bOf f) fun b => if b = true then g else M.ret (.tmp (.fr (.bl false)))
def eNot (f : M Rv) : M Rv := M.bind (bOf f) fun b => M.ret (.tmp (.fr (.bl (!b))))
def eIf (c : M Bool) (f g : M Rv) : M Rv := M.bind c fun b => if b = true then f else g
section
variable {X : Cx} {κ : Kt} {W : WX} {a b c e : Expr} {fa fb fc : M Rv} {ga gb : M Bool} {pos : Pos} {rest : List Expr}
theorem dt_val (h : PE X e (tE κ W fa)) (he : ∀ whole, isTrue e X.env whole = (do let v ← whole; standAt e.pos; holding [v] (truthy v)) := by intro _; rfl) : PT X e (tT κ W (bOf fa)) :=
  (pt_val h he).weak fun σ H Q h => bOf_red h
theorem dt_cmp {op : CmpOp} {r : R2} {g : D → D → Option T} (ho : OpR X (compareOp op) r) (hv : VOp2 κ r g) (ha : PE X a (tE κ W fa)) (hb : PE X b (tE κ W fb)) (hm : behindInMarks op b = false) : PT X (.Compare a [op] [b] pos) (tT κ W (bOf (eBin g fa fb))) :=
  (pt_cmpR ho ha hb hm).weak fun σ H Q h => two_red hv (bOf_red h)
theorem tail_ok {κ : Kt} {W : WX} {B B1 : Addr → Prop} {H H1 : Hp} {σ : Sg} {S S1 : En} {Q : VK} {g : M Rv} (ch : Chain κ B σ H S B1 H1 S1) (o : Out κ W B σ H S Q (g S1)) (hB : ∀ b, B1 b → B b) : tE κ W g (unG σ) H1 Q := by
  refine tE_iff.mpr ⟨B, S1, σ, rfl, ch.good.weaken ch.le, ?_⟩
  cases e : g S1 with
  | ok r S2 =>
    rw [e] at o
    exact fun v H2 p => o v H2 ⟨fun b u e n => p.keep b u (ch.keep b u e n) fun z => n (ch.sub b z), fun a z => ch.sub a (p.sub a z), fun a z => by
      rcases p.tnew a z with q | q
      · by_cases hh : H a = none
        · exact .inl hh
        · refine .inr ⟨?_, fun z => ?_⟩
          · refine Classical.byContradiction fun no => ?_
            cases e : H a with
            | none => exact hh e
            | some u => have := ch.keep a u e no; rw [q] at this; cases this
          · exact (ch.good.ownTrk (p.sub a z)).nn q
      · exact .inr ⟨ch.sub a q.1, q.2⟩, p.good, p.rv⟩
  | exc x S2 =>
    rw [e] at o
    exact fun d H2 p => o d H2 (Chain.postX ⟨ch.keep, ch.sub, fun _ z => z, ch.good.weaken ch.le⟩ p)
  | stuck => rw [e] at o; exact o
theorem tail_okB {κ : Kt} {W : WX} {B B1 : Addr → Prop} {H H1 : Hp} {σ : Sg} {S S1 : En} {Q : Bool → Hp → Prop} {g : M Bool} (ch : Chain κ B σ H S B1 H1 S1) (o : OutB κ W B σ H S Q (g S1)) : tT κ W g (unG σ) H1 Q := by
  refine ⟨B, S1, σ, rfl, ch.good.weaken ch.le, ?_⟩
  cases e : g S1 with
  | ok r S2 =>
    rw [e] at o
    exact fun H2 p => o H2 ⟨fun b u e n => p.keep b u (ch.keep b u e n) fun z => n (ch.sub b z), fun a z => ch.sub a (p.sub a z), p.good⟩
  | exc x S2 =>
    rw [e] at o
    exact fun d H2 p => o d H2 (Chain.postX ⟨ch.keep, ch.sub, fun _ z => z, ch.good.weaken ch.le⟩ p)
  | stuck => rw [e] at o; exact o
theorem dt_not (ha : PT X a (tT κ W ga)) : PT X (.UnaryOp .Not a pos) (tT κ W (bNot ga)) := (pt_not ha).weak fun σ H Q ⟨B, S, τ, ec, g, o⟩ => ec ▸
  (Chain.refl g).bindTT o fun S1 H1 b p o1 => o1 H1 ((Chain.refl g).stepB p).postB
theorem dw_and1 (ha : PT X a (tT κ W ga)) : PW X (.BoolOp .And [a] pos) (tT κ W ga) := pw_and1 ha
theorem dw_or1 (ha : PT X a (tT κ W ga)) : PW X (.BoolOp .Or [a] pos) (tT κ W ga) := pw_or1 ha
theorem dw_and (ha : PT X a (tT κ W ga)) (hb : PW X (.BoolOp .And (b :: rest) pos) (tT κ W gb)) : PW X (.BoolOp .And (a :: b :: rest) pos) (tT κ W (bAnd ga gb)) := (pw_and ha hb).weak fun σ H Q ⟨B, S, τ, ec, g, o⟩ => ec ▸
  (Chain.refl g).bindTT o fun S1 H1 b p o1 => by
    cases b with
    | true => exact tail_okB ((Chain.refl g).stepB p) o1
    | false => exact o1 H1 ((Chain.refl g).stepB p).postB
theorem dw_or (ha : PT X a (tT κ W ga)) (hb : PW X (.BoolOp .Or (b :: rest) pos) (tT κ W gb)) : PW X (.BoolOp .Or (a :: b :: rest) pos) (tT κ W (bOr ga gb)) := (pw_or ha hb).weak fun σ H Q ⟨B, S, τ, ec, g, o⟩ => ec ▸
  (Chain.refl g).bindTT o fun S1 H1 b p o1 => by
    cases b with
    | false => exact tail_okB ((Chain.refl g).stepB p) o1
    | true => exact o1 H1 ((Chain.refl g).stepB p).postB
theorem de_and (ha : PE X a (tE κ W fa)) (hb : PE X (.BoolOp .And (b :: rest) pos) (tE κ W fb)) : PE X (.BoolOp .And (a :: b :: rest) pos) (tE κ W (eAnd fa fb)) := (pe_and ha hb).weak fun σ H Q h => by
  obtain ⟨B, S, τ, rfl, g, o⟩ := tE_iff.mp h
  refine bOf_red ((Chain.refl g).bindT o fun S1 H1 b p o1 => ?_)
  cases b with
  | true => exact tail_ok ((Chain.refl g).stepB p) o1 fun _ z => z
  | false => exact o1 _ H1 (((Chain.refl g).stepB p).fin (.here (.bl _)))
theorem de_one {op} (ha : PE X a (tE κ W fa)) : PE X (.BoolOp op [a] pos) (tE κ W fa) := pe_one ha
theorem de_not (ha : PE X a (tE κ W fa)) : PE X (.UnaryOp .Not a pos) (tE κ W (eNot fa)) := (pe_not ha).weak fun σ H Q h => by
  obtain ⟨B, S, τ, rfl, g, o⟩ := tE_iff.mp h
  exact bOf_red ((Chain.refl g).bindT o fun S1 H1 b p o1 => o1 _ H1 (((Chain.refl g).stepB p).fin (.here (.bl _))))
theorem de_ifExp (hc : PT X c (tT κ W ga)) (ha : PE X a (tE κ W fa)) (hb : PE X b (tE κ W fb)) : PE X (.IfExp c a b pos) (tE κ W (eIf ga fa fb)) := (pe_ifExp hc ha hb).weak fun σ H Q h => by
  obtain ⟨B, S, τ, rfl, g, o⟩ := tE_iff.mp h
  refine (Chain.refl g).bindT o fun S1 H1 b p o1 => ?_
  cases b with
  | true => exact tail_ok ((Chain.refl g).stepB p) o1 fun _ z => z
  | false => exact tail_ok ((Chain.refl g).stepB p) o1 fun _ z => z
end
end DL

set_option Elab.async false
set_option linter.all false
namespace DL
open PySem L2
def vsV (gs : List G) : List V := gs.map Prod.fst
def TmpsAt (rs : List Rv) (vs : List G) (a : Addr) : Prop := ∃ (i : Nat) (r : Rv) (v : G), rs[i]? = some r ∧ vs[i]? = some v ∧ TmpAt r v a
def BxL (B : Addr → Prop) (rs : List Rv) (vs : List G) (a : Addr) : Prop := B a ∨ TmpsAt rs vs a
structure PostL (κ : Kt) (B : Addr → Prop) (σ : Sg) (H : Hp) (S : En) (H' : Hp) (S' : En) (vs : List G) (rs : List Rv) : Prop where
  keep : ∀ b o, H b = some o → ¬ OwnAt S σ b → H' b = some o
  sub : ∀ a, OwnAt S' σ a → OwnAt S σ a
  tnew : ∀ a, TmpsAt rs vs a → H a = none ∨ (OwnAt S σ a ∧ ¬ OwnAt S' σ a)
  tB : ∀ a, TmpsAt rs vs a → ¬ B a
  dist : ∀ (i j : Nat) (r1 r2 : Rv) (v1 v2 : G) (a : Addr), rs[i]? = some r1 → rs[j]? = some r2 → vs[i]? = some v1 → vs[j]? = some v2 → TmpAt r1 v1 a → TmpAt r2 v2 a → i = j
  good : Good κ (BxL B rs vs) H' σ S'
  rv : Paired (RvR κ H' (AvS (BxL B rs vs) S' σ) σ) vs rs
def OutL (κ : Kt) (W : WX) (B : Addr → Prop) (σ : Sg) (H : Hp) (S : En) (Q : List V → Hp → Prop) : Res (List Rv) → Prop
  | .ok rs S' => ∀ (vs : List G) H', PostL κ B σ H S H' S' vs rs → Q (vsV vs) H'
  | .exc x S' => ∀ d H', PostX κ B σ H S H' S' x d → W (.ref (κ.cA x.c)) (some d) (unG σ) H'
  | .stuck => False
def tA (κ : Kt) (W : WX) (f : M (List Rv)) : TA := fun σ H Q => ∃ (B : Addr → Prop) (S : En) (τ : Sg), unG τ = σ ∧ Good κ B H τ S ∧ OutL κ W B τ H S Q (f S)
theorem _root_.L2.PA.weak {X : Cx} {e : List Expr} {t t' : TA} (h : PA X e t) (k : ∀ σ H Q, t' σ H Q → t σ H Q) : PA X e t' := ⟨fun pos pins s σ H Q I q => h.run pos pins s σ H Q I (k σ H Q q)⟩
def eNil : M (List Rv) := M.ret []
def eCons (f : M Rv) (fs : M (List Rv)) : M (List Rv) := M.bind f fun r => M.bind fs fun rs => M.ret (r :: rs)
section
variable {κ : Kt} {W : WX} {B B' B1 B2 : Addr → Prop} {H H' H1 H2 H3 : Hp} {σ : Sg} {S S' S1 S2 S3 : En} {v v1 v2 : G} {r r1 r2 : Rv} {Q R : VK} {vs : List G} {rs : List Rv}
theorem RvR.later' (h : RvR κ H1 (AvS B1 S1 σ) σ v1 r1) (hB : ∀ a, TmpAt r1 v1 a → B1 a) (g : Good κ B1 H1 σ S1) (keep : ∀ b o, H1 b = some o → ¬ OwnAt S1 σ b → H2 b = some o) (sub : ∀ a, OwnAt S2 σ a → OwnAt S1 σ a)
    (bn : ∀ b, B2 b → B1 b ∨ H1 b = none ∨ OwnAt S1 σ b) : RvR κ H2 (AvS B2 S2 σ) σ v1 r1 := by
  cases r1 with
  | slot i => exact h
  | sub i k => exact h
  | tmp t =>
    refine TRG.mono h (fun a u f q => keep a u q (g.dis a (hB a ⟨t, rfl, f⟩))) (fun b o q n => keep b o q fun z => n (.inr z)) fun b q n z => ?_
    rcases z with z | z
    · rcases bn b z with z | z | z
      · exact n (.inl z)
      · exact q z
      · exact n (.inr z)
    · exact n (.inr (sub b z))
theorem Chain.stepL (c : Chain κ B σ H S B1 H1 S1) (p : PostL κ B1 σ H1 S1 H2 S2 vs rs) : Chain κ B σ H S (BxL B1 rs vs) H2 S2 :=
  ⟨fun b o e n => p.keep b o (c.keep b o e n) fun z => n (c.sub b z), fun a z => c.sub a (p.sub a z), fun a z => .inl (c.le a z), p.good⟩
theorem Chain.bindL {f : M (List Rv)} {k : List Rv → M Rv} {RL : List V → Hp → Prop} (c : Chain κ B σ H S B1 H1 S1) (o : Out κ W B σ H S Q (M.bind f k S1))
    (hk : ∀ S2 H2 (vs : List G) rs, PostL κ B1 σ H1 S1 H2 S2 vs rs → Out κ W B σ H S Q (k rs S2) → RL (vsV vs) H2) : tA κ W f (unG σ) H1 RL := by
  refine ⟨B1, S1, σ, rfl, c.good, ?_⟩
  unfold M.bind at o
  cases e : f S1 with
  | ok r S2 => rw [e] at o; exact fun vs H2 p => hk S2 H2 vs r p o
  | exc x S2 => rw [e] at o; exact fun d H2 p => o d H2 (c.postX p)
  | stuck => rw [e] at o; exact o
theorem Chain.newer (c : Chain κ B σ H S B1 H1 S1) {a : Addr} (h : H1 a = none) : H a = none ∨ (OwnAt S σ a ∧ ¬ OwnAt S1 σ a) := by
  by_cases hh : H a = none
  · exact .inl hh
  · refine .inr ⟨?_, fun q => (c.good.ownTrk q).nn h⟩
    refine Classical.byContradiction fun no => ?_
    cases e : H a with
    | none => exact hh e
    | some o => have := c.keep a o e no; rw [h] at this; cases this
theorem postL_cons (g : Good κ B H σ S) (p1 : Post κ B σ H S H1 S1 v r) (p2 : PostL κ (Bx B r v) σ H1 S1 H2 S2 vs rs) : PostL κ B σ H S H2 S2 (v :: vs) (r :: rs) := by
  have c1 := (Chain.refl g).step p1
  have c2 := c1.stepL p2
  have sp : ∀ a, TmpsAt (r :: rs) (v :: vs) a → TmpAt r v a ∨ TmpsAt rs vs a := fun a ⟨i, r', v', e1, e2, z⟩ => by
    cases i with
    | zero => cases e1; cases e2; exact .inl z
    | succ i => exact .inr ⟨i, r', v', e1, e2, z⟩
  have no : ∀ a, TmpAt r v a → TmpsAt rs vs a → False := fun a z1 z2 => p2.tB a z2 (.inr z1)
  have le : ∀ a, BxL B (r :: rs) (v :: vs) a → BxL (Bx B r v) rs vs a := fun a z => by
    rcases z with z | z
    · exact .inl (.inl z)
    · rcases sp a z with z | z
      · exact .inl (.inr z)
      · exact .inr z
  have tn1 : ∀ a, TmpAt r v a → H a = none ∨ (OwnAt S σ a ∧ ¬ OwnAt S2 σ a) := fun a z => (p1.tnew a z).imp id fun q => ⟨q.1, fun w => q.2 (p2.sub a w)⟩
  have tn2 : ∀ a, TmpsAt rs vs a → H a = none ∨ (OwnAt S σ a ∧ ¬ OwnAt S2 σ a) := fun a z => by
    rcases p2.tnew a z with q | q
    · exact (c1.newer q).imp id fun q => ⟨q.1, fun w => q.2 (p2.sub a w)⟩
    · exact .inr ⟨c1.sub a q.1, q.2⟩
  have tn : ∀ a, TmpsAt (r :: rs) (v :: vs) a → H a = none ∨ (OwnAt S σ a ∧ ¬ OwnAt S2 σ a) := fun a z => (sp a z).elim (tn1 a) (tn2 a)
  refine ⟨c2.keep, c2.sub, tn, fun a z b => ?_, ?_, c2.good.weaken le, .cons ?_ ?_⟩
  · rcases tn a z with q | q
    · exact (g.trk a b).nn q
    · exact g.dis a b q.1
  · intro i j ra rb va vb a e1 e2 e3 e4 z1 z2
    cases i with
    | zero =>
      cases e1; cases e3
      cases j with
      | zero => rfl
      | succ j => exact (no a z1 ⟨j, rb, vb, e2, e4, z2⟩).elim
    | succ i =>
      cases j with
      | zero => cases e2; cases e4; exact (no a z2 ⟨i, ra, va, e1, e3, z1⟩).elim
      | succ j => exact congrArg _ (p2.dist i j ra rb va vb a e1 e2 e3 e4 z1 z2)
  · refine p1.rv.later' (fun a z => .inr z) p1.good p2.keep p2.sub fun b z => ?_
    rcases le b z with z | z
    · exact .inl z
    · exact .inr ((p2.tnew b z).imp id fun q => q.1)
  · refine Paired.mapP p2.rv fun v r h => ?_
    cases r with
    | slot i => exact h
    | sub i k => exact h
    | tmp t => exact TRG.less h fun b z => z.imp (le b) id
end
section
variable {X : Cx} {κ : Kt} {W : WX} {e : Expr} {es : List Expr} {f : M Rv} {fs : M (List Rv)}
theorem da_nil : PA X [] (tA κ W eNil) := pa_nil.weak fun σ H Q ⟨B, S, τ, ec, g, o⟩ => ec ▸ o ([] : List G) H
  ⟨fun _ _ e _ => e, fun _ e => e, fun a ⟨i, r, v, e, _⟩ => by simp at e, fun a ⟨i, r, v, e, _⟩ => by simp at e, fun i j r1 r2 v1 v2 a e => by simp at e,
    g.weaken fun b z => z.elim id fun ⟨i, r, v, e, _⟩ => by simp at e, .nil⟩
theorem da_cons (he : PE X e (tE κ W f)) (hr : PA X es (tA κ W fs)) (hs : starEach (e :: es) X.env = (false, eval e X.env) :: starEach es X.env := by rfl) : PA X (e :: es) (tA κ W (eCons f fs)) :=
  (pa_cons he hr hs).weak fun σ H Q ⟨B, S, τ, ec, g, o⟩ => by
    subst ec
    unfold eCons M.bind at o
    refine tE_iff.mpr ⟨B, S, τ, rfl, g, ?_⟩
    cases e1 : f S with
    | ok r S1 =>
      rw [e1] at o
      dsimp only at o
      intro v H1 p1
      refine ⟨Bx B r v, S1, τ, rfl, p1.good, ?_⟩
      cases e2 : fs S1 with
      | ok rs S2 =>
        rw [e2] at o
        exact fun vs H2 p2 => o (v :: vs) H2 (postL_cons g p1 p2)
      | exc x S2 => rw [e2] at o; exact fun d H2 p => o d H2 (((Chain.refl g).step p1).postX p)
      | stuck => rw [e2] at o; exact o
    | exc x S1 => rw [e1] at o; exact fun d H1 p => o d H1 p
    | stuck => rw [e1] at o; exact o
end
def frzR (r : Rv) (S : En) : Option (D × En) := match r with
  | .tmp t => some (t.frz, S)
  | .slot i => match S[i]? with
    | some (some t) => some (t.frz, S.set i (some (.fr t.frz)))
    | _ => none
  | .sub _ _ => none
def frzRs : List Rv → En → Option (List D × En)
  | [], S => some ([], S)
  | r :: rs, S => match frzR r S with
    | some (d, S1) => match frzRs rs S1 with
      | some (ds, S2) => some (d :: ds, S2)
      | none => none
    | none => none
section
variable {κ : Kt} {B B' : Addr → Prop} {H : Hp} {σ : Sg} {S S' : En} {v : G} {r : Rv} {vs : List G} {rs : List Rv}
theorem own_set {i : Nat} {t : T} (ht : t.own = false) {a : Addr} (h : OwnAt (S.set i (some t)) σ a) : OwnAt S σ a ∧ ∀ u, S[i]? = some (some u) → ∃ j w g, j ≠ i ∧ S[j]? = some (some w) ∧ Fp w g a ∧ σ[j]? = some (some g) := by
  obtain ⟨j, u, g, e1, e2, e3⟩ := h
  by_cases hj : i = j
  · subst hj
    by_cases hl : i < S.length
    · rw [List.getElem?_set_self hl] at e1; cases e1; rw [e2.own] at ht; cases ht
    · rw [List.getElem?_eq_none (by simpa using hl)] at e1; cases e1
  · rw [List.getElem?_set_ne hj] at e1
    exact ⟨⟨j, u, g, e1, e2, e3⟩, fun _ _ => ⟨j, u, g, fun z => hj z.symm, e1, e2, e3⟩⟩
theorem Good.freeze {i : Nat} {t : T} (g : Good κ B H σ S) (e : S[i]? = some (some t)) (ev : σ[i]? = some (some v)) :
    Good κ B H σ (S.set i (some (.fr t.frz))) ∧ DV κ H (AvS B (S.set i (some (.fr t.frz))) σ) v.1 t.frz := by
  have hi : i < S.length := (List.getElem?_eq_some_iff.mp e).1
  have sub : ∀ a, OwnAt (S.set i (some (.fr t.frz))) σ a → OwnAt S σ a := fun a z => (own_set rfl z).1
  obtain ⟨v', e1, e2⟩ := g.slot i t e
  rw [ev] at e1; cases e1
  have dv : DV κ H (AvS B (S.set i (some (.fr t.frz))) σ) v.1 t.frz := e2.freeze (fun b z => z.imp id (sub b)) fun a f z => by
    rcases z with z | z
    · exact g.dis a z ⟨i, t, v, e, f, ev⟩
    · obtain ⟨j, w, g', hj, q1, q2, q3⟩ := (own_set rfl z).2 t e
      exact hj (g.inj j i a w t g' v q1 q2 e f q3 ev)
  refine ⟨⟨by rw [List.length_set]; exact g.len, g.trk, fun b z q => g.dis b z (sub b q), fun j k a t1 t2 g1 g2 q1 q2 q3 q4 q5 q6 => ?_, fun j u q => ?_⟩, dv⟩
  · have h1 : i ≠ j := fun z => by
      subst z; rw [List.getElem?_set_self hi] at q1; cases q1; exact frno q2.own
    have h2 : i ≠ k := fun z => by
      subst z; rw [List.getElem?_set_self hi] at q3; cases q3; exact frno q4.own
    rw [List.getElem?_set_ne h1] at q1
    rw [List.getElem?_set_ne h2] at q3
    exact g.inj j k a t1 t2 g1 g2 q1 q2 q3 q4 q5 q6
  · by_cases hj : i = j
    · subst hj
      rw [List.getElem?_set_self hi] at q; cases q
      exact ⟨v, ev, dv, True.intro⟩
    · rw [List.getElem?_set_ne hj] at q
      obtain ⟨w, w1, w2⟩ := g.slot j u q
      exact ⟨w, w1, w2.less fun b z => z.imp id (sub b)⟩
theorem Good.frzR {d : D} (g : Good κ B H σ S) (hr : RvR κ H (AvS B S σ) σ v r) (h : frzR r S = some (d, S')) :
    Good κ B H σ S' ∧ (∀ a, OwnAt S' σ a → OwnAt S σ a) ∧ ∃ t, t.frz = d ∧ TRG κ H (AvS B S' σ) v t ∧ ∀ a, Fp t v a → TmpAt r v a := by
  cases r with
  | tmp t => cases h; exact ⟨g, fun _ z => z, t, rfl, hr, fun a f => ⟨t, rfl, f⟩⟩
  | slot i =>
    unfold DL.frzR at h
    dsimp only at h
    split at h
    · rename_i t e
      cases h
      obtain ⟨h1, h2⟩ := g.freeze e hr
      exact ⟨h1, fun a z => (own_set rfl z).1, .fr t.frz, rfl, ⟨h2, True.intro⟩, fun a o => frno o.own⟩
    · cases h
  | sub i k => cases h
theorem Good.frzRs : ∀ {rs : List Rv} {vs : List G} {S S' : En} {ds : List D}, Good κ B H σ S → Paired (RvR κ H (AvS B S σ) σ) vs rs → frzRs rs S = some (ds, S') →
    Good κ B H σ S' ∧ (∀ a, OwnAt S' σ a → OwnAt S σ a) ∧ ∃ ts : List T, ts.map T.frz = ds ∧ Paired (TRG κ H (AvS B S' σ)) vs ts ∧ ∀ (i : Nat) (t : T) (v : G) (a : Addr), ts[i]? = some t → vs[i]? = some v → Fp t v a → TmpsAt rs vs a
  | [], _, S, S', ds, g, .nil, h => by cases h; exact ⟨g, fun _ z => z, [], rfl, .nil, fun i t v a e => by simp at e⟩
  | r :: rs, _, S, S', ds, g, .cons (b := _) (l₁ := vs) (a := v) hr hrs, h => by
    unfold DL.frzRs at h
    split at h
    · rename_i d S1 e1
      split at h
      · rename_i ds' S2 e2
        cases h
        obtain ⟨g1, s1, t, q1, q2, q3⟩ := g.frzR hr e1
        have hrs' : Paired (RvR κ H (AvS B S1 σ) σ) vs rs := Paired.mapP hrs fun v r z => by
          cases r with
          | slot i => exact z
          | sub i k => exact z
          | tmp t => exact TRG.less z fun b z => z.imp id (s1 b)
        obtain ⟨g2, s2, ts, k1, k2, k3⟩ := Good.frzRs g1 hrs' e2
        refine ⟨g2, fun a z => s1 a (s2 a z), t :: ts, by rw [List.map_cons, q1, k1], .cons (q2.less fun b z => z.imp id (s2 b)) k2, fun i u w a e1 e2 f => ?_⟩
        cases i with
        | zero => cases e1; cases e2; exact ⟨0, r, _, rfl, rfl, q3 a f⟩
        | succ i =>
          obtain ⟨j, r', v', z1, z2, z3⟩ := k3 i u w a e1 e2 f
          exact ⟨j + 1, r', v', z1, z2, z3⟩
      · cases h
    · cases h
theorem dvs_of : ∀ {vs : List G} {ts : List T} {Av Av' : Addr → Prop}, Paired (TRG κ H Av) vs ts → (∀ b, Av' b → Av b) → (∀ (i : Nat) (t : T) (v : G) (a : Addr), ts[i]? = some t → vs[i]? = some v → Fp t v a → ¬ Av' a) → DVs κ H Av' (vsV vs) (ts.map T.frz)
  | _, _, _, _, .nil, _, _ => .nil
  | _, _, _, _, .cons h t, hs, hv => .cons (h.freeze hs fun a f => hv 0 _ _ a rfl rfl f) (dvs_of t hs fun i t v a e1 e2 => hv (i + 1) t v a e1 e2)
theorem PostL.frozen {H0 : Hp} {S0 : En} {ds : List D} (p : PostL κ B σ H0 S0 H S vs rs) (h : frzRs rs S = some (ds, S')) : Good κ B H σ S' ∧ (∀ a, OwnAt S' σ a → OwnAt S σ a) ∧ DVs κ H (AvS B S' σ) (vsV vs) ds := by
  obtain ⟨g, s, ts, h1, h2, h3⟩ := p.good.frzRs p.rv h
  refine ⟨g.weaken fun b z => .inl z, s, ?_⟩
  rw [← h1]
  refine dvs_of h2 (fun b z => z.imp .inl id) fun i t v a e1 e2 f z => ?_
  have tm := h3 i t v a e1 e2 f
  rcases z with z | z
  · exact p.tB a tm z
  · exact p.good.dis a (.inr tm) (s a z)
end
def eTup (fs : M (List Rv)) : M Rv := M.bind fs fun rs S => match frzRs rs S with
  | some (ds, S') => if ds.length ≤ sizeLine then .ok (.tmp (.fr (.tup ds))) S' else .stuck
  | none => .stuck
def eLst (fs : M (List Rv)) : M Rv := M.bind fs fun rs S => match frzRs rs S with
  | some (ds, S') => if ds.length ≤ sizeLine then .ok (.tmp (.lst ds)) S' else .stuck
  | none => .stuck
section
variable {X : Cx} {κ : Kt} {W : WX} {es : List Expr} {fs : M (List Rv)} {pos : Pos}
theorem Chain.frozen {B : Addr → Prop} {H H2 : Hp} {σ : Sg} {S S2 S3 : En} {vs : List G} {rs : List Rv} {ds : List D} (g : Good κ B H σ S) (p : PostL κ B σ H S H2 S2 vs rs) (h : frzRs rs S2 = some (ds, S3)) :
    Chain κ B σ H S B H2 S3 ∧ DVs κ H2 (AvS B S3 σ) (vsV vs) ds := by
  obtain ⟨g3, s3, dv⟩ := p.frozen h
  exact ⟨⟨p.keep, fun a z => p.sub a (s3 a z), fun _ z => z, g3⟩, dv⟩
theorem de_tup {x1} (h : PA X es (tA κ W fs)) : PE X (.Tuple es x1 pos) (tE κ W (eTup fs)) := (pe_tup h).weak fun σ H Q h => by
  obtain ⟨B, S, τ, rfl, g, o⟩ := tE_iff.mp h
  refine (Chain.refl g).bindL o fun S2 H2 vs rs p o1 => ?_
  split at o1
  · rename_i ds S3 e
    split at o1
    · rename_i hl
      obtain ⟨c, dv⟩ := Chain.frozen g p e
      exact ⟨by rw [dv.length]; exact hl, fun a ha => o1 _ _ (c.fin (.tup ha (c.good.avTrk ha) dv))⟩
    · exact o1.elim
  · exact o1.elim
theorem de_lst (h : PA X es (tA κ W fs)) : PE X (.List es pos) (tE κ W (eLst fs)) := (pe_lst h).weak fun σ H Q h => by
  obtain ⟨B, S, τ, rfl, g, o⟩ := tE_iff.mp h
  refine (Chain.refl g).bindL o fun S2 H2 vs rs p o1 => ?_
  split at o1
  · rename_i ds S3 e
    split at o1
    · rename_i hl
      obtain ⟨c, dv⟩ := Chain.frozen g p e
      exact ⟨by rw [dv.length]; exact hl, fun a ha => o1 _ _ (c.fin (.lst ha dv))⟩
    · exact o1.elim
  · exact o1.elim
end
def viewRs : List Rv → En → Option (List D)
  | [], _ => some []
  | r :: rs, S => match viewR r S with
    | some d => (viewRs rs S).map (d :: ·)
    | none => none
def VOpL (κ : Kt) (r : List V → Hp → VK → Prop) (g : List D → Option T) : Prop := ∀ (H : Hp) (Q : VK) (Av : Addr → Prop) (vs : List V) (ts : List T) (t : T), (∀ p, (H p = none ∨ ∃ xs, H p = some (.tup xs)) → ¬ Av p) → Paired (TR κ H Av) vs ts → g (ts.map T.view) = some t →
  (∀ v H', Fresh κ Av H H' v t → Q v H') → r vs H Q
def eCB (g : List D → Option T) (fs : M (List Rv)) : M Rv := M.bind fs fun rs S => match viewRs rs S with
  | some ds => match g ds with
    | some t => .ok (.tmp t) S
    | none => .stuck
  | none => .stuck
section
variable {X : Cx} {κ : Kt} {W : WX} {e : Expr} {es : List Expr} {fs : M (List Rv)} {pos p : Pos} {B : Addr → Prop} {H H2 : Hp} {σ : Sg} {S S2 : En} {r : List V → Hp → VK → Prop} {g : List D → Option T} {id nT : String} {x : Str}
theorem Good.views (g : Good κ B H σ S) : ∀ {rs : List Rv} {vs : List G} {ds : List D}, Paired (RvR κ H (AvS B S σ) σ) vs rs → viewRs rs S = some ds → ∃ ts : List T, Paired (TR κ H (AvS B S σ)) (vsV vs) ts ∧ ts.map T.view = ds
  | [], _, ds, .nil, h => by cases h; exact ⟨[], .nil, rfl⟩
  | r :: rs, _, ds, .cons hr hrs, h => by
    unfold viewRs at h
    split at h
    · rename_i d e
      obtain ⟨ds', e2, rfl⟩ := Option.map_eq_some_iff.mp h
      obtain ⟨t, h1, h2⟩ := RvR.view g hr e
      obtain ⟨ts, h3, h4⟩ := Good.views g hrs e2
      exact ⟨t :: ts, .cons h1 h3, by rw [List.map_cons, h2, h4]⟩
    · cases h
theorem cb_red (hv : VOpL κ r g) {Q : VK} {σ : L2.St} (h : tE κ W (eCB g fs) σ H Q) : tA κ W fs σ H fun vs H1 => r vs H1 Q := by
  obtain ⟨B, S, τ, rfl, g0, o⟩ := tE_iff.mp h
  refine (Chain.refl g0).bindL o fun S2 H2 vs rs p o1 => ?_
  split at o1
  · rename_i ds e
    split at o1
    · rename_i t e2
      have c := (Chain.refl g0).stepL p
      obtain ⟨ts, h1, h2⟩ := c.good.views p.rv e
      exact hv H2 Q _ (vsV vs) ts t (fun a ha => c.good.avOk ha) h1 (by rw [h2]; exact e2) fun v H3 f => o1 (v, []) H3 (c.fin f)
    · exact o1.elim
  · exact o1.elim
theorem de_callB (hv : VOpL κ r g) (hc : CallR X (.builtin id) r) (hg : Gl X x) (hm : X.mg x = none) (hb : bootBuiltins x = some (.builtin id)) (ha : PA X (e :: es) (tA κ W fs)) (hn : x ≠ "__name__" := by decide) (hdb : (x == ("__debug__" : Str)) = false := by decide)
    (he : starEach (e :: es) X.env = (false, eval e X.env) :: starEach es X.env := by rfl) (hpl : (backTo pos (starEach es X.env)).any (·.1) = false := by rfl) :
    PE X (.Call (.Name x p) (e :: es) [] pos) (tE κ W (eCB g fs)) := (pe_callB hc hg hm hb ha hn hdb he hpl).weak fun σ H Q h => cb_red hv h
theorem de_callTy (hv : VOpL κ r g) (hc : CallR X (.type nT) r) (hg : Gl X x) (hm : X.mg x = none) (hb : bootBuiltins x = some (.type nT)) (ha : PA X (e :: es) (tA κ W fs)) (hn : x ≠ "__name__" := by decide) (hdb : (x == ("__debug__" : Str)) = false := by decide)
    (he : starEach (e :: es) X.env = (false, eval e X.env) :: starEach es X.env := by rfl) (hpl : (backTo pos (starEach es X.env)).any (·.1) = false := by rfl) :
    PE X (.Call (.Name x p) (e :: es) [] pos) (tE κ W (eCB g fs)) := (pe_callTy hc hg hm hb ha hn hdb he hpl).weak fun σ H Q h => cb_red hv h
end
end DL

set_option Elab.async false
set_option linter.all false
namespace DL
open PySem L2
def keyF : D → Option Key
  | .int i => some (.inl i)
  | .str x => some (.inr x)
  | _ => none
def keysF : List D → Option (List Key)
  | [] => some []
  | d :: ds => match keyF d with
    | some k => (keysF ds).map (k :: ·)
    | none => none
def keyX : D → Option Kx
  | .int i => some (.k (.inl i))
  | .str x => some (.k (.inr x))
  | .tup ds => if ds.isEmpty = true then none else (keysF ds).map .t
  | _ => none
def atX (ks : List Kx) (vs : List D) (k : Kx) : Option D := ((ks.zip vs).find? fun p => decide (p.1 = k)).map (·.2)
def idxD (x y : D) : Option T := match x, y with
  | .lst ds, .int i => (atI ds i).map .fr
  | .tup ds, .int i => (atI ds i).map .fr
  | .scr ds, .int i => (atI ds i).map .fr
  | .ktup ds, .int i => (atI ds i).map .fr
  | .str z, .int i => if z.length ≤ sizeLine then (atI z.cps.toList i).map fun c => .fr (.str ⟨#[c]⟩) else none
  | .dct ks vs, k => (keyX k).bind fun k => (atX ks vs k).map .fr
  | _, _ => none
def rIxA (κ : Kt) : R2 := fun x y H Q => rIx κ.K x y H Q ∨ ∃ a v, x = .ref a ∧ DGet H a y (some v) ∧ Q v H
theorem ix_dict {X : Cx} (hu : X.A.units + 64 < cLine) : IxR X (fun x y H Q => ∃ a v, x = .ref a ∧ DGet H a y (some v) ∧ Q v H) := by
  intro value slice pins s σ H x y v u Q I rx ry h hs
  obtain ⟨a, w, rfl, g, q⟩ := h
  cases (show v = Value.ref a from rx)
  exact PyProof.Rows.tail_any (dict_typeIs I g) PySem.F.slot_dict_getitem.lookup (d_getItem (by omega) I g ry fun w' s3 I3 rw' => ⟨w, H, I3, rw', q⟩) hs
theorem ix_A {κ : Kt} {X : Cx} (hk : X.K = κ.K) (hu : X.A.units + 64 < cLine) : IxR X (rIxA κ) := by
  unfold rIxA
  rw [← hk]
  exact ix_seq.or (ix_dict hu)
section
variable {κ : Kt} {H : Hp} {Av : Addr → Prop} {v : V} {t : T}
theorem DVs.atI {vs : List V} {ds : List D} {i : Int} {d : D} (h : DVs κ H Av vs ds) (e : atI ds i = some d) : ∃ w, L2.atI vs i = some w ∧ DV κ H Av w d := by
  unfold L2.atI at e ⊢
  rw [← h.length] at e
  obtain ⟨j, e1, e2⟩ := Option.bind_eq_some_iff.mp e
  obtain ⟨w, e3, e4⟩ := h.get e2
  exact ⟨w, by rw [e1]; exact e3, e4⟩
theorem TR.dct {ks : List Kx} {vs : List D} (h : TR κ H Av v t) (e : t.view = .dct ks vs) : ∃ a, v = .ref a ∧ ((∃ kvs : List (Key × V), Rd H a (.dK kvs) ∧ ks = kvs.map (fun p => Kx.k p.1) ∧ DVs κ H Av (kvs.map (·.2)) vs) ∨
    ∃ kvs : List (List Key × V), kvs ≠ [] ∧ Rd H a (.dT kvs) ∧ ks = kvs.map (fun p => Kx.t p.1) ∧ DVs κ H Av (kvs.map (·.2)) vs) := by
  cases t with
  | fr d =>
    cases e
    cases (show DV κ H Av v (.dct ks vs) from h) with
    | dK h1 h2 h3 => exact ⟨_, rfl, .inl ⟨_, h1, rfl, h3⟩⟩
    | dT z h1 h2 h3 => exact ⟨_, rfl, .inr ⟨_, z, h1, rfl, h3⟩⟩
  | lst _ => cases e
  | dct _ _ =>
    cases e
    obtain ⟨a, e, ⟨kvs, h1, h2, h3⟩ | ⟨kvs, z, h1, h2, h3⟩⟩ := h
    · exact ⟨a, e, .inl ⟨kvs, .inl h1, h2, h3⟩⟩
    · exact ⟨a, e, .inr ⟨kvs, z, .inl h1, h2, h3⟩⟩
  | _ => cases e
theorem TR.ins {c : Nat} {ns : List Str} {vs : List D} (h : TR κ H Av v t) (e : t.view = .ins c ns vs) : ∃ a dx fs, v = .ref a ∧ H a = some (.ins (κ.cA c) dx fs) ∧ ns = fs.map (·.1) ∧ DVs κ H Av (fs.map (·.2)) vs := by
  cases t with
  | fr d =>
    cases e
    cases (show DV κ H Av v (.ins c ns vs) from h) with
    | ins h1 h2 h3 => exact ⟨_, _, _, rfl, h1, rfl, h3⟩
  | ins _ _ _ => cases e; exact h
  | _ => cases e
theorem keyF_v {d : D} {k : Key} (h : DV κ H Av v d) (e : keyF d = some k) : v = kV k := by
  cases d <;> cases e
  · exact h.int_inv
  · exact h.str_inv
theorem keysF_v : ∀ {ds : List D} {vs : List V} {ks : List Key}, DVs κ H Av vs ds → keysF ds = some ks → vs = ks.map kV
  | [], _, ks, .nil, e => by cases e; rfl
  | d :: ds, _, ks, .cons h hs, e => by
    unfold keysF at e
    split at e
    · rename_i k e1
      obtain ⟨ks', e2, rfl⟩ := Option.map_eq_some_iff.mp e
      rw [List.map_cons, keyF_v h e1, keysF_v hs e2]
    · cases e
theorem atX_dk {kvs : List (Key × V)} : ∀ {vs : List D} {k : Key}, DVs κ H Av (kvs.map (·.2)) vs → (atX (kvs.map fun p => Kx.k p.1) vs (.k k) = none ∧ valV kvs k = none) ∨ ∃ d w, atX (kvs.map fun p => Kx.k p.1) vs (.k k) = some d ∧ valV kvs k = some w ∧ DV κ H Av w d := by
  induction kvs with
  | nil => intro vs k h; exact .inl ⟨rfl, rfl⟩
  | cons p r ih =>
    intro vs k h
    cases h with
    | cons h1 h2 =>
      by_cases z : p.1 = k
      · refine .inr ⟨_, p.2, ?_, valV_pos z, h1⟩
        simp [atX, z]
      · have q : ¬ (Kx.k p.1 = Kx.k k) := fun e => z (Kx.k.inj e)
        rw [valV_neg z]
        rcases ih (k := k) h2 with e | ⟨d, w, e1, e2, e3⟩
        · refine .inl ⟨?_, e.2⟩
          have := e.1
          simp only [atX] at this ⊢
          rw [List.map_cons, List.zip_cons_cons, List.find?_cons]
          simp only [q, decide_false]
          exact this
        · refine .inr ⟨d, w, ?_, e2, e3⟩
          simp only [atX] at e1 ⊢
          rw [List.map_cons, List.zip_cons_cons, List.find?_cons]
          simp only [q, decide_false]
          exact e1
theorem atX_dt {kvs : List (List Key × V)} : ∀ {vs : List D} {k : List Key}, DVs κ H Av (kvs.map (·.2)) vs → (atX (kvs.map fun p => Kx.t p.1) vs (.t k) = none ∧ valV kvs k = none) ∨ ∃ d w, atX (kvs.map fun p => Kx.t p.1) vs (.t k) = some d ∧ valV kvs k = some w ∧ DV κ H Av w d := by
  induction kvs with
  | nil => intro vs k h; exact .inl ⟨rfl, rfl⟩
  | cons p r ih =>
    intro vs k h
    cases h with
    | cons h1 h2 =>
      by_cases z : p.1 = k
      · refine .inr ⟨_, p.2, ?_, valV_pos z, h1⟩
        simp [atX, z]
      · have q : ¬ (Kx.t p.1 = Kx.t k) := fun e => z (Kx.t.inj e)
        rw [valV_neg z]
        rcases ih (k := k) h2 with e | ⟨d, w, e1, e2, e3⟩
        · refine .inl ⟨?_, e.2⟩
          have := e.1
          simp only [atX] at this ⊢
          rw [List.map_cons, List.zip_cons_cons, List.find?_cons]
          simp only [q, decide_false]
          exact this
        · refine .inr ⟨d, w, ?_, e2, e3⟩
          simp only [atX] at e1 ⊢
          rw [List.map_cons, List.zip_cons_cons, List.find?_cons]
          simp only [q, decide_false]
          exact e1
theorem atX_kt {kvs : List (Key × V)} {vs : List D} {k : List Key} : atX (kvs.map fun p => Kx.k p.1) vs (.t k) = none := by
  unfold atX
  rw [Option.map_eq_none_iff, List.find?_eq_none]
  intro p hp
  obtain ⟨h1, _⟩ := List.of_mem_zip hp
  obtain ⟨q, _, e⟩ := List.mem_map.mp h1
  rw [← e]; simp
theorem atX_tk {kvs : List (List Key × V)} {vs : List D} {k : Key} : atX (kvs.map fun p => Kx.t p.1) vs (.k k) = none := by
  unfold atX
  rw [Option.map_eq_none_iff, List.find?_eq_none]
  intro p hp
  obtain ⟨h1, _⟩ := List.of_mem_zip hp
  obtain ⟨q, _, e⟩ := List.mem_map.mp h1
  rw [← e]; simp
theorem dget_of {ks : List Kx} {vs : List D} {y : V} {ty : T} {k : Kx} (h : TR κ H Av v t) (e : t.view = .dct ks vs) (hy : TR κ H Av y ty) (ek : keyX ty.view = some k) {d : D} (hd : atX ks vs k = some d) :
    ∃ a w, v = .ref a ∧ DGet H a y (some w) ∧ DV κ H Av w d := by
  obtain ⟨a, rfl, ⟨kvs, h1, rfl, h3⟩ | ⟨kvs, _, h1, rfl, h3⟩⟩ := h.dct e
  · unfold keyX at ek
    split at ek
    · rename_i i e2
      cases ek
      rcases atX_dk (k := .inl i) h3 with z | ⟨d', w, z1, z2, z3⟩
      · rw [z.1] at hd; cases hd
      · rw [z1] at hd; cases hd
        exact ⟨a, w, rfl, .inl ⟨kvs, .inl i, h1, hy.int e2, z2.symm⟩, z3⟩
    · rename_i x e2
      cases ek
      rcases atX_dk (k := .inr x) h3 with z | ⟨d', w, z1, z2, z3⟩
      · rw [z.1] at hd; cases hd
      · rw [z1] at hd; cases hd
        exact ⟨a, w, rfl, .inl ⟨kvs, .inr x, h1, hy.str e2, z2.symm⟩, z3⟩
    · split at ek
      · cases ek
      · obtain ⟨ks, _, rfl⟩ := Option.map_eq_some_iff.mp ek
        rw [atX_kt] at hd; cases hd
    · cases ek
  · unfold keyX at ek
    split at ek
    · cases ek; rw [atX_tk] at hd; cases hd
    · cases ek; rw [atX_tk] at hd; cases hd
    · rename_i ds e2
      split at ek
      · cases ek
      · rename_i hne
        obtain ⟨ks, e3, rfl⟩ := Option.map_eq_some_iff.mp ek
        obtain ⟨b, xs, rfl, hb, hx, hdv⟩ := hy.tup e2
        have hb' : H b = some (.tup (ks.map kV)) := by
          cases hdv with
          | tup q1 q2 q3 => rw [q1, keysF_v q3 e3]
          | tup0 q1 => exact (hne rfl).elim
        rcases atX_dt (k := ks) h3 with z | ⟨d', w, z1, z2, z3⟩
        · rw [z.1] at hd; cases hd
        · rw [z1] at hd; cases hd
          exact ⟨a, w, rfl, .inr ⟨kvs, ks, b, h1, rfl, hb', z2.symm⟩, z3⟩
    · cases ek
theorem v_idx : VOp2 κ (rIxA κ) idxD := by
  intro H Q Av x y tx ty t hA hx hy e k
  unfold idxD at e
  split at e
  · rename_i ds i e1 e2
    obtain ⟨d, ed, rfl⟩ := Option.map_eq_some_iff.mp e
    obtain ⟨a, xs, h1, h2, h3⟩ := hx.lst e1
    obtain ⟨w, w1, w2⟩ := h3.atI ed
    exact .inl (.inl ⟨a, xs, i, w, h1, hy.int e2, .of h2, w1, k w H (.here w2)⟩)
  · rename_i ds i e1 e2
    obtain ⟨d, ed, rfl⟩ := Option.map_eq_some_iff.mp e
    obtain ⟨a, xs, h1, h2, h3, _⟩ := hx.tup e1
    obtain ⟨w, w1, w2⟩ := h3.atI ed
    exact .inl (.inr (.inl ⟨a, xs, i, w, h1, hy.int e2, h2, w1, k w H (.here w2)⟩))
  · rename_i ds i e1 e2
    obtain ⟨d, ed, rfl⟩ := Option.map_eq_some_iff.mp e
    obtain ⟨a, o, xs, h1, h2, h3⟩ := hx.scr e1
    obtain ⟨w, w1, w2⟩ := h3.atI ed
    exact .inl (.inl ⟨a, xs, i, w, h1, hy.int e2, .inl (.inr ⟨o, h2⟩), w1, k w H (.here w2)⟩)
  · rename_i ds i e1 e2
    obtain ⟨d, ed, rfl⟩ := Option.map_eq_some_iff.mp e
    obtain ⟨a, xs, h1, h2, h3⟩ := hx.items e1 rfl
    obtain ⟨w, w1, w2⟩ := h3.atI ed
    rcases h2 with h2 | h2
    · exact .inl (.inl ⟨a, xs, i, w, h1, hy.int e2, h2, w1, k w H (.here w2)⟩)
    · exact .inl (.inr (.inl ⟨a, xs, i, w, h1, hy.int e2, h2, w1, k w H (.here w2)⟩))
  · rename_i z i e1 e2
    split at e
    · rename_i hl
      obtain ⟨c, ec, rfl⟩ := Option.map_eq_some_iff.mp e
      exact .inl (.inr (.inr ⟨z, i, c, hx.str e1, hy.int e2, hl, ec, k _ H (.here (.str _))⟩))
    · cases e
  · rename_i ks vs e1
    obtain ⟨kk, ek, e⟩ := Option.bind_eq_some_iff.mp e
    obtain ⟨d, ed, rfl⟩ := Option.map_eq_some_iff.mp e
    obtain ⟨a, w, h1, h2, h3⟩ := dget_of hx e1 hy ek ed
    exact .inr ⟨a, w, h1, h2, k w H (.here h3)⟩
  · cases e
end
theorem de_ix {κ : Kt} {X : Cx} {W : WX} {a b : Expr} {fa fb : M Rv} {pos : Pos} (hk : X.K = κ.K) (hu : X.A.units + 64 < cLine) (ha : PE X a (tE κ W fa)) (hb : PE X b (tE κ W fb)) (hs : PlainIx b) : PE X (.Subscript a b pos) (tE κ W (eBin idxD fa fb)) :=
  (pe_ix (ix_A hk hu) ha hb hs).weak fun σ H Q h => two_red v_idx h
def fieldD (cs : List Nat) (f : Str) : D → Option T
  | .ins c ns vs => if c ∈ cs then (((ns.zip vs).find? fun p => decide (p.1 = f)).map fun p => .fr p.2) else none
  | _ => none
structure ClsOk (κ : Kt) (c : Nat) : Prop where
  cl : Cls κ.K (κ.cA c)
theorem field_dv {κ : Kt} {H : Hp} {Av : Addr → Prop} {f : Str} : ∀ {fs : List (Str × V)} {vs : List D} {p : Str × D}, DVs κ H Av (fs.map (·.2)) vs → ((fs.map (·.1)).zip vs).find? (fun p => decide (p.1 = f)) = some p → ∃ w, fs.lookup f = some w ∧ DV κ H Av w p.2
  | [], _, p, _, e => by simp at e
  | q :: fs, _, p, .cons h hs, e => by
    rw [List.map_cons, List.zip_cons_cons, List.find?_cons] at e
    obtain ⟨n, x⟩ := q
    by_cases z : n = f
    · subst z
      simp only [decide_true] at e
      cases e
      exact ⟨x, by simp [List.lookup], h⟩
    · simp only [z, decide_false] at e
      obtain ⟨w, e1, e2⟩ := field_dv hs e
      have : (f == n) = false := by simp; exact fun q => z q.symm
      exact ⟨w, by rw [List.lookup, this]; exact e1, e2⟩
theorem de_attr {κ : Kt} {X : Cx} {W : WX} {e : Expr} {fe : M Rv} {f : Str} {pos : Pos} (cs : List Nat) (hk : X.K = κ.K) (hc : ∀ c ∈ cs, Cls κ.K (κ.cA c) ∧ NoAttr κ.K (κ.cA c) f) (he : PE X e (tE κ W fe))
    (hb : attributeBase e f X.env (eval e X.env) = eval e X.env := by rfl) : PE X (.Attribute e f pos) (tE κ W (eUn (fieldD cs f) fe)) := (pe_fld he hb).weak fun σ H Q h => by
  refine one_red (r := fun x H1 Q => ∃ a C dx fs v, x = .ref a ∧ H1 a = some (.ins C dx fs) ∧ Cls X.K C ∧ NoAttr X.K C f ∧ fs.lookup f = some v ∧ Q v H1) ?_ h
  intro H Q Av x tx t hA hx e k
  unfold fieldD at e
  split at e
  · rename_i c ns vs e1
    split at e
    · rename_i hcs
      obtain ⟨p, ep, rfl⟩ := Option.map_eq_some_iff.mp e
      obtain ⟨a, dx, fs, h1, h2, rfl, h4⟩ := hx.ins e1
      obtain ⟨w, w1, w2⟩ := field_dv h4 ep
      obtain ⟨c1, c2⟩ := hc c hcs
      rw [hk]
      exact ⟨a, _, dx, fs, w, h1, h2, c1, c2, w1, k w H (.here w2)⟩
    · cases e
  · cases e
end DL

set_option Elab.async false
set_option linter.all false
namespace DL
open PySem L2
section
variable {κ : Kt} {H : Hp} {Av : Addr → Prop} {v : V} {t : T}
theorem one_arg {vs : List V} {ts : List T} {d : D} (h : Paired (TR κ H Av) vs ts) (e : ts.map T.view = [d]) : ∃ v t, vs = [v] ∧ TR κ H Av v t ∧ t.view = d := by
  cases h with
  | nil => simp at e
  | cons h1 h2 =>
    cases h2 with
    | nil => simp at e; exact ⟨_, _, rfl, h1, e⟩
    | cons _ _ => simp at e
theorem two_arg {vs : List V} {ts : List T} {d d2 : D} (h : Paired (TR κ H Av) vs ts) (e : ts.map T.view = [d, d2]) : ∃ v t v2 t2, vs = [v, v2] ∧ TR κ H Av v t ∧ t.view = d ∧ TR κ H Av v2 t2 ∧ t2.view = d2 := by
  cases h with
  | nil => simp at e
  | cons h1 h2 =>
    cases h2 with
    | nil => simp at e
    | cons g1 g2 =>
      cases g2 with
      | nil => simp at e; exact ⟨_, _, _, _, rfl, h1, e.1, g1, e.2⟩
      | cons _ _ => simp at e
end
def lenD : List D → Option T
  | [.str z] => if z.length ≤ sizeLine then some (.fr (.int z.length)) else none
  | [.dct ks vs] => if ks.all (fun | .k _ => true | .t _ => false) = true then some (.fr (.int vs.length)) else none
  | [d] => (itemsD d).map fun ds => .fr (.int ds.length)
  | _ => none
def rLenD (K : PySem.W.Frag) : List V → Hp → VK → Prop := fun xs H Q => (∃ p ys, xs = [.ref p] ∧ (SqL K H p ys ∨ SqT K H p ys) ∧ Q (.int ys.length) H) ∨ (∃ z, xs = [.str z] ∧ z.length ≤ sizeLine ∧ Q (.int z.length) H) ∨
  (∃ a kvs, xs = [V.ref a] ∧ Rd H a (.dK kvs) ∧ Q (.int kvs.length) H) ∨ rLenT xs H Q
theorem call_lenR {X : Cx} : CallR X (.builtin "len") (fun xs H Q => ∃ (a : Addr) (kvs : List (Key × V)), xs = [V.ref a] ∧ Rd H a (.dK kvs) ∧ Q (.int kvs.length) H) := by
  intro pins s σ H xs us Q I r h
  obtain ⟨a, kvs, rfl, ha, q⟩ := h
  obtain ⟨u, rfl, ru⟩ := vals1 r
  cases ru
  exact d_len I ha fun t s' I' => ⟨.int kvs.length, H, I', ⟨t, rfl⟩, q⟩
theorem c_len {X : Cx} : CallR X (.builtin "len") (rLenD X.K) := call_len_seq.or (call_len_str.or (call_lenR.or call_len_dT))
theorem v_len {κ : Kt} : VOpL κ (rLenD κ.K) lenD := by
  intro H Q Av vs ts t hA h e k
  unfold lenD at e
  split at e
  · rename_i z e1
    split at e
    · rename_i hl
      cases e
      obtain ⟨v, t, rfl, h1, h2⟩ := one_arg h e1
      exact .inr (.inl ⟨z, by rw [h1.str h2], hl, k _ H (.here (.int _))⟩)
    · cases e
  · rename_i ks ws e1
    split at e
    case isFalse => cases e
    rename_i hall
    cases e
    obtain ⟨v, t, rfl, h1, h2⟩ := one_arg h e1
    obtain ⟨a, rfl, ⟨kvs, g1, _, g3⟩ | ⟨kvs, hne, g1, q, g3⟩⟩ := h1.dct h2
    · have := g3.length
      rw [List.length_map] at this
      exact .inr (.inr (.inl ⟨a, kvs, rfl, g1, by rw [this]; exact k _ H (.here (.int _))⟩))
    · subst q
      cases kvs with
      | nil => exact (hne rfl).elim
      | cons p r => simp at hall
  · rename_i d _ _ e1
    obtain ⟨ds, ed, rfl⟩ := Option.map_eq_some_iff.mp e
    obtain ⟨v, t, rfl, h1, h2⟩ := one_arg h e1
    obtain ⟨a, xs, rfl, g1, g2⟩ := h1.items h2 ed
    exact .inl ⟨a, xs, rfl, g1, by rw [g2.length]; exact k _ H (.here (.int _))⟩
  · cases e
def absD : List D → Option T
  | [.int i] => some (.fr (.int (if i < 0 then -i else i)))
  | _ => none
def intD : List D → Option T
  | [.int i] => some (.fr (.int i))
  | [.bl b] => some (.fr (.int (if b then 1 else 0)))
  | _ => none
def max2D : List D → Option T
  | [.int i, .int j] => some (.fr (.int (if j > i then j else i)))
  | _ => none
def min2D : List D → Option T
  | [.int i, .int j] => some (.fr (.int (if j < i then j else i)))
  | _ => none
theorem v_abs {κ : Kt} : VOpL κ (fun xs H Q => ∃ i, xs = [.int i] ∧ Q (.int (if i < 0 then -i else i)) H) absD := by
  intro H Q Av vs ts t hA h e k
  unfold absD at e
  split at e
  · rename_i i e1
    cases e
    obtain ⟨v, t, rfl, h1, h2⟩ := one_arg h e1
    exact ⟨i, by rw [h1.int h2], k _ H (.here (.int _))⟩
  · cases e
theorem v_int {κ : Kt} : VOpL κ (fun xs H Q => (∃ i, xs = [.int i] ∧ Q (.int i) H) ∨ ∃ k, xs = [.bl k] ∧ Q (.int (if k then 1 else 0)) H) intD := by
  intro H Q Av vs ts t hA h e k
  unfold intD at e
  split at e
  · rename_i i e1
    cases e
    obtain ⟨v, t, rfl, h1, h2⟩ := one_arg h e1
    exact .inl ⟨i, by rw [h1.int h2], k _ H (.here (.int _))⟩
  · rename_i b e1
    cases e
    obtain ⟨v, t, rfl, h1, h2⟩ := one_arg h e1
    exact .inr ⟨b, by rw [h1.bl h2], k _ H (.here (.int _))⟩
  · cases e
theorem v_max2 {κ : Kt} : VOpL κ (fun xs H Q => ∃ i j, xs = [.int i, .int j] ∧ Q (.int (if j > i then j else i)) H) max2D := by
  intro H Q Av vs ts t hA h e k
  unfold max2D at e
  split at e
  · rename_i i j e1
    cases e
    obtain ⟨v, t, v2, t2, rfl, h1, h2, h3, h4⟩ := two_arg h e1
    exact ⟨i, j, by rw [h1.int h2, h3.int h4], k _ H (.here (.int _))⟩
  · cases e
theorem v_min2 {κ : Kt} : VOpL κ (fun xs H Q => ∃ i j, xs = [.int i, .int j] ∧ Q (.int (if j < i then j else i)) H) min2D := by
  intro H Q Av vs ts t hA h e k
  unfold min2D at e
  split at e
  · rename_i i j e1
    cases e
    obtain ⟨v, t, v2, t2, rfl, h1, h2, h3, h4⟩ := two_arg h e1
    exact ⟨i, j, by rw [h1.int h2, h3.int h4], k _ H (.here (.int _))⟩
  · cases e
def blsD : List D → Option (List Bool)
  | [] => some []
  | .bl b :: ds => (blsD ds).map (b :: ·)
  | _ :: _ => none
theorem blsD_v {κ : Kt} {H : Hp} {Av : Addr → Prop} : ∀ {ds : List D} {xs : List V} {bs : List Bool}, DVs κ H Av xs ds → blsD ds = some bs → xs = bs.map V.bl
  | [], _, bs, .nil, e => by cases e; rfl
  | d :: ds, _, bs, .cons h hs, e => by
    cases d with
    | bl b =>
      obtain ⟨bs', e2, rfl⟩ := Option.map_eq_some_iff.mp e
      rw [List.map_cons, h.bl_inv, blsD_v hs e2]
    | _ => cases e
def allD : List D → Option T
  | [.lst ds] => (blsD ds).map fun bs => .fr (.bl (bs.all id))
  | _ => none
theorem v_all {κ : Kt} : VOpL κ (rAll κ.K) allD := by
  intro H Q Av vs ts t hA h e k
  unfold allD at e
  split at e
  · rename_i ds e1
    obtain ⟨bs, eb, rfl⟩ := Option.map_eq_some_iff.mp e
    obtain ⟨v, t, rfl, h1, h2⟩ := one_arg h e1
    obtain ⟨a, xs, rfl, g1, g2⟩ := h1.lst h2
    exact ⟨a, bs, rfl, by rw [← blsD_v g2 eb]; exact .of g1, k _ H (.here (.bl _))⟩
  · cases e
inductive Tg where
  | ty (n : String) | cls (c : Nat)
  deriving DecidableEq
def Tg.val (κ : Kt) : Tg → Value
  | .ty n => .type n
  | .cls c => .ref (κ.cA c)
def tagD : D → Option Tg
  | .non => some (.ty "NoneType")
  | .bl _ => some (.ty "bool")
  | .int _ => some (.ty "int")
  | .str _ => some (.ty "str")
  | .lst _ => some (.ty "list")
  | .scr _ => some (.ty "list")
  | .tup _ => some (.ty "tuple")
  | .ktup _ => some (.ty "tuple")
  | .dct ks _ => if ks.all (fun | .k _ => true | .t _ => false) = true then some (.ty "dict") else none
  | .ins c _ _ => some (.cls c)
  | .insN c _ => some (.cls c)
  | .dctN => some (.ty "dict")
  | _ => none
def tgOf : D → Option Tg
  | .ty n => some (.ty n)
  | .cls c => some (.cls c)
  | _ => none
abbrev IsT := Tg → Tg → Option Bool
def isiD (I : IsT) : List D → Option T
  | [x, c] => match tagD x with
    | some t => match tgOf c with
      | some u => (I t u).map fun b => .fr (.bl b)
      | none => match c with
        | .tup [c1, c2] => match tgOf c1, tgOf c2 with
          | some u1, some u2 => match I t u1, I t u2 with
            | some b1, some b2 => some (.fr (.bl (b1 || b2)))
            | _, _ => none
          | _, _ => none
        | _ => none
    | none => none
  | _ => none
structure IsOk (κ : Kt) (I : IsT) : Prop where
  ans : ∀ t u b, I t u = some b → PySem.W.kitOne κ.K (t.val κ) (u.val κ) = some b
  ins : ∀ c u b, I (.cls c) u = some b → Cls κ.K (κ.cA c) ∧ PySem.W.findIn κ.K (.ref (κ.cA c)) "__class__" = some (some (.builtin "object.__class__")) ∧ PySem.W.mroIn κ.K (κ.cA c) (.type "object") = some true
  hn : PySem.W.specialIn κ.K (.builtin "object.__class__") "__get__" = some (some (.builtin "getset_descriptor.__get__"))
  htk : PySem.W.takesIn κ.K (.builtin "object.__class__") = some true
def rIsiA (K : PySem.W.Frag) : List V → Hp → VK → Prop := fun xs H Q => rIsi K xs H Q ∨ rIsiT K xs H Q
theorem c_isi {X : Cx} : CallR X (.builtin "isinstance") (rIsiA X.K) := call_isi.or call_isiT
theorem tag_ty {κ : Kt} {I : IsT} (O : IsOk κ I) {H : Hp} {Av : Addr → Prop} {v : V} {d : D} {t u : Tg} {b : Bool} (h : DV κ H Av v d) (e : tagD d = some t) (ei : I t u = some b) : TyX κ.K H v (t.val κ) := by
  cases h with
  | non => cases e; exact .base .non
  | bl c => cases e; exact .base (.bl c)
  | int c => cases e; exact .base (.int c)
  | str c => cases e; exact .base (.str c)
  | ty c => cases e
  | cls c => cases e
  | tup h1 _ _ => cases e; exact .base (.tup h1)
  | tup0 h1 => cases e; obtain ⟨o, _, _, h1, h2, _⟩ := h1; exact .kTuple h1 h2
  | ktup h1 _ => cases e; obtain ⟨o, _, _, h1, h2, _⟩ := h1; exact .kTuple h1 h2
  | lst h1 _ _ => cases e; exact .base (.lst h1)
  | scr h1 _ _ => cases e; exact .base (.frz h1)
  | dK h1 _ _ =>
    cases (Option.ite_none_right_eq_some.mp (show (if _ then some (Tg.ty "dict") else none) = some _ from e)).2
    rcases h1 with h1 | ⟨o, h1⟩
    · exact .base (.dK h1)
    · exact .fDict h1
  | @dT a kvs _ hne h1 _ _ =>
    cases kvs with
    | nil => exact (hne rfl).elim
    | cons p r => simp [tagD] at e
  | set h1 _ => cases e
  | ins h1 _ _ =>
    cases e
    obtain ⟨k1, k2, k3⟩ := O.ins _ _ _ ei
    exact .base (.ins h1 k1 k2 O.hn O.htk k3)
  | insN h1 _ =>
    cases e
    obtain ⟨k1, k2, k3⟩ := O.ins _ _ _ ei
    exact .base (.ins h1 k1 k2 O.hn O.htk k3)
  | dctN h1 _ =>
    cases e
    rcases h1 with h1 | ⟨o, h1⟩
    · exact .base (.dK h1)
    · exact .fDict h1
theorem tg_cls {κ : Kt} {H : Hp} {Av : Addr → Prop} {v : V} {d : D} {u : Tg} (h : DV κ H Av v d) (e : tgOf d = some u) : ClsV v (u.val κ) := by
  cases d <;> cases e
  · rw [h.ty_inv]; exact .ty _
  · rw [h.cls_inv]; exact .own _
theorem v_isi {κ : Kt} {I : IsT} (O : IsOk κ I) : VOpL κ (rIsiA κ.K) (isiD I) := by
  intro H Q Av vs ts t hA h e k
  unfold isiD at e
  split at e
  case h_2 => cases e
  rename_i x c e1
  obtain ⟨v, tx, v2, tc, rfl, h1, h2, h3, h4⟩ := two_arg h e1
  split at e
  case h_2 => cases e
  rename_i tg et
  have hx : DV κ H (fun _ => False) v x := h2 ▸ h1.dv
  have hc : DV κ H (fun _ => False) v2 c := h4 ▸ h3.dv
  split at e
  · rename_i u eu
    obtain ⟨b, eb, rfl⟩ := Option.map_eq_some_iff.mp e
    exact .inl ⟨v, v2, _, _, b, rfl, tg_cls hc eu, tag_ty O hx et eb, O.ans _ _ _ eb, k _ H (.here (.bl _))⟩
  · split at e
    case h_2 => cases e
    rename_i c1 c2
    split at e
    case h_2 => cases e
    rename_i u1 u2 e2 e3
    split at e
    case h_2 => cases e
    rename_i b1 b2 e4 e5
    cases e
    cases hc with
    | tup q1 _ q2 =>
      cases q2 with
      | cons a1 a2 =>
        cases a2 with
        | cons a3 a4 =>
          cases a4
          refine .inr ⟨v, _, _, _, _, _, rfl, q1, .cons (tg_cls a1 e2) (.cons (tg_cls a3 e3) .nil), tag_ty O hx et e4, ?_, k _ H (.here (.bl _))⟩
          refine kitAny_cons (O.ans _ _ _ e4) (fun z => ?_) fun z => by rw [z]; rfl
          rw [z, Bool.false_or]
          refine kitAny_cons (O.ans _ _ _ e5) (fun w => ?_) fun w => w
          rw [w]; exact kitAny_nil
end DL

set_option Elab.async false
set_option linter.all false
namespace DL
open PySem L2
inductive RS where
  | nx (S : En) | rt (r : Rv) (S : En) | bk (S : En) | ct (S : En) | exc (x : Ex) (S : En) | stuck
abbrev MS := En → RS
structure PostS (κ : Kt) (B : Addr → Prop) (fx : Nat → Bool) (σ : Sg) (H : Hp) (S : En) (σ' : Sg) (H' : Hp) (S' : En) : Prop where
  keep : ∀ b o, H b = some o → ¬ OwnAt S σ b → H' b = some o
  own : ∀ a, OwnAt S' σ' a → H a = none ∨ OwnAt S σ a
  fix : ∀ p, fx p = true → σ'[p]? = σ[p]?
  good : Good κ B H' σ' S'
  slen : σ'.length = σ.length
structure PostR (κ : Kt) (B : Addr → Prop) (fx : Nat → Bool) (σ : Sg) (H : Hp) (S : En) (σ' : Sg) (H' : Hp) (S' : En) (v : G) (r : Rv) : Prop where
  keep : ∀ b o, H b = some o → ¬ OwnAt S σ b → H' b = some o
  own : ∀ a, OwnAt S' σ' a → H a = none ∨ OwnAt S σ a
  fix : ∀ p, fx p = true → σ'[p]? = σ[p]?
  tnew : ∀ a, TmpAt r v a → H a = none ∨ OwnAt S σ a
  good : Good κ (Bx B r v) H' σ' S'
  rv : RvR κ H' (AvS (Bx B r v) S' σ') σ' v r
structure PostY (κ : Kt) (B : Addr → Prop) (fx : Nat → Bool) (σ : Sg) (H : Hp) (S : En) (σ' : Sg) (H' : Hp) (S' : En) (x : Ex) (d : Addr) : Prop where
  keep : ∀ b o, H b = some o → ¬ OwnAt S σ b → H' b = some o
  own : ∀ a, OwnAt S' σ' a → H a = none ∨ OwnAt S σ a
  fix : ∀ p, fx p = true → σ'[p]? = σ[p]?
  good : Good κ B H' σ' S'
  xd : ∃ fs : List (Str × V), H' d = some (.xd fs) ∧ fs.map (·.1) = x.ns ∧ DVs κ H' (AvS B S' σ') (fs.map (·.2)) x.vs
def OutS (κ : Kt) (W : WX) (B : Addr → Prop) (fx : Nat → Bool) (σ : Sg) (H : Hp) (S : En) (D : Ends) : RS → Prop
  | .nx S' => ∀ σ' H', PostS κ B fx σ H S σ' H' S' → D.nx (unG σ') H'
  | .bk S' => ∀ σ' H', PostS κ B fx σ H S σ' H' S' → D.bk (unG σ') H'
  | .ct S' => ∀ σ' H', PostS κ B fx σ H S σ' H' S' → D.ct (unG σ') H'
  | .rt r S' => ∀ (v : G) σ' H', PostR κ B fx σ H S σ' H' S' v r → D.rt v.1 H'
  | .exc x S' => ∀ d σ' H', PostY κ B fx σ H S σ' H' S' x d → W (.ref (κ.cA x.c)) (some d) (unG σ') H'
  | .stuck => False
def tS (κ : Kt) (W : WX) (fx : Nat → Bool) (f : MS) : TS := fun D σ H => ∃ (B : Addr → Prop) (S : En) (τ : Sg), unG τ = σ ∧ Good κ B H τ S ∧ OutS κ W B fx τ H S D (f S)
theorem _root_.L2.PS.weak {X : Cx} {st : Stmt} {t t' : TS} (h : PS X st t) (k : ∀ D σ H, t' D σ H → t D σ H) : PS X st t' := ⟨fun pins s σ H D I q => h.run pins s σ H D I (k D σ H q)⟩
theorem _root_.L2.PSs.weak {X : Cx} {st : List Stmt} {t t' : TS} (h : PSs X st t) (k : ∀ D σ H, t' D σ H → t D σ H) : PSs X st t' := ⟨fun pins s σ H D I q => h.run pins s σ H D I (k D σ H q)⟩
section
variable {κ : Kt} {W : WX} {B B1 : Addr → Prop} {fx : Nat → Bool} {σ σ1 σ2 : Sg} {H H1 H2 : Hp} {S S1 S2 : En} {D D' : Ends} {v : G} {r : Rv} {x : Ex} {d : Addr}
theorem PostS.refl (g : Good κ B H σ S) : PostS κ B fx σ H S σ H S := ⟨fun _ _ e _ => e, fun _ e => .inr e, fun _ _ => rfl, g, rfl⟩
theorem PostS.old (p : PostS κ B fx σ H S σ1 H1 S1) {b : Addr} {o : HO} (e : H b = some o) (n : ¬ OwnAt S σ b) : ¬ OwnAt S1 σ1 b := fun z => by
  rcases p.own b z with q | q
  · rw [e] at q; cases q
  · exact n q
theorem PostS.newer (p : PostS κ B fx σ H S σ1 H1 S1) {a : Addr} (h : H1 a = none ∨ OwnAt S1 σ1 a) : H a = none ∨ OwnAt S σ a := by
  rcases h with h | h
  · by_cases n : OwnAt S σ a
    · exact .inr n
    · cases e : H a with
      | none => exact .inl rfl
      | some o => rw [p.keep a o e n] at h; cases h
  · exact p.own a h
theorem PostS.trans (p : PostS κ B fx σ H S σ1 H1 S1) (q : PostS κ B fx σ1 H1 S1 σ2 H2 S2) : PostS κ B fx σ H S σ2 H2 S2 :=
  ⟨fun b o e n => q.keep b o (p.keep b o e n) (p.old e n), fun a z => p.newer (q.own a z), fun i h => (q.fix i h).trans (p.fix i h), q.good, q.slen.trans p.slen⟩
theorem PostS.transR (p : PostS κ B fx σ H S σ1 H1 S1) (q : PostR κ B fx σ1 H1 S1 σ2 H2 S2 v r) : PostR κ B fx σ H S σ2 H2 S2 v r :=
  ⟨fun b o e n => q.keep b o (p.keep b o e n) (p.old e n), fun a z => p.newer (q.own a z), fun i h => (q.fix i h).trans (p.fix i h), fun a z => p.newer (q.tnew a z), q.good, q.rv⟩
theorem PostS.transY (p : PostS κ B fx σ H S σ1 H1 S1) (q : PostY κ B fx σ1 H1 S1 σ2 H2 S2 x d) : PostY κ B fx σ H S σ2 H2 S2 x d :=
  ⟨fun b o e n => q.keep b o (p.keep b o e n) (p.old e n), fun a z => p.newer (q.own a z), fun i h => (q.fix i h).trans (p.fix i h), q.good, q.xd⟩
theorem Chain.toS (c : Chain κ B σ H S B1 H1 S1) : PostS κ B fx σ H S σ H1 S1 := ⟨c.keep, fun a z => .inr (c.sub a z), fun _ _ => rfl, c.good.weaken c.le, rfl⟩
theorem PostX.toY (p : PostX κ B σ H S H1 S1 x d) : PostY κ B fx σ H S σ H1 S1 x d := ⟨p.keep, fun a z => .inr (p.sub a z), fun _ _ => rfl, p.good, p.xd⟩
theorem PostB.toS (p : PostB κ B σ H S H1 S1) : PostS κ B fx σ H S σ H1 S1 := ⟨p.keep, fun a z => .inr (p.sub a z), fun _ _ => rfl, p.good, rfl⟩
theorem OutS.rest {o : RS} (p : PostS κ B fx σ H S σ1 H1 S1) (h : OutS κ W B fx σ H S D o) : OutS κ W B fx σ1 H1 S1 D o := by
  cases o with
  | nx S' => exact fun σ' H' q => h σ' H' (p.trans q)
  | bk S' => exact fun σ' H' q => h σ' H' (p.trans q)
  | ct S' => exact fun σ' H' q => h σ' H' (p.trans q)
  | rt r S' => exact fun v σ' H' q => h v σ' H' (p.transR q)
  | exc x S' => exact fun d σ' H' q => h d σ' H' (p.transY q)
  | stuck => exact h
end
def sNx : MS := fun S => .nx S
def sSeq (f g : MS) : MS := fun S => match f S with
  | .nx S' => g S'
  | o => o
def sDrop (f : M Rv) : MS := fun S => match f S with
  | .ok _ S' => .nx S'
  | .exc x S' => .exc x S'
  | .stuck => .stuck
def sRet (f : M Rv) : MS := fun S => match f S with
  | .ok r S' => .rt r S'
  | .exc x S' => .exc x S'
  | .stuck => .stuck
def sIf (c : M Bool) (f g : MS) : MS := fun S => match c S with
  | .ok b S' => if b = true then f S' else g S'
  | .exc x S' => .exc x S'
  | .stuck => .stuck
def sStuck : MS := fun _ => .stuck
section
variable {X : Cx} {κ : Kt} {W : WX} {fx : Nat → Bool} {st : Stmt} {rest p q : List Stmt} {f g : MS} {e c : Expr} {fe : M Rv} {fc : M Bool} {pos : Pos}
theorem ds_never : PS X st (tS κ W fx sStuck) := ps_never.weak fun D σ H ⟨B, S, τ, ec, g, o⟩ => ec ▸ o.elim
theorem dss_nil : PSs X [] (tS κ W fx sNx) := pss_nil.weak fun D σ H ⟨B, S, τ, ec, g, o⟩ => ec ▸ o τ H (.refl g)
theorem dss_cons (h1 : PS X st (tS κ W fx f)) (h2 : PSs X rest (tS κ W fx g)) : PSs X (st :: rest) (tS κ W fx (sSeq f g)) := (pss_cons h1 h2).weak fun D σ H ⟨B, S, τ, ec, gd, o⟩ => by
  subst ec
  refine ⟨B, S, τ, rfl, gd, ?_⟩
  unfold sSeq at o
  cases e : f S with
  | nx S1 => rw [e] at o; exact fun σ1 H1 p => ⟨B, S1, σ1, rfl, p.good, o.rest p⟩
  | _ => rw [e] at o; exact o
theorem dss_one (h : PS X st (tS κ W fx f)) : PSs X [st] (tS κ W fx f) := pss_one h
theorem tE_rest {κ : Kt} {W : WX} {B : Addr → Prop} {fx : Nat → Bool} {σ : Sg} {H : Hp} {S : En} {D : Ends} {Q : VK} {f : M Rv} {k : Rv → En → RS} (g : Good κ B H σ S)
    (o : OutS κ W B fx σ H S D (match f S with | .ok r S' => k r S' | .exc x S' => .exc x S' | .stuck => .stuck)) (h : ∀ (v : G) H' r S', Post κ B σ H S H' S' v r → OutS κ W B fx σ H S D (k r S') → Q v.1 H') : tE κ W f (unG σ) H Q := by
  refine tE_iff.mpr ⟨B, S, σ, rfl, g, ?_⟩
  cases e : f S with
  | ok r S1 => rw [e] at o; exact fun v H1 p => h v H1 r S1 p o
  | exc x S1 => rw [e] at o; exact fun d H1 p => o d σ H1 p.toY
  | stuck => rw [e] at o; exact o
theorem ds_expr (h : PE X e (tE κ W fe)) (hs : swapsWith e none pos.line X.env = pure false := by rfl) : PS X (.Expr e pos) (tS κ W fx (sDrop fe)) := (ps_expr h hs).weak fun D σ H ⟨B, S, τ, ec, g, o⟩ => ec ▸
  tE_rest (k := fun _ S' => .nx S') g o fun v H' r S' p o => o τ H' ((Chain.refl g).step p).toS
theorem Post.toR {κ : Kt} {B : Addr → Prop} {fx : Nat → Bool} {σ : Sg} {H H1 : Hp} {S S1 : En} {v : G} {r : Rv} (p : Post κ B σ H S H1 S1 v r) : PostR κ B fx σ H S σ H1 S1 v r :=
  ⟨p.keep, fun a z => .inr (p.sub a z), fun _ _ => rfl, fun a z => (p.tnew a z).imp id fun q => q.1, p.good, p.rv⟩
theorem ds_ret (h : PE X e (tE κ W fe)) : PS X (.Return (some e) pos) (tS κ W fx (sRet fe)) := (ps_ret h).weak fun D σ H ⟨B, S, τ, ec, g, o⟩ => ec ▸
  tE_rest (k := fun r S' => .rt r S') g o fun v H' r S' p o => o v τ H' p.toR
theorem ds_if (hc : PT X c (tT κ W fc)) (h1 : PSs X p (tS κ W fx f)) (h2 : PSs X q (tS κ W fx g)) : PS X (.If c p q pos) (tS κ W fx (sIf fc f g)) := (ps_if hc h1 h2).weak fun D σ H ⟨B, S, τ, ec, gd, o⟩ => by
  subst ec
  refine ⟨B, S, τ, rfl, gd, ?_⟩
  unfold sIf at o
  cases e : fc S with
  | ok b S1 =>
    rw [e] at o
    intro H1 p
    cases b with
    | true => exact ⟨B, S1, τ, rfl, p.good, o.rest p.toS⟩
    | false => exact ⟨B, S1, τ, rfl, p.good, o.rest p.toS⟩
  | exc x S1 => rw [e] at o; exact fun d H1 p => o d τ H1 p.toY
  | stuck => rw [e] at o; exact o
end
def mvR (r : Rv) (S : En) : Option (T × En) := match r with
  | .tmp t => some (t, S)
  | .slot i => match S[i]? with
    | some (some t) => some (.fr t.frz, S.set i (some (.fr t.frz)))
    | _ => none
  | .sub _ _ => none
def sAsg (i : Nat) (f : M Rv) : MS := fun S => match f S with
  | .ok r S' => match mvR r S' with
    | some (t, S2) => .nx (S2.set i (some t))
    | none => .stuck
  | .exc x S' => .exc x S'
  | .stuck => .stuck
section
variable {κ : Kt} {W : WX} {B : Addr → Prop} {fx : Nat → Bool} {σ : Sg} {H H1 : Hp} {S S1 S2 : En} {v : G} {r : Rv} {t : T} {i : Nat}
theorem own_put {a : Addr} (h : OwnAt (S.set i (some t)) (σ.set i (some v)) a) (hi : i < S.length) (hl : S.length = σ.length) : Fp t v a ∨ ∃ j u g, j ≠ i ∧ S[j]? = some (some u) ∧ Fp u g a ∧ σ[j]? = some (some g) := by
  obtain ⟨j, u, g, e1, e2, e3⟩ := h
  by_cases hj : i = j
  · subst hj
    rw [List.getElem?_set_self hi] at e1; cases e1
    rw [List.getElem?_set_self (hl ▸ hi)] at e3; cases e3
    exact .inl e2
  · rw [List.getElem?_set_ne hj] at e1 e3
    exact .inr ⟨j, u, g, fun z => hj z.symm, e1, e2, e3⟩
theorem Good.put (g : Good κ (Bx B (.tmp t) v) H σ S) (h : TRG κ H (AvS (Bx B (.tmp t) v) S σ) v t) (hB : ∀ a, TmpAt (.tmp t) v a → ¬ B a) (hi : i < S.length) : Good κ B H (σ.set i (some v)) (S.set i (some t)) := by
  have tm : ∀ a, Fp t v a → TmpAt (.tmp t) v a := fun a f => ⟨t, rfl, f⟩
  have sub : ∀ a, AvS B (S.set i (some t)) (σ.set i (some v)) a → AvS (Bx B (.tmp t) v) S σ a := fun a z => by
    rcases z with z | z
    · exact .inl (.inl z)
    · rcases own_put z hi g.len with f | ⟨j, u, g', _, e1, e2, e3⟩
      · exact .inl (.inr (tm a f))
      · exact .inr ⟨j, u, g', e1, e2, e3⟩
  refine ⟨by rw [List.length_set, List.length_set]; exact g.len, fun b z => g.trk b (.inl z), fun b z q => ?_, fun j k a t1 t2 g1 g2 q1 q2 q3 q4 q5 q6 => ?_, fun j u q => ?_⟩
  · rcases own_put q hi g.len with f | ⟨j, u, g', _, e1, e2, e3⟩
    · exact hB b (tm b f) z
    · exact g.dis b (.inl z) ⟨j, u, g', e1, e2, e3⟩
  · by_cases h1 : i = j
    · by_cases h2 : i = k
      · exact h1.symm.trans h2
      · subst h1
        rw [List.getElem?_set_self hi] at q1; cases q1
        rw [List.getElem?_set_self (g.len ▸ hi)] at q5; cases q5
        rw [List.getElem?_set_ne h2] at q3 q6
        exact (g.dis a (.inr (tm a q2)) ⟨k, t2, g2, q3, q4, q6⟩).elim
    · rw [List.getElem?_set_ne h1] at q1 q5
      by_cases h2 : i = k
      · subst h2
        rw [List.getElem?_set_self hi] at q3; cases q3
        rw [List.getElem?_set_self (g.len ▸ hi)] at q6; cases q6
        exact (g.dis a (.inr (tm a q4)) ⟨j, t1, g1, q1, q2, q5⟩).elim
      · rw [List.getElem?_set_ne h2] at q3 q6
        exact g.inj j k a t1 t2 g1 g2 q1 q2 q3 q4 q5 q6
  · by_cases h1 : i = j
    · subst h1
      rw [List.getElem?_set_self hi] at q; cases q
      exact ⟨v, List.getElem?_set_self (g.len ▸ hi), h.less sub⟩
    · rw [List.getElem?_set_ne h1] at q
      obtain ⟨w, w1, w2⟩ := g.slot j u q
      exact ⟨w, by rw [List.getElem?_set_ne h1]; exact w1, w2.less sub⟩
theorem frTmp {d : D} {a : Addr} {P : Prop} (z : TmpAt (.tmp (.fr d)) v a) : P := by
  obtain ⟨u, e1, e2⟩ := z
  cases e1
  exact frno e2.own
theorem Good.putF {d : D} (g : Good κ B H σ S) (h : DV κ H (AvS B S σ) v.1 d) (hi : i < S.length) : Good κ B H (σ.set i (some v)) (S.set i (some (.fr d))) := by
  have le : ∀ b, Bx B (.tmp (.fr d)) v b → B b := fun b z => z.elim id fun z => frTmp z
  exact (g.weaken le).put (i := i) ⟨DV.less h fun b z => z.imp (le b) id, True.intro⟩ (fun a z => frTmp z) hi
theorem Post.mv {T' : T} (g0 : Good κ B H σ S) (p : Post κ B σ H S H1 S1 v r) (h : mvR r S1 = some (T', S2)) :
    Chain κ B σ H S (Bx B (.tmp T') v) H1 S2 ∧ TRG κ H1 (AvS (Bx B (.tmp T') v) S2 σ) v T' ∧ (∀ a, TmpAt (.tmp T') v a → H a = none ∨ (OwnAt S σ a ∧ ¬ OwnAt S2 σ a)) := by
  cases r with
  | tmp t => cases h; exact ⟨⟨p.keep, p.sub, fun _ z => .inl z, p.good⟩, p.rv, p.tnew⟩
  | sub i k => cases h
  | slot i =>
    unfold mvR at h
    dsimp only at h
    split at h
    · rename_i t e
      cases h
      have gB : Good κ B H1 σ S1 := p.good.weaken fun b z => .inl z
      obtain ⟨h1, h2⟩ := gB.freeze e p.rv
      have le : ∀ b, Bx B (.tmp (.fr t.frz)) v b → B b := fun b z => z.elim id fun z => frTmp z
      refine ⟨⟨p.keep, fun a z => p.sub a (own_set rfl z).1, fun _ z => .inl z, h1.weaken le⟩, ?_, fun a z => frTmp z⟩
      exact ⟨DV.less h2 fun b z => z.imp (le b) id, True.intro⟩
    · cases h
theorem Chain.putS (c : Chain κ B σ H S (Bx B (.tmp t) v) H1 S1) (g0 : Good κ B H σ S) (h : TRG κ H1 (AvS (Bx B (.tmp t) v) S1 σ) v t) (tn : ∀ a, TmpAt (.tmp t) v a → H a = none ∨ OwnAt S σ a) (hi : i < S1.length) (hf : fx i = false) :
    PostS κ B fx σ H S (σ.set i (some v)) H1 (S1.set i (some t)) := by
  refine ⟨c.keep, fun a z => ?_, fun p hp => ?_, c.good.put h (fun a z b => ?_) hi, by rw [List.length_set]⟩
  · rcases own_put z hi c.good.len with f | ⟨j, u, g', _, e1, e2, e3⟩
    · exact tn a ⟨t, rfl, f⟩
    · exact .inr (c.sub a ⟨j, u, g', e1, e2, e3⟩)
  · rw [List.getElem?_set_ne fun z => by subst z; rw [hf] at hp; cases hp]
  · rcases tn a z with q | q
    · exact (g0.trk a b).nn q
    · exact g0.dis a b q
end
section
variable {X : Cx} {κ : Kt} {W : WX} {fx : Nat → Bool} {e : Expr} {fe : M Rv} {pos pos' : Pos} {i : Nat} {x : Str}
theorem ds_set (hN : X.N.Nodup) (hi : X.N[i]? = some x) (hx : Loc X.env.scope x) (he : PE X e (tE κ W fe)) (hf : fx i = false := by rfl) (hs : swapsWith e (some (.Name x pos')) pos.line X.env = pure false := by rfl) (hf' : X.fn x = true ∨ X.env.scope.names.lookup x = some .local := by first | exact .inl rfl | exact .inr rfl | assumption) :
    PS X (.Assign [.Name x pos'] e pos) (tS κ W fx (sAsg i fe)) := ⟨fun pins s σ H D I ⟨B, S, τ, ec, g, o⟩ => by
  subst ec
  have hl : i < X.N.length := (List.getElem?_eq_some_iff.mp hi).1
  refine (ps_set hN hi hx he hs hf').run pins s _ H D I (tE_rest (k := fun r S' => match mvR r S' with | some (t, S2) => .nx (S2.set i (some t)) | none => .stuck) g o fun v H' r S' p o => ?_)
  split at o
  · rename_i t S2 e1
    obtain ⟨c, h, tn⟩ := p.mv g e1
    have hl2 : i < S2.length := by
      rw [c.good.len, ← unG_len, I.len]
      exact hl
    have q := o _ _ (c.putS g h (fun a z => (tn a z).imp id fun q => q.1) hl2 hf)
    rw [unG_set] at q
    exact q
  · exact o.elim⟩
end
end DL

set_option Elab.async false
set_option linter.all false
namespace DL
open PySem L2
def mvRs : List Rv → En → Option (List T × En)
  | [], S => some ([], S)
  | r :: rs, S => match mvR r S with
    | some (t, S1) => match mvRs rs S1 with
      | some (ts, S2) => some (t :: ts, S2)
      | none => none
    | none => none
section
variable {κ : Kt} {W : WX} {B B' : Addr → Prop} {fx : Nat → Bool} {H H1 : Hp} {σ : Sg} {S S' S1 S2 : En} {v : G} {r : Rv} {vs : List G} {rs : List Rv} {t : T} {ts : List T}
theorem Good.mvR (g : Good κ B H σ S) (hr : RvR κ H (AvS B S σ) σ v r) (h : mvR r S = some (t, S')) :
    Good κ B H σ S' ∧ (∀ a, OwnAt S' σ a → OwnAt S σ a) ∧ TRG κ H (AvS B S' σ) v t ∧ ∀ a, Fp t v a → TmpAt r v a := by
  cases r with
  | tmp t => cases h; exact ⟨g, fun _ z => z, hr, fun a f => ⟨_, rfl, f⟩⟩
  | sub i k => cases h
  | slot i =>
    unfold DL.mvR at h
    dsimp only at h
    split at h
    · rename_i t e
      cases h
      obtain ⟨h1, h2⟩ := g.freeze e hr
      exact ⟨h1, fun a z => (own_set rfl z).1, ⟨h2, True.intro⟩, fun a o => frno o.own⟩
    · cases h
theorem Good.mvRs : ∀ {rs : List Rv} {vs : List G} {S S' : En} {ts : List T}, Good κ B H σ S → Paired (RvR κ H (AvS B S σ) σ) vs rs → DL.mvRs rs S = some (ts, S') →
    Good κ B H σ S' ∧ (∀ a, OwnAt S' σ a → OwnAt S σ a) ∧ Paired (TRG κ H (AvS B S' σ)) vs ts ∧ ∀ (i : Nat) (t : T) (v : G) (a : Addr), ts[i]? = some t → vs[i]? = some v → Fp t v a → ∃ r, rs[i]? = some r ∧ TmpAt r v a
  | [], _, S, S', ds, g, .nil, h => by cases h; exact ⟨g, fun _ z => z, .nil, fun i t v a e => by simp at e⟩
  | r :: rs, _, S, S', ds, g, .cons (b := _) (l₁ := vs) (a := v) hr hrs, h => by
    unfold DL.mvRs at h
    split at h
    · rename_i d S1 e1
      split at h
      · rename_i ds' S2 e2
        cases h
        obtain ⟨g1, s1, q2, q3⟩ := g.mvR hr e1
        have hrs' : Paired (RvR κ H (AvS B S1 σ) σ) vs rs := Paired.mapP hrs fun v r z => by
          cases r with
          | slot i => exact z
          | sub i k => exact z
          | tmp t => exact TRG.less z fun b z => z.imp id (s1 b)
        obtain ⟨g2, s2, k2, k3⟩ := Good.mvRs g1 hrs' e2
        refine ⟨g2, fun a z => s1 a (s2 a z), .cons (q2.less fun b z => z.imp id (s2 b)) k2, fun i u w a e1 e2 f => ?_⟩
        cases i with
        | zero => cases e1; cases e2; exact ⟨r, rfl, q3 a f⟩
        | succ i => exact k3 i u w a e1 e2 f
      · cases h
    · cases h
theorem Paired.lenR {α β : Type} {R : α → β → Prop} : ∀ {l : List α} {m : List β}, Paired R l m → l.length = m.length
  | _, _, .nil => rfl
  | _, _, .cons _ t => congrArg (· + 1) (Paired.lenR t)
theorem PostL.moved {H0 : Hp} {S0 : En} (p : PostL κ B σ H0 S0 H S vs rs) (h : DL.mvRs rs S = some (ts, S')) : PostL κ B σ H0 S0 H S' vs (ts.map .tmp) := by
  obtain ⟨g, s, h1, h2⟩ := p.good.mvRs p.rv h
  have tm : ∀ (i : Nat) (u : Rv) (w : G) (a : Addr), (ts.map Rv.tmp)[i]? = some u → vs[i]? = some w → TmpAt u w a → ∃ r, rs[i]? = some r ∧ TmpAt r w a := fun i u w a e1 e2 ⟨t, q1, q2⟩ => by
    subst q1
    rw [List.getElem?_map] at e1
    obtain ⟨t', e1, e3⟩ := Option.map_eq_some_iff.mp e1
    cases e3
    exact h2 i _ w a e1 e2 q2
  have tms : ∀ a, TmpsAt (ts.map .tmp) vs a → TmpsAt rs vs a := fun a ⟨i, u, w, e1, e2, z⟩ => by
    obtain ⟨r, q1, q2⟩ := tm i u w a e1 e2 z
    exact ⟨i, r, w, q1, e2, q2⟩
  have le : ∀ a, BxL B (ts.map .tmp) vs a → BxL B rs vs a := fun a z => z.imp id (tms a)
  refine ⟨p.keep, fun a z => p.sub a (s a z), fun a z => (p.tnew a (tms a z)).imp id fun q => ⟨q.1, fun w => q.2 (s a w)⟩, fun a z => p.tB a (tms a z), fun i j r1 r2 v1 v2 a e1 e2 e3 e4 z1 z2 => ?_, g.weaken le, ?_⟩
  · obtain ⟨u1, q1, q2⟩ := tm i r1 v1 a e1 e3 z1
    obtain ⟨u2, q3, q4⟩ := tm j r2 v2 a e2 e4 z2
    exact p.dist i j u1 u2 v1 v2 a q1 q3 e3 e4 q2 q4
  · exact pm h1 le
where
  pm {κ : Kt} {H : Hp} {σ : Sg} {S' : En} {A A' : Addr → Prop} : ∀ {vs : List G} {ts : List T}, Paired (TRG κ H (AvS A S' σ)) vs ts → (∀ a, A' a → A a) → Paired (RvR κ H (AvS A' S' σ) σ) vs (ts.map .tmp)
    | _, _, .nil, _ => .nil
    | _, _, .cons h t, le => .cons (TRG.less h fun b z => z.imp (le b) id) (pm t le)
end
def eParts (fs : M (List Rv)) (k : List T → En → RS) : MS := fun S => match fs S with
  | .ok rs S' => match mvRs rs S' with
    | some (ts, S2) => k ts S2
    | none => .stuck
  | .exc x S' => .exc x S'
  | .stuck => .stuck
def sPar (i j : Nat) (fs : M (List Rv)) : MS := eParts fs fun ts S => match ts with
  | [t, u] => .nx ((S.set i (some t)).set j (some u))
  | _ => .stuck
section
variable {κ : Kt} {W : WX} {B : Addr → Prop} {fx : Nat → Bool} {H H1 : Hp} {σ : Sg} {S S1 : En} {D : Ends} {v : G} {vs : List G} {rs : List Rv} {t : T} {ts : List T} {i : Nat}
theorem tA_rest {f : M (List Rv)} {k : List T → En → RS} {Q : List V → Hp → Prop} (g : Good κ B H σ S) (o : OutS κ W B fx σ H S D (eParts f k S))
    (h : ∀ (vs : List G) H' ts S', PostL κ B σ H S H' S' vs (ts.map .tmp) → OutS κ W B fx σ H S D (k ts S') → Q (vsV vs) H') : tA κ W f (unG σ) H Q := by
  refine ⟨B, S, σ, rfl, g, ?_⟩
  unfold eParts at o
  cases e : f S with
  | ok r S1 =>
    rw [e] at o
    intro vs H1 p
    dsimp only at o
    split at o
    · rename_i ts S2 e2
      exact h vs H1 ts S2 (p.moved e2) o
    · exact o.elim
  | exc x S1 => rw [e] at o; exact fun d H1 p => o d σ H1 p.toY
  | stuck => rw [e] at o; exact o
structure Stored (κ : Kt) (B : Addr → Prop) (fx : Nat → Bool) (σ : Sg) (H : Hp) (S : En) (H1 : Hp) (σ1 : Sg) (S1 : En) (vs : List G) (rs : List Rv) : Prop where
  slen : σ1.length = σ.length
  keep : ∀ b o, H b = some o → ¬ OwnAt S σ b → H1 b = some o
  own : ∀ a, OwnAt S1 σ1 a → H a = none ∨ OwnAt S σ a
  fix : ∀ p, fx p = true → σ1[p]? = σ[p]?
  tnew : ∀ a, TmpsAt rs vs a → H a = none ∨ OwnAt S σ a
  tB : ∀ a, TmpsAt rs vs a → ¬ B a
  dist : ∀ (i j : Nat) (r1 r2 : Rv) (v1 v2 : G) (a : Addr), rs[i]? = some r1 → rs[j]? = some r2 → vs[i]? = some v1 → vs[j]? = some v2 → TmpAt r1 v1 a → TmpAt r2 v2 a → i = j
  good : Good κ (BxL B rs vs) H1 σ1 S1
  rv : Paired (RvR κ H1 (AvS (BxL B rs vs) S1 σ1) σ1) vs rs
theorem PostL.stored (p : PostL κ B σ H S H1 S1 vs rs) : Stored κ B fx σ H S H1 σ S1 vs rs :=
  ⟨rfl, p.keep, fun a z => .inr (p.sub a z), fun _ _ => rfl, fun a z => (p.tnew a z).imp id fun q => q.1, p.tB, p.dist, p.good, p.rv⟩
theorem Stored.put {σ1 : Sg} (p : Stored κ B fx σ H S H1 σ1 S1 (v :: vs) (.tmp t :: ts.map .tmp)) (hi : i < S1.length) (hf : fx i = false) : Stored κ B fx σ H S H1 (σ1.set i (some v)) (S1.set i (some t)) vs (ts.map .tmp) := by
  have le : ∀ a, Bx (BxL B (ts.map .tmp) vs) (.tmp t) v a → BxL B (.tmp t :: ts.map .tmp) (v :: vs) a := fun a z => by
    rcases z with (z | ⟨j, r, w, e1, e2, z⟩) | z
    · exact .inl z
    · exact .inr ⟨j + 1, r, w, e1, e2, z⟩
    · exact .inr ⟨0, _, v, rfl, rfl, z⟩
  have le2 : ∀ a, TmpsAt (ts.map .tmp) vs a → TmpsAt (.tmp t :: ts.map .tmp) (v :: vs) a := fun a ⟨j, r, w, e1, e2, z⟩ => ⟨j + 1, r, w, e1, e2, z⟩
  have sub : ∀ a, AvS (BxL B (ts.map .tmp) vs) (S1.set i (some t)) (σ1.set i (some v)) a → AvS (BxL B (.tmp t :: ts.map .tmp) (v :: vs)) S1 σ1 a := fun a z => by
    rcases z with z | z
    · exact .inl (le a (.inl z))
    · rcases own_put z hi p.good.len with f | ⟨j, u, g', _, e1, e2, e3⟩
      · exact .inl (le a (.inr ⟨t, rfl, f⟩))
      · exact .inr ⟨j, u, g', e1, e2, e3⟩
  cases p.rv with
  | cons h hr =>
    refine ⟨by rw [List.length_set]; exact p.slen, p.keep, fun a z => ?_, fun q hq => ?_, fun a z => p.tnew a (le2 a z), fun a z => p.tB a (le2 a z), fun j k r1 r2 v1 v2 a e1 e2 e3 e4 z1 z2 => ?_, ?_, ?_⟩
    · rcases own_put z hi p.good.len with f | ⟨j, u, g', _, e1, e2, e3⟩
      · exact p.tnew a ⟨0, _, v, rfl, rfl, t, rfl, f⟩
      · exact p.own a ⟨j, u, g', e1, e2, e3⟩
    · rw [List.getElem?_set_ne fun z => by subst z; rw [hf] at hq; cases hq]
      exact p.fix q hq
    · have := p.dist (j + 1) (k + 1) r1 r2 v1 v2 a e1 e2 e3 e4 z1 z2
      omega
    · refine (p.good.weaken le).put (TRG.less h fun b z => z.imp (le b) id) (fun a z b => ?_) hi
      rcases b with b | ⟨j, r, w, e1, e2, q⟩
      · exact p.tB a ⟨0, _, v, rfl, rfl, z⟩ b
      · exact absurd (p.dist 0 (j + 1) _ _ _ _ a rfl e1 rfl e2 z q) (by omega)
    · exact pm hr sub
where
  pm {κ : Kt} {H : Hp} {σ σ' : Sg} {A A' : Addr → Prop} : ∀ {vs : List G} {ts : List T}, Paired (RvR κ H A σ) vs (ts.map .tmp) → (∀ a, A' a → A a) → Paired (RvR κ H A' σ') vs (ts.map .tmp)
    | _, [], .nil, _ => .nil
    | _, _ :: _, .cons h t, le => .cons (TRG.less h le) (pm t le)
theorem Stored.fin {σ1 : Sg} (p : Stored κ B fx σ H S H1 σ1 S1 [] []) : PostS κ B fx σ H S σ1 H1 S1 := ⟨p.keep, p.own, p.fix, p.good.weaken fun a z => .inl z, p.slen⟩
theorem PostL.lens (p : PostL κ B σ H S H1 S1 vs rs) : vs.length = rs.length := Paired.lenR p.rv
end
section
variable {X : Cx} {κ : Kt} {W : WX} {fx : Nat → Bool} {a b c : Expr} {fs : M (List Rv)} {pos px py pz pt pt2 : Pos} {i j l : Nat} {x y z : Str}
theorem ds_par {kt k2} (hc : X.calm = true) (hN : X.N.Nodup) (hi : X.N[i]? = some x) (hj : X.N[j]? = some y) (hij : i ≠ j)
    (hx : X.env.scope.names.lookup x = some .local) (hy : X.env.scope.names.lookup y = some .local) (ha : PA X [a, b] (tA κ W fs))
    (hw : swappedStores [.Tuple [.Name x px, .Name y py] kt pt] (.Tuple [a, b] k2 pt2) X.env = pure (some [x, y])) (f1 : fx i = false := by rfl) (f2 : fx j = false := by rfl)
    (hs : swapsWithSole [.Tuple [.Name x px, .Name y py] kt pt] (.Tuple [a, b] k2 pt2) pos.line X.env = pure false := by rfl) :
    PS X (.Assign [.Tuple [.Name x px, .Name y py] kt pt] (.Tuple [a, b] k2 pt2) pos) (tS κ W fx (sPar i j fs)) := ⟨fun pins s σ H D I ⟨B, S, τ, ec, g, o⟩ => by
  subst ec
  have li : i < X.N.length := (List.getElem?_eq_some_iff.mp hi).1
  have lj : j < X.N.length := (List.getElem?_eq_some_iff.mp hj).1
  refine (ps_par hc hN hi hj hij hx hy ha hw hs).run pins s _ H D I (tA_rest g o fun vs H' ts S' p o => ?_)
  split at o
  · rename_i t u
    have hl := p.lens
    match vs, hl with
    | [v, w], _ =>
      have l1 := p.good.len
      have l2 := I.len
      rw [unG_len] at l2
      refine ⟨v.1, w.1, rfl, ?_⟩
      have q := o _ _ ((p.stored (fx := fx)).put (ts := [u]) (by omega) f1 |>.put (ts := []) (by rw [List.length_set]; omega) f2).fin
      rw [unG_set, unG_set] at q
      exact q
  · exact o.elim⟩
end
def TgOk (κ : Kt) (fx : Nat → Bool) (n : Nat) (gt : TG) (gd : D → En → Option En) : Prop := ∀ (B : Addr → Prop) (σ : Sg) (H : Hp) (S S1 : En) (v : V) (d : D) (Q : St → Hp → Prop), σ.length = n → Good κ B H σ S → DV κ H (AvS B S σ) v d → gd d S = some S1 →
  (∀ σ', PostS κ B fx σ H S σ' H S1 → Q (unG σ') H) → gt v (unG σ) H Q
def TgsOk (κ : Kt) (fx : Nat → Bool) (n : Nat) (gt : TGs) (gd : List D → En → Option En) : Prop := ∀ (B : Addr → Prop) (σ : Sg) (H : Hp) (S S1 : En) (vs : List V) (ds : List D) (Q : St → Hp → Prop), σ.length = n → Good κ B H σ S → DVs κ H (AvS B S σ) vs ds → gd ds S = some S1 →
  (∀ σ', PostS κ B fx σ H S σ' H S1 → Q (unG σ') H) → gt vs (unG σ) H Q
def gN (i : Nat) : D → En → Option En := fun d S => some (S.set i (some (.fr d)))
def gsN : List D → En → Option En := fun ds S => match ds with
  | [] => some S
  | _ => none
def gsC (g : D → En → Option En) (h : List D → En → Option En) : List D → En → Option En := fun ds S => match ds with
  | d :: ds => match g d S with
    | some S1 => h ds S1
    | none => none
  | [] => none
def gT (n : Nat) (h : List D → En → Option En) : D → En → Option En := fun d S => match d with
  | .tup ds => if ds.length = n then h ds S else none
  | .ktup ds => if ds.length = n then h ds S else none
  | _ => none
section
variable {κ : Kt} {fx : Nat → Bool} {n i : Nat} {gt : TG} {gd : D → En → Option En} {gts : TGs} {gds : List D → En → Option En}
theorem tg_name (hi : i < n) (hf : fx i = false := by rfl) : TgOk κ fx n (gName i) (gN i) := fun B σ H S S1 v d Q hn g h e k => by
  cases e
  have q := k (σ.set i (some (v, []))) ⟨fun _ _ e _ => e, fun a z => ?_, fun p hp => ?_, g.putF h (by rw [g.len, hn]; exact hi), by rw [List.length_set]⟩
  · rw [unG_set] at q
    exact q
  · rcases own_put z (by rw [g.len, hn]; exact hi) g.len with f | ⟨j, u, g', _, e1, e2, e3⟩
    · exact frno f.own
    · exact .inr ⟨j, u, g', e1, e2, e3⟩
  · rw [List.getElem?_set_ne fun z => by subst z; rw [hf] at hp; cases hp]
theorem tgs_nil : TgsOk κ fx n gNil gsN := fun B σ H S S1 vs ds Q hn g h e k => by
  unfold gsN at e
  split at e
  · cases e; cases h; exact ⟨rfl, k σ (.refl g)⟩
  · cases e
theorem DVs.later {B B' : Addr → Prop} {σ σ' : Sg} {H H' : Hp} {S S' : En} (p : PostS κ B fx σ H S σ' H' S') {v : List V} {d : List D} (h : DVs κ H (AvS B S σ) v d) : DVs κ H' (AvS B S' σ') v d :=
  h.mono (fun b o e n => p.keep b o e fun z => n (.inr z)) fun b e n z => z.elim (fun z => n (.inl z)) fun z => (p.own b z).elim (fun q => e q) fun q => n (.inr q)
theorem tgs_cons (h1 : TgOk κ fx n gt gd) (h2 : TgsOk κ fx n gts gds)   : TgsOk κ fx n (gCons gt gts) (gsC gd gds) := fun B σ H S S1 vs ds Q hn g h e k => by
  unfold gsC at e
  split at e
  · rename_i d ds
    split at e
    · rename_i S2 e2
      cases h with
      | cons hd ht =>
        refine ⟨_, _, rfl, h1 B σ H S S2 _ _ _ hn g hd e2 fun σ1 p => ?_⟩
        exact h2 B σ1 H S2 S1 _ _ _ (p.slen.trans hn) p.good (DVs.later (B' := B) p ht) e fun σ2 q => k σ2 (p.trans q)
    · cases e
  · cases e
theorem tg_tup (h : TgsOk κ fx n gts gds) {m : Nat} : TgOk κ fx n (gTup κ.K m gts) (gT m gds) := fun B σ H S S1 v d Q hn g hd e k => by
  unfold gT at e
  split at e
  · split at e
    · rename_i hl
      cases hd with
      | tup r na hs => exact ⟨_, _, rfl, .of r, by rw [hs.length]; exact hl, h B σ H S S1 _ _ Q hn g hs e k⟩
      | tup0 r => exact ⟨_, [], rfl, r.sq, hl, h B σ H S S1 [] [] Q hn g .nil e k⟩
    · cases e
  · split at e
    · rename_i hl
      cases hd with
      | ktup r hs => exact ⟨_, _, rfl, r.sq, by rw [hs.length]; exact hl, h B σ H S S1 _ _ Q hn g hs e k⟩
    · cases e
  · cases e
end
end DL

set_option Elab.async false
set_option linter.all false
namespace DL
open PySem L2
structure Rel (H : Hp) (Av : Addr → Prop) (H1 : Hp) (Av1 : Addr → Prop) : Prop where
  keep : ∀ b o, H b = some o → ¬ Av b → H1 b = some o
  free : ∀ b, H b ≠ none → ¬ Av b → ¬ Av1 b
  trk : ∀ b, (H1 b = none ∨ ∃ xs, H1 b = some (.tup xs)) → ¬ Av1 b
def WalkD (κ : Kt) (H : Hp) (Av : Addr → Prop) (J : It) (ds : List D) : Prop := ∀ H1 Av1, Rel H Av H1 Av1 → (∀ i, i < ds.length → J.go i H1) ∧ J.stop ds.length H1 ∧ ∀ i x H2 d, J.yld i H1 x H2 → ds[i]? = some d → Same H1 H2 ∧ DV κ H2 Av1 x d
structure PostI (κ : Kt) (B : Addr → Prop) (σ : Sg) (H : Hp) (S : En) (H' : Hp) (S' : En) (J : It) (ds : List D) : Prop where
  keep : ∀ b o, H b = some o → ¬ OwnAt S σ b → H' b = some o
  sub : ∀ a, OwnAt S' σ a → OwnAt S σ a
  good : Good κ B H' σ S'
  walk : WalkD κ H' (AvS B S' σ) J ds
def OutI (κ : Kt) (W : WX) (B : Addr → Prop) (σ : Sg) (H : Hp) (S : En) (R : It → Hp → Prop) : Res (List D) → Prop
  | .ok ds S' => ∀ J H', PostI κ B σ H S H' S' J ds → R J H'
  | .exc x S' => ∀ d H', PostX κ B σ H S H' S' x d → W (.ref (κ.cA x.c)) (some d) (unG σ) H'
  | .stuck => False
def tI (κ : Kt) (W : WX) (f : M (List D)) : TI := fun σ H R => ∃ (B : Addr → Prop) (S : En) (τ : Sg), unG τ = σ ∧ Good κ B H τ S ∧ OutI κ W B τ H S R (f S)
theorem _root_.L2.PI.weak {X : Cx} {tg e : Expr} {t t' : TI} (h : PI X tg e t) (k : ∀ σ H R, t' σ H R → t σ H R) : PI X tg e t' := ⟨fun pins s σ H R I q => h.run pins s σ H R I (k σ H R q)⟩
section
variable {κ : Kt} {W : WX} {B B1 : Addr → Prop} {fx : Nat → Bool} {H H1 H2 : Hp} {σ σ1 : Sg} {S S1 S2 : En} {Q : VK} {v : G} {r : Rv} {R : It → Hp → Prop} {J : It} {ds : List D} {d : D} {S' : En}
theorem PostI.toS (p : PostI κ B σ H S H1 S1 J ds) : PostS κ B fx σ H S σ H1 S1 := ⟨p.keep, fun a z => .inr (p.sub a z), fun _ _ => rfl, p.good, rfl⟩
theorem Rel.of (p : PostS κ B fx σ H S σ1 H1 S1) : Rel H (AvS B S σ) H1 (AvS B S1 σ1) :=
  ⟨fun b o e n => p.keep b o e fun z => n (.inr z), fun b e n z => z.elim (fun z => n (.inl z)) fun z => (p.own b z).elim (fun q => e q) fun q => n (.inr q), fun b e z => p.good.avOk e z⟩
theorem Rel.dv (h : Rel H B H1 B1) {x : V} {d : D} (z : DV κ H B x d) : DV κ H1 B1 x d := z.mono h.keep h.free
theorem Chain.bindI {f : M Rv} {k : Rv → M (List D)} (c : Chain κ B σ H S B1 H1 S1) (o : OutI κ W B σ H S R (M.bind f k S1))
    (hk : ∀ S2 H2 (v : G) r, Post κ B1 σ H1 S1 H2 S2 v r → OutI κ W B σ H S R (k r S2) → Q v.1 H2) : tE κ W f (unG σ) H1 Q := by
  refine tE_iff.mpr ⟨B1, S1, σ, rfl, c.good, ?_⟩
  unfold M.bind at o
  cases e : f S1 with
  | ok r S2 => rw [e] at o; exact fun v H2 p => hk S2 H2 v r p o
  | exc x S2 => rw [e] at o; exact fun d H2 p => o d H2 (c.postX p)
  | stuck => rw [e] at o; exact o
theorem Chain.bindAI {f : M (List Rv)} {k : List Rv → M (List D)} {RL : List V → Hp → Prop} (c : Chain κ B σ H S B1 H1 S1) (o : OutI κ W B σ H S R (M.bind f k S1))
    (hk : ∀ S2 H2 (vs : List G) rs, PostL κ B1 σ H1 S1 H2 S2 vs rs → OutI κ W B σ H S R (k rs S2) → RL (vsV vs) H2) : tA κ W f (unG σ) H1 RL := by
  refine ⟨B1, S1, σ, rfl, c.good, ?_⟩
  unfold M.bind at o
  cases e : f S1 with
  | ok r S2 => rw [e] at o; exact fun vs H2 p => hk S2 H2 vs r p o
  | exc x S2 => rw [e] at o; exact fun d H2 p => o d H2 (c.postX p)
  | stuck => rw [e] at o; exact o
theorem Post.frz (g0 : Good κ B H σ S) (p : Post κ B σ H S H1 S1 v r) (h : frzR r S1 = some (d, S')) : Chain κ B σ H S B H1 S' ∧ DV κ H1 (AvS B S' σ) v.1 d := by
  obtain ⟨g, s, t, h1, h2, h3⟩ := p.good.frzR p.rv h
  refine ⟨⟨p.keep, fun a z => p.sub a (s a z), fun _ z => z, g.weaken fun b z => .inl z⟩, ?_⟩
  rw [← h1]
  refine h2.freeze (fun b z => z.imp .inl id) fun a f z => ?_
  have tm := h3 a f
  rcases z with z | z
  · rcases p.tnew a tm with q | q
    · exact (g0.trk a z).nn q
    · exact g0.dis a z q.1
  · exact p.good.dis a (.inr tm) (s a z)
end
def eIt (f : M Rv) (k : D → Option (List D)) : M (List D) := M.bind f fun r S => match frzR r S with
  | some (d, S') => match k d with
    | some ds => .ok ds S'
    | none => .stuck
  | none => .stuck
def lstD : D → Option (List D)
  | .lst ds => some ds
  | .scr ds => some ds
  | _ => none
def tupD : D → Option (List D)
  | .tup ds => some ds
  | .ktup ds => some ds
  | _ => none
section
variable {κ : Kt} {H : Hp} {Av : Addr → Prop} {v : V} {d : D} {ds : List D}
theorem DV.lstD (h : DV κ H Av v d) (e : lstD d = some ds) : ∃ a xs, v = .ref a ∧ (∀ H1 Av1, Rel H Av H1 Av1 → SqL κ.K H1 a xs) ∧ DVs κ H Av xs ds := by
  cases h with
  | lst r na hs => cases e; exact ⟨_, _, rfl, fun H1 Av1 q => .of (q.keep _ _ r na), hs⟩
  | scr r na hs => cases e; exact ⟨_, _, rfl, fun H1 Av1 q => .inl (.inr ⟨_, q.keep _ _ r na⟩), hs⟩
  | _ => cases e
theorem DV.tupD (h : DV κ H Av v d) (e : tupD d = some ds) : ∃ a xs, v = .ref a ∧ (∀ H1 Av1, Rel H Av H1 Av1 → SqT κ.K H1 a xs) ∧ DVs κ H Av xs ds := by
  cases h with
  | tup r na hs => cases e; exact ⟨_, _, rfl, fun H1 Av1 q => .of (q.keep _ _ r na), hs⟩
  | tup0 r => cases e; exact ⟨_, _, rfl, fun H1 Av1 q => r.sq, .nil⟩
  | ktup r hs => cases e; exact ⟨_, _, rfl, fun H1 Av1 q => r.sq, hs⟩
  | _ => cases e
theorem Rel.refl' (hp : ∀ p, (H p = none ∨ ∃ xs, H p = some (.tup xs)) → ¬ Av p) : Rel H Av H Av := ⟨fun _ _ e _ => e, fun _ _ n => n, hp⟩
theorem DVs.len_of {xs : List V} (h : DVs κ H Av xs ds) {i : Nat} (hi : i < ds.length) : ∃ x, xs[i]? = some x := ⟨xs[i]'(by rw [h.length]; exact hi), List.getElem?_eq_getElem _⟩
theorem walkD_list {a : Addr} {xs : List V} (hs : ∀ H1 Av1, Rel H Av H1 Av1 → SqL κ.K H1 a xs) (h : DVs κ H Av xs ds) : WalkD κ H Av (Itl κ.K a) ds := fun H1 Av1 q => by
  have sq := hs H1 Av1 q
  refine ⟨fun i hi => ?_, ⟨xs, sq, Nat.le_of_eq h.length⟩, fun i x H2 d y e => ?_⟩
  · obtain ⟨x, e⟩ := h.len_of hi
    exact ⟨xs, x, sq, e⟩
  · obtain ⟨rfl, y⟩ := y
    obtain ⟨w, e1, e2⟩ := h.get e
    have e3 := y xs sq
    rw [e1] at e3; cases e3
    exact ⟨fun _ _ e => e, q.dv e2⟩
theorem walkD_tup {a : Addr} {xs : List V} (hs : ∀ H1 Av1, Rel H Av H1 Av1 → SqT κ.K H1 a xs) (h : DVs κ H Av xs ds) : WalkD κ H Av (Itt κ.K a) ds := fun H1 Av1 q => by
  have sq := hs H1 Av1 q
  refine ⟨fun i hi => ?_, ⟨xs, sq, Nat.le_of_eq h.length⟩, fun i x H2 d y e => ?_⟩
  · obtain ⟨x, e⟩ := h.len_of hi
    exact ⟨xs, x, sq, e⟩
  · obtain ⟨rfl, y⟩ := y
    obtain ⟨w, e1, e2⟩ := h.get e
    have e3 := y xs sq
    rw [e1] at e3; cases e3
    exact ⟨fun _ _ e => e, q.dv e2⟩
theorem walkD_str {z : Str} : WalkD κ H Av (Its z) (z.cps.toList.map fun c => .str ⟨#[c]⟩) := fun H1 Av1 q => by
  have w := walk_str (z := z)
  refine ⟨fun i hi => w.goes i H1 (by simpa using hi) trivial, ?_, fun i x H2 d y e => ?_⟩
  · have := w.stops H1 trivial
    simpa using this
  · have hi : i < z.cps.size := by
      obtain ⟨hi, _⟩ := List.getElem?_eq_some_iff.mp e
      simpa using hi
    obtain ⟨rfl, c, e1, rfl⟩ := w.yields i H1 x H2 hi trivial y
    rw [List.getElem?_map] at e
    obtain ⟨c', e2, rfl⟩ := Option.map_eq_some_iff.mp e
    have : z.cps.toList[i]? = z.cps[i]? := by simp
    rw [this, e1] at e2; cases e2
    exact ⟨fun _ _ e => e, .str _⟩
end
section
variable {X : Cx} {κ : Kt} {W : WX} {tg e : Expr} {f : M Rv}
theorem it_red {k : D → Option (List D)} {σ : L2.St} {H : Hp} {R : It → Hp → Prop} {Q : VK} (h : tI κ W (eIt f k) σ H R)
    (hv : ∀ H1 Av x d ds, (∀ p, (H1 p = none ∨ ∃ xs, H1 p = some (.tup xs)) → ¬ Av p) → DV κ H1 Av x d → k d = some ds → (∀ J, WalkD κ H1 Av J ds → R J H1) → Q x H1) : tE κ W f σ H Q := by
  obtain ⟨B, S, τ, rfl, g, o⟩ := h
  refine (Chain.refl g).bindI o fun S2 H2 v r p o1 => ?_
  split at o1
  · rename_i d S3 e1
    split at o1
    · rename_i ds e2
      obtain ⟨c, dv⟩ := p.frz g e1
      exact hv H2 _ v.1 d ds (fun p hp => c.good.avOk hp) dv e2 fun J w => o1 J H2 ⟨c.keep, c.sub, c.good, w⟩
    · exact o1.elim
  · exact o1.elim
def seqD : D → Option (List D)
  | .lst ds => some ds
  | .scr ds => some ds
  | .tup ds => some ds
  | .ktup ds => some ds
  | .str x => some (x.cps.toList.map fun c => .str ⟨#[c]⟩)
  | _ => none
def iSeq (K : PySem.W.Frag) (te : TE) : TI := fun σ H R => te σ H fun x H1 => (∃ a, x = .ref a ∧ (∃ xs, SqL K H1 a xs) ∧ R (Itl K a) H1) ∨ (∃ a, x = .ref a ∧ (∃ xs, SqT K H1 a xs) ∧ R (Itt K a) H1) ∨ ∃ z, x = .str z ∧ R (Its z) H1
theorem pi_seq {te : TE} (he : PE X e te) : PI X tg e (iSeq X.K te) := by
  refine ⟨fun pins s σ H R I h => ?_⟩
  refine thn (he.run pins s σ H _ I h) fun v s1 ⟨x, H1, I1, r1, q1⟩ => ?_
  rcases q1 with ⟨a, rfl, ⟨xs, hq⟩, q⟩ | ⟨a, rfl, ⟨xs, hq⟩, q⟩ | ⟨z, rfl, q⟩
  · cases r1
    obtain ⟨its, rv, p, hz⟩ := I1.list hq
    exact PySem.wpAny_pyIter_list p.isList (pi_one (tk := s1.toks) I1 _ (turn_list a _) ⟨_, Heap.get?_push_size _ rfl, rfl, rfl⟩ q)
  · cases r1
    obtain ⟨its, rv, p, hz⟩ := I1.tuple hq
    exact wpAny_pyIter_tuple (show s1.heap.IsTuple a its.toArray from p) (pi_one (tk := s1.toks) I1 _ (turn_tuple a _) ⟨_, Heap.get?_push_size _ rfl, rfl, rfl⟩ q)
  · obtain ⟨t, rfl⟩ := r1
    cases ha : z.cps.all (· < 128)
    · exact wpAny_pyIter_wide ha (pi_one (tk := s1.toks) I1 _ (turn_str _ z t "str_iterator" (.inr rfl)) ⟨_, Heap.get?_push_size _ rfl, rfl, rfl⟩ q)
    · exact wpAny_pyIter_ascii ha (pi_one (tk := s1.toks) I1 _ (turn_str _ z t "str_ascii_iterator" (.inl rfl)) ⟨_, Heap.get?_push_size _ rfl, rfl, rfl⟩ q)
theorem di_seq (hk : X.K = κ.K) (he : PE X e (tE κ W f)) : PI X tg e (tI κ W (eIt f seqD)) := (pi_seq he).weak fun σ H R h => it_red h fun H1 Av x d ds hp dv e1 w => by
  rw [hk]
  cases d with
  | lst l =>
    obtain ⟨a, xs, rfl, sq, hs⟩ := dv.lstD (ds := ds) e1
    exact .inl ⟨a, rfl, ⟨xs, sq H1 Av (.refl' hp)⟩, w _ (walkD_list sq hs)⟩
  | scr l =>
    obtain ⟨a, xs, rfl, sq, hs⟩ := dv.lstD (ds := ds) e1
    exact .inl ⟨a, rfl, ⟨xs, sq H1 Av (.refl' hp)⟩, w _ (walkD_list sq hs)⟩
  | tup l =>
    obtain ⟨a, xs, rfl, sq, hs⟩ := dv.tupD (ds := ds) e1
    exact .inr (.inl ⟨a, rfl, ⟨xs, sq H1 Av (.refl' hp)⟩, w _ (walkD_tup sq hs)⟩)
  | ktup l =>
    obtain ⟨a, xs, rfl, sq, hs⟩ := dv.tupD (ds := ds) e1
    exact .inr (.inl ⟨a, rfl, ⟨xs, sq H1 Av (.refl' hp)⟩, w _ (walkD_tup sq hs)⟩)
  | str z => cases dv; cases e1; exact .inr (.inr ⟨z, rfl, w _ walkD_str⟩)
  | _ => cases e1
def eItL (f : M (List Rv)) (k : List D → Option (List D)) : M (List D) := M.bind f fun rs S => match frzRs rs S with
  | some (ds, S') => match k ds with
    | some es => .ok es S'
    | none => .stuck
  | none => .stuck
def rng (lo : Int) (n : Nat) : List D := (List.range n).map fun i => .int (lo + (i : Nat))
def rng1D : List D → Option (List D)
  | [.int j] => if -(2 ^ 62) ≤ j ∧ j < 2 ^ 62 then some (rng 0 j.toNat) else none
  | _ => none
theorem itL_red {fs : M (List Rv)} {k : List D → Option (List D)} {σ : L2.St} {H : Hp} {R : It → Hp → Prop} {Q : List V → Hp → Prop} (h : tI κ W (eItL fs k) σ H R)
    (hv : ∀ H1 Av xs ds es, (∀ p, (H1 p = none ∨ ∃ xs, H1 p = some (.tup xs)) → ¬ Av p) → DVs κ H1 Av xs ds → k ds = some es → (∀ J, WalkD κ H1 Av J es → R J H1) → Q xs H1) : tA κ W fs σ H Q := by
  obtain ⟨B, S, τ, rfl, g, o⟩ := h
  refine (Chain.refl g).bindAI o fun S2 H2 vs rs p o1 => ?_
  split at o1
  · rename_i d S3 e1
    split at o1
    · rename_i ds e2
      obtain ⟨c, dv⟩ := Chain.frozen g p e1
      exact hv H2 _ (vsV vs) d ds (fun p hp => c.good.avOk hp) dv e2 fun J w => o1 J H2 ⟨c.keep, c.sub, c.good, w⟩
    · exact o1.elim
  · exact o1.elim
theorem walkD_range {H : Hp} {Av : Addr → Prop} {lo : Int} {n : Nat} : WalkD κ H Av (Itr lo n) (rng lo n) := fun H1 Av1 q => by
  unfold rng
  refine ⟨fun i hi => (by simpa using hi : i < n), by simp [Itr], fun i x H2 d y e => ?_⟩
  obtain ⟨rfl, rfl⟩ := y
  rw [List.getElem?_map] at e
  obtain ⟨j, e1, rfl⟩ := Option.map_eq_some_iff.mp e
  have hi := (List.getElem?_eq_some_iff.mp e1).1
  rw [List.getElem?_range (by simpa using hi)] at e1
  cases e1
  exact ⟨fun _ _ e => e, .int _⟩
theorem DVs.one {H : Hp} {Av : Addr → Prop} {xs : List V} {d : D} (h : DVs κ H Av xs [d]) : ∃ x, xs = [x] ∧ DV κ H Av x d := by
  cases h with
  | cons h t => cases t; exact ⟨_, rfl, h⟩
theorem DVs.two {H : Hp} {Av : Addr → Prop} {xs : List V} {d e : D} (h : DVs κ H Av xs [d, e]) : ∃ x y, xs = [x, y] ∧ DV κ H Av x d ∧ DV κ H Av y e := by
  cases h with
  | cons h t => obtain ⟨y, rfl, h2⟩ := DVs.one t; exact ⟨_, y, rfl, h, h2⟩
variable {a b : Expr} {fs : M (List Rv)} {p pos tpos : Pos} {elts : List Expr} {kk : Nat}
theorem di_range1 (hg : Gl X "range") (hm : X.mg "range" = none) (ha : PA X [a] (tA κ W fs)) (hs : starEach [a] X.env = [(false, eval a X.env)] := by rfl) : PI X tg (.Call (.Name "range" p) [a] [] pos) (tI κ W (eItL fs rng1D)) :=
  (pi_range1 hg hm ha hs).weak fun σ H R h => itL_red h fun H1 Av xs ds es hp dv e w => by
    unfold rng1D at e
    split at e
    · split at e
      · rename_i hb
        cases e
        obtain ⟨x, rfl, h⟩ := DVs.one dv
        cases h
        exact ⟨_, rfl, hb.1, hb.2, w _ walkD_range⟩
      · cases e
    · cases e
end
def forD (gd : D → En → Option En) (b : MS) : List D → MS
  | [], S => .nx S
  | d :: ds, S => match gd d S with
    | some S1 => match b S1 with
      | .nx S2 => forD gd b ds S2
      | .ct S2 => forD gd b ds S2
      | .bk S2 => .nx S2
      | o => o
    | none => .stuck
def sFor (fi : M (List D)) (gd : D → En → Option En) (b : MS) : MS := fun S => match fi S with
  | .ok ds S1 => forD gd b ds S1
  | .exc x S1 => .exc x S1
  | .stuck => .stuck
section
variable {X : Cx} {κ : Kt} {W : WX} {fx : Nat → Bool} {tg iter c : Expr} {body : List Stmt} {fi : M (List D)} {gt : TG} {gd : D → En → Option En} {b : MS} {fc : M Bool} {pos : Pos} {n : Nat}
theorem OutS.turn {B : Addr → Prop} {σ : Sg} {H : Hp} {S : En} {D0 : Ends} {N : St → Hp → Prop} {k : MS} {o : RS}
    (h : OutS κ W B fx σ H S D0 (match (motive := RS → RS) o with | .nx S2 => k S2 | .ct S2 => k S2 | .bk S2 => .nx S2 | o => o)) (hN : ∀ σ' H' S', PostS κ B fx σ H S σ' H' S' → OutS κ W B fx σ H S D0 (k S') → N (unG σ') H') : OutS κ W B fx σ H S { D0 with nx := N, ct := N, bk := D0.nx } o := by
  cases o with
  | nx S2 => exact fun σ' H' p => hN σ' H' S2 p h
  | ct S2 => exact fun σ' H' p => hN σ' H' S2 p h
  | bk S2 => exact h
  | rt r S2 => exact h
  | exc x S2 => exact h
  | stuck => exact h
theorem ds_for (hp : PassesOwn (model X.prog X.w) X.A X.env X.xe) (hc : X.calm = true) (hi : PI X tg iter (tI κ W fi)) (hg : PG X tg gt) (ht : TgOk κ fx X.N.length gt gd) (hb : PSs X body (tS κ W fx b))
    (hs : ∀ x, foldedSetIterable iter X.env x = pure x := by intro _; rfl) : PS X (.For tg iter body [] pos) (tS κ W fx (sFor fi gd b)) := ⟨fun pins s σ H D0 I ⟨B, S, τ, ec, g, o⟩ => by
  have hlen : τ.length = X.N.length := by rw [← unG_len, ec]; exact I.len
  refine (ps_for hp hc hi hg hb hs).run pins s σ H D0 I ⟨B, S, τ, ec, g, ?_⟩
  subst ec
  unfold sFor at o
  cases e : fi S with
  | exc x S1 => rw [e] at o; exact fun d H1 p => o d τ H1 p.toY
  | stuck => rw [e] at o; exact o
  | ok ds S1 =>
    rw [e] at o
    intro J H1 P
    have w := P.walk
    refine ⟨fun i m σ' Hi => m = ds.length - i ∧ i ≤ ds.length ∧ ∃ Si σi, unG σi = σ' ∧ σi.length = X.N.length ∧ PostS κ B fx τ H1 S1 σi Hi Si ∧ OutS κ W B fx σi Hi Si D0 (forD gd b (ds.drop i) Si), ⟨_, rfl, Nat.zero_le _, S1, τ, rfl, hlen, .refl P.good, o.rest P.toS⟩, ?_⟩
    rintro i m _ Hi ⟨rfl, hi, Si, σi, rfl, hli, pi, oi⟩
    obtain ⟨w1, w2, w3⟩ := w Hi _ (Rel.of pi)
    by_cases hlt : i < ds.length
    · refine .inr ⟨w1 i hlt, fun σ' H' => ∃ S' τ', unG τ' = σ' ∧ τ'.length = X.N.length ∧ PostS κ B fx τ H1 S1 τ' H' S' ∧ OutS κ W B fx τ' H' S' D0 (forD gd b (ds.drop (i + 1)) S'), fun σ' H' ⟨S', τ', h0, h1, h2, h3⟩ => ⟨ds.length - (i + 1), by omega, rfl, hlt, S', τ', h0, h1, h2, h3⟩, fun x H' y => ?_⟩
      obtain ⟨hS, dv⟩ := w3 i x H' ds[i] y (List.getElem?_eq_getElem hlt)
      rw [List.drop_eq_getElem_cons hlt] at oi
      unfold forD at oi
      split at oi
      · rename_i S2 e2
        have pS : PostS κ B fx σi Hi Si σi H' Si := ⟨fun b o e _ => hS b o e, fun a z => .inr z, fun _ _ => rfl, pi.good.same hS, rfl⟩
        refine ht B σi H' Si S2 x _ _ hli pS.good dv e2 fun σ2 p2 => ⟨B, S2, σ2, rfl, p2.good, ?_⟩
        refine OutS.turn (oi.rest (pS.trans p2)) fun σ3 H3 S3 p3 o3 => ⟨S3, σ3, rfl, by rw [p3.slen, p2.slen]; exact hli, pi.trans (pS.trans (p2.trans p3)), o3.rest p3⟩
      · exact oi.elim
    · have e3 : i = ds.length := by omega
      subst e3
      rw [List.drop_length] at oi
      exact .inl ⟨w2, oi σi Hi (.refl pi.good)⟩⟩
end
end DL

set_option Elab.async false
set_option linter.all false
namespace DL
open PySem L2
inductive FR where
  | ret (t : T) (us : List T) | exc (x : Ex) (us : List T) | stuck
abbrev FD := List T → FR
structure PostF (κ : Kt) (B : Addr → Prop) (H : Hp) (vs : List G) (ts : List T) (H' : Hp) (v : G) (t : T) (us : List T) : Prop where
  keep : ∀ b o, H b = some o → ¬ OwnAt (ts.map some) (vs.map some) b → H' b = some o
  tnew : ∀ a, TmpAt (.tmp t) v a → H a = none ∨ OwnAt (ts.map some) (vs.map some) a
  good : Good κ (Bx B (.tmp t) v) H' (vs.map some) (us.map some)
  rv : TRG κ H' (AvS (Bx B (.tmp t) v) (us.map some) (vs.map some)) v t
structure PostG (κ : Kt) (B : Addr → Prop) (H : Hp) (vs : List G) (ts : List T) (H' : Hp) (x : Ex) (d : Addr) (us : List T) : Prop where
  keep : ∀ b o, H b = some o → ¬ OwnAt (ts.map some) (vs.map some) b → H' b = some o
  good : Good κ B H' (vs.map some) (us.map some)
  xd : ∃ fs : List (Str × V), H' d = some (.xd fs) ∧ fs.map (·.1) = x.ns ∧ DVs κ H' (AvS B (us.map some) (vs.map some)) (fs.map (·.2)) x.vs
def OutF (κ : Kt) (B : Addr → Prop) (H : Hp) (vs : List G) (ts : List T) (Q : VK) (E : XK) : FR → Prop
  | .ret t us => ∀ (v : G) H', PostF κ B H vs ts H' v t us → Q v.1 H'
  | .exc x us => ∀ d H', PostG κ B H vs ts H' x d us → E (.ref (κ.cA x.c)) (some d) H'
  | .stuck => False
def leP : List U → List U → Bool
  | [], _ => true
  | x :: xs, y :: ys => (!x.own || y.own) && leP xs ys
  | x :: xs, [] => !x.own && leP xs []
def leT (u t : T) : Bool := (!u.own || t.own) && leP u.parts t.parts
theorem leP_get : ∀ {xs ys : List U}, leP xs ys = true → ∀ {k : Nat} {x : U}, xs[k]? = some x → x.own = true → ∃ y, ys[k]? = some y ∧ y.own = true
  | [], _, _, k, x, e, _ => by simp at e
  | x :: xs, y :: ys, h, 0, z, e, o => by
    cases e
    unfold leP at h
    rw [o] at h
    exact ⟨y, rfl, by simp at h; exact h.1⟩
  | x :: xs, y :: ys, h, k + 1, z, e, o => by
    unfold leP at h
    rw [Bool.and_eq_true] at h
    obtain ⟨w, w1, w2⟩ := leP_get h.2 (k := k) (by simpa using e) o
    exact ⟨w, by simpa using w1, w2⟩
  | x :: xs, [], h, 0, z, e, o => by
    cases e
    unfold leP at h
    rw [o] at h
    simp at h
  | x :: xs, [], h, k + 1, z, e, o => by
    unfold leP at h
    rw [Bool.and_eq_true] at h
    obtain ⟨w, w1, w2⟩ := leP_get h.2 (k := k) (by simpa using e) o
    simp at w1
theorem leT_fp {u t : T} (h : leT u t = true) {g : G} {a : Addr} (f : Fp u g a) : Fp t g a := by
  unfold leT at h
  rw [Bool.and_eq_true] at h
  obtain ⟨o, f⟩ := f
  refine ⟨by have := h.1; rw [o] at this; simpa using this, f.imp id fun ⟨k, x, e1, e2, e3⟩ => ?_⟩
  obtain ⟨y, y1, y2⟩ := leP_get h.2 e1 e2
  exact ⟨k, y, y1, y2, e3⟩
def spD (κ : Kt) (F : FD) : Sp := fun vs H Q E => ∃ (B : Addr → Prop) (ts : List T) (gs : List G), vsV gs = vs ∧ Good κ B H (gs.map some) (ts.map some) ∧ OutF κ B H gs ts Q E (F ts)
def outsF (fx : Nat → Bool) (S : En) : Nat → List T → Option (List T)
  | _, [] => some []
  | p, t :: ts => match outsF fx S (p + 1) ts with
    | some us => if fx p = true then match S[p]? with
        | some (some u) => if leT u t = true then some (u :: us) else none
        | _ => none
      else if t.own = true then none else some (t :: us)
    | none => none
def retv (np : Nat) (r : Rv) (S : En) : Option (T × En) := match r with
  | .tmp t => some (t, S)
  | .slot i => match S[i]? with
    | some (some t) => if i < np then some (.fr t.frz, S.set i (some (.fr t.frz))) else some (t, S.set i none)
    | _ => none
  | .sub _ _ => none
def runD (N np : Nat) (fx : Nat → Bool) (b : MS) : FD := fun ts => if ts.length = np then
    match b (ts.map some ++ List.replicate (N - np) none) with
    | .nx S => match outsF fx S 0 ts with
      | some us => .ret (.fr .non) us
      | none => .stuck
    | .rt r S => match retv np r S with
      | some (t, S') => match outsF fx S' 0 ts with
        | some us => .ret t us
        | none => .stuck
      | none => .stuck
    | .exc x S => match outsF fx S 0 ts with
      | some us => .exc x us
      | none => .stuck
    | _ => .stuck
  else .stuck
section
variable {κ : Kt} {B : Addr → Prop} {fx : Nat → Bool} {H H1 : Hp} {σ σ' : Sg} {S S' S1 : En} {ts us : List T} {vs : List G} {r : Rv} {v : G} {t : T} {np N : Nat} {b : MS}
theorem outsF_spec : ∀ {ts us : List T} {p : Nat}, outsF fx S p ts = some us → us.length = ts.length ∧ ∀ (i : Nat) (u : T), us[i]? = some u → ∃ t, ts[i]? = some t ∧
    ((fx (p + i) = true ∧ S[p + i]? = some (some u) ∧ leT u t = true) ∨ (fx (p + i) = false ∧ u = t ∧ t.own = false))
  | [], us, p, h => by cases h; exact ⟨rfl, fun i u e => by simp at e⟩
  | t :: ts, us, p, h => by
    unfold outsF at h
    split at h
    · rename_i us' e1
      obtain ⟨hl, hu⟩ := outsF_spec e1
      have key : ∀ u', (∀ (i : Nat) (u : T), (u' :: us')[i]? = some u → i = 0 → ((fx (p + i) = true ∧ S[p + i]? = some (some u) ∧ leT u t = true) ∨ (fx (p + i) = false ∧ u = t ∧ t.own = false))) →
          (u' :: us').length = (t :: ts).length ∧ ∀ (i : Nat) (u : T), (u' :: us')[i]? = some u → ∃ t', (t :: ts)[i]? = some t' ∧
          ((fx (p + i) = true ∧ S[p + i]? = some (some u) ∧ leT u t' = true) ∨ (fx (p + i) = false ∧ u = t' ∧ t'.own = false)) := fun u' h0 => by
        refine ⟨by simp [hl], fun i u e => ?_⟩
        cases i with
        | zero => exact ⟨t, rfl, h0 0 u e rfl⟩
        | succ i =>
          obtain ⟨t', e2, e3⟩ := hu i u (by simpa using e)
          exact ⟨t', by simpa using e2, by rw [show p + (i + 1) = p + 1 + i by omega]; exact e3⟩
      split at h
      · rename_i hf
        split at h
        · rename_i u e2
          split at h
          · rename_i hn
            cases h
            refine key u fun i w e hi => ?_
            subst hi
            cases e
            exact .inl ⟨hf, e2, hn⟩
          · cases h
        · cases h
      · rename_i hf
        split at h
        · cases h
        · rename_i hn
          cases h
          refine key t fun i w e hi => ?_
          subst hi
          cases e
          exact .inr ⟨by simpa using hf, rfl, by simpa using hn⟩
    · cases h
theorem map_get {α : Type} {l : List α} {i : Nat} {x : Option α} (h : (l.map some)[i]? = some x) : ∃ y, l[i]? = some y ∧ x = some y := by
  rw [List.getElem?_map] at h
  obtain ⟨y, e1, e2⟩ := Option.map_eq_some_iff.mp h
  exact ⟨y, e1, e2.symm⟩
theorem get_map {α : Type} {l : List α} {i : Nat} {y : α} (h : l[i]? = some y) : (l.map some)[i]? = some (some y) := by rw [List.getElem?_map, h]; rfl
theorem pad_get {α : Type} {l : List α} {m i : Nat} {y : α} (h : (l.map some ++ List.replicate m none)[i]? = some (some y)) : l[i]? = some y := by
  by_cases hi : i < l.length
  · rw [List.getElem?_append_left (by simpa using hi)] at h
    obtain ⟨z, e1, e2⟩ := map_get h
    cases e2
    exact e1
  · rw [List.getElem?_append_right (by simpa using hi), List.getElem?_replicate] at h
    split at h <;> cases h
theorem get_pad {α : Type} {l : List α} {m i : Nat} {y : α} (h : l[i]? = some y) : (l.map some ++ List.replicate m none)[i]? = some (some y) := by
  rw [List.getElem?_append_left (by simpa using (List.getElem?_eq_some_iff.mp h).1)]
  exact get_map h
theorem vsV_len (gs : List G) : (vsV gs).length = gs.length := List.length_map ..
theorem unG_pad {m : Nat} (gs : List G) : unG (gs.map some ++ List.replicate m none) = (vsV gs).map some ++ List.replicate m none := by
  unfold unG vsV
  rw [List.map_append, List.map_map, List.map_map, List.map_replicate]
  rfl
theorem own_map {a : Addr} : OwnAt (ts.map some) (vs.map some) a ↔ ∃ (i : Nat) (t : T) (g : G), ts[i]? = some t ∧ Fp t g a ∧ vs[i]? = some g :=
  ⟨fun ⟨i, t, g, e1, e2, e3⟩ => by
    obtain ⟨y, f1, f2⟩ := map_get e1
    obtain ⟨z, g1, g2⟩ := map_get e3
    cases f2; cases g2
    exact ⟨i, _, _, f1, e2, g1⟩, fun ⟨i, t, g, e1, e2, e3⟩ => ⟨i, t, g, get_map e1, e2, get_map e3⟩⟩
theorem own_pad {m m' : Nat} {a : Addr} : OwnAt (ts.map some ++ List.replicate m none) (vs.map some ++ List.replicate m' none) a ↔ OwnAt (ts.map some) (vs.map some) a :=
  ⟨fun ⟨i, t, g, e1, e2, e3⟩ => ⟨i, t, g, get_map (pad_get e1), e2, get_map (pad_get e3)⟩, fun h => by
    obtain ⟨i, t, g, f1, e2, g1⟩ := own_map.mp h
    exact ⟨i, t, g, get_pad f1, e2, get_pad g1⟩⟩
theorem Good.pad {m : Nat} (g : Good κ B H (vs.map some) (ts.map some)) : Good κ B H (vs.map some ++ List.replicate m none) (ts.map some ++ List.replicate m none) := by
  have hl := g.len
  refine ⟨by simp only [List.length_append, List.length_replicate]; omega, g.trk, fun b z q => g.dis b z (own_pad.mp q), fun i j a t u g1 g2 e1 e2 e3 e4 e5 e6 => ?_, fun i t e => ?_⟩
  · exact g.inj i j a t u g1 g2 (get_map (pad_get e1)) e2 (get_map (pad_get e3)) e4 (get_map (pad_get e5)) (get_map (pad_get e6))
  · obtain ⟨v, e1, e2⟩ := g.slot i t (get_map (pad_get e))
    obtain ⟨z, f1, f2⟩ := map_get e1
    cases f2
    exact ⟨_, get_pad f1, e2.less fun b z => z.imp id own_pad.mp⟩
theorem Good.outs (g : Good κ B H1 σ' S') (h : outsF fx S' 0 ts = some us) (hl : vs.length = ts.length) (hfix : ∀ p v, fx p = true → vs[p]? = some v → σ'[p]? = some (some v)) (hold : ∀ (i : Nat) (t : T) (v : G), ts[i]? = some t → t.own = false → vs[i]? = some v → fx i = false → TRG κ H1 (AvS B S' σ') v t) :
    Good κ B H1 (vs.map some) (us.map some) ∧ ∀ a, OwnAt (us.map some) (vs.map some) a → OwnAt S' σ' a := by
  obtain ⟨hu, hs⟩ := outsF_spec h
  have slot : ∀ (i : Nat) (u : T) (v : G) (a : Addr), us[i]? = some u → vs[i]? = some v → Fp u v a → S'[i]? = some (some u) ∧ σ'[i]? = some (some v) := fun i u v a e1 e2 ho => by
    obtain ⟨t, e3, e4⟩ := hs i u e1
    rw [Nat.zero_add] at e4
    rcases e4 with ⟨f1, f2, f3⟩ | ⟨f1, f2, f3⟩
    · exact ⟨f2, hfix i v f1 e2⟩
    · subst f2; rw [ho.own] at f3; cases f3
  have sub : ∀ a, OwnAt (us.map some) (vs.map some) a → OwnAt S' σ' a := fun a h => by
    obtain ⟨i, u, g, f1, e2, g1⟩ := own_map.mp h
    obtain ⟨q1, q2⟩ := slot i _ _ a f1 g1 e2
    exact ⟨i, _, _, q1, e2, q2⟩
  refine ⟨⟨by simp only [List.length_map]; omega, g.trk, fun b z q => g.dis b z (sub b q), fun i j a t u ga gb e1 e2 e3 e4 e5 e6 => ?_, fun i u e => ?_⟩, sub⟩
  · obtain ⟨y1, f1, f2⟩ := map_get e1
    obtain ⟨y2, f3, f4⟩ := map_get e3
    obtain ⟨z1, g1, g2⟩ := map_get e5
    obtain ⟨z2, g3, g4⟩ := map_get e6
    cases f2; cases f4; cases g2; cases g4
    obtain ⟨p1, p2⟩ := slot i _ _ a f1 g1 e2
    obtain ⟨p3, p4⟩ := slot j _ _ a f3 g3 e4
    exact g.inj i j a _ _ _ _ p1 e2 p3 e4 p2 p4
  · obtain ⟨u', f1, f2⟩ := map_get e
    cases f2
    obtain ⟨t, e3, e4⟩ := hs i _ f1
    rw [Nat.zero_add] at e4
    have hv : i < vs.length := by have := (List.getElem?_eq_some_iff.mp f1).1; omega
    have ev : vs[i]? = some vs[i] := List.getElem?_eq_getElem hv
    refine ⟨vs[i], get_map ev, ?_⟩
    rcases e4 with ⟨q1, q2, q3⟩ | ⟨q1, q2, q3⟩
    · obtain ⟨w, w1, w2⟩ := g.slot i _ q2
      rw [hfix i _ q1 ev] at w1; cases w1
      exact w2.less fun b z => z.imp id (sub b)
    · subst q2
      exact (hold i _ _ e3 q3 ev q1).less fun b z => z.imp id (sub b)
theorem Good.out {i : Nat} (g : Good κ B H1 σ' S') (e : S'[i]? = some (some t)) (ev : σ'[i]? = some (some v)) :
    Good κ (Bx B (.tmp t) v) H1 σ' (S'.set i none) ∧ TRG κ H1 (AvS (Bx B (.tmp t) v) (S'.set i none) σ') v t ∧ (∀ a, OwnAt (S'.set i none) σ' a → OwnAt S' σ' a) ∧ ∀ a, TmpAt (.tmp t) v a → OwnAt S' σ' a := by
  have hi : i < S'.length := (List.getElem?_eq_some_iff.mp e).1
  have get : ∀ (j : Nat) (u : T), (S'.set i none)[j]? = some (some u) → j ≠ i ∧ S'[j]? = some (some u) := fun j u q => by
    by_cases hj : i = j
    · subst hj; rw [List.getElem?_set_self hi] at q; cases q
    · rw [List.getElem?_set_ne hj] at q; exact ⟨fun z => hj z.symm, q⟩
  have sub : ∀ a, OwnAt (S'.set i none) σ' a → OwnAt S' σ' a := fun a ⟨j, u, g, e1, e2, e3⟩ => ⟨j, u, g, (get j u e1).2, e2, e3⟩
  have tm : ∀ a, TmpAt (.tmp t) v a → Fp t v a := fun a ⟨u, e1, e2⟩ => by cases e1; exact e2
  have own : ∀ a, TmpAt (.tmp t) v a → OwnAt S' σ' a := fun a z => ⟨i, t, v, e, tm a z, ev⟩
  have av : ∀ b, AvS (Bx B (.tmp t) v) (S'.set i none) σ' b → AvS B S' σ' b := fun b z => by
    rcases z with (z | z) | z
    · exact .inl z
    · exact .inr (own b z)
    · exact .inr (sub b z)
  obtain ⟨w, w1, w2⟩ := g.slot i t e
  rw [ev] at w1; cases w1
  refine ⟨⟨by rw [List.length_set]; exact g.len, fun b z => ?_, fun b z q => ?_, fun j k a t1 t2 g1 g2 q1 q2 q3 q4 q5 q6 => g.inj j k a t1 t2 g1 g2 (get j t1 q1).2 q2 (get k t2 q3).2 q4 q5 q6, fun j u q => ?_⟩, w2.less av, sub, own⟩
  · exact z.elim (g.trk b) fun z => g.ownTrk (own b z)
  · rcases z with z | z
    · exact g.dis b z (sub b q)
    · obtain ⟨j, u, g', e1, e2, e3⟩ := q
      obtain ⟨hj, e1⟩ := get j u e1
      exact hj (g.inj j i b u t g' v e1 e2 e (tm b z) e3 ev)
  · obtain ⟨w, w1, w3⟩ := g.slot j u (get j u q).2
    exact ⟨w, w1, w3.less av⟩
theorem PostR.ret (p : PostR κ B fx σ H S σ' H1 S' v r) (h : retv np r S' = some (t, S1)) :
    Good κ (Bx B (.tmp t) v) H1 σ' S1 ∧ TRG κ H1 (AvS (Bx B (.tmp t) v) S1 σ') v t ∧ (∀ a, OwnAt S1 σ' a → OwnAt S' σ' a) ∧ ∀ a, TmpAt (.tmp t) v a → H a = none ∨ OwnAt S σ a := by
  cases r with
  | tmp u => cases h; exact ⟨p.good, p.rv, fun _ z => z, p.tnew⟩
  | sub i k => cases h
  | slot i =>
    unfold retv at h
    dsimp only at h
    split at h
    · rename_i u e
      have gB : Good κ B H1 σ' S' := p.good.weaken fun b z => .inl z
      split at h
      · cases h
        have le : ∀ b, Bx B (.tmp (.fr u.frz)) v b → B b := fun b z => z.elim id fun z => frTmp z
        obtain ⟨h1, h2⟩ := gB.freeze e p.rv
        exact ⟨h1.weaken le, ⟨DV.less h2 fun b z => z.imp (le b) id, True.intro⟩, fun a z => (own_set rfl z).1, fun a z => frTmp z⟩
      · cases h
        obtain ⟨h1, h2, h3, h4⟩ := gB.out e p.rv
        exact ⟨h1, h2, h3, fun a z => p.own a (h4 a z)⟩
    · cases h
theorem spD_len {F : FD} {ws : List V} {Q : VK} {E : XK} (h : spD κ F ws H Q E) (hF : ∀ ts, F ts ≠ .stuck → ts.length = np) : ws.length = np := by
  obtain ⟨B, ts, gs, rfl, g, o⟩ := h
  have hl := g.len
  have := hF ts fun z => by rw [z] at o; exact o
  simp at hl
  rw [vsV_len]
  omega
theorem runD_len (h : runD N np fx b ts ≠ .stuck) : ts.length = np := Classical.byContradiction fun z => h (by unfold runD; rw [if_neg z])
theorem runD_ok {ws : List V} {Q : VK} {E : XK} (h : spD κ (runD N np fx b) ws H Q E) : tS κ (fun c d _ H => E c d H) fx b { nx := fun _ H' => Q .non H', rt := Q } (ws.map some ++ List.replicate (N - ws.length) none) H := by
  have hn := spD_len h fun ts z => runD_len z
  obtain ⟨B, ts, vs, rfl, g, o⟩ := h
  have hl : vs.length = ts.length := by have := g.len; simp at this; exact this.symm
  rw [vsV_len] at hn ⊢
  unfold runD at o
  rw [if_pos (hl ▸ hn)] at o
  rw [hn]
  have gp := g.pad (m := N - np)
  have start : ∀ {i : Nat} {v : G}, vs[i]? = some v → (vs.map some ++ List.replicate (N - np) none)[i]? = some (some v) := fun e => get_pad e
  refine ⟨B, _, _, unG_pad vs, gp, ?_⟩
  generalize hS : ts.map some ++ List.replicate (N - np) none = S at gp o ⊢
  generalize hσ : vs.map some ++ List.replicate (N - np) none = σ at gp start ⊢
  have ownE : ∀ a, OwnAt S σ a ↔ OwnAt (ts.map some) (vs.map some) a := fun a => by subst hS hσ; exact own_pad
  have old : ∀ {B' : Addr → Prop} {σ' : Sg} {H' : Hp} {S' : En}, (∀ b, B' b → B b ∨ H b = none ∨ OwnAt S σ b) → (∀ b o, H b = some o → ¬ OwnAt S σ b → H' b = some o) → (∀ a, OwnAt S' σ' a → H a = none ∨ OwnAt S σ a) → ∀ (i : Nat) (t : T) (v : G), ts[i]? = some t → t.own = false → vs[i]? = some v → fx i = false → TRG κ H' (AvS B' S' σ') v t := fun bb k1 k2 i t v e1 e2 e3 _ => by
    obtain ⟨w, w1, w2⟩ := g.slot i t (get_map e1)
    obtain ⟨z, f1, f2⟩ := map_get w1
    rw [e3] at f1; cases f1; cases f2
    refine TRG.mono w2 (fun a u ho => by rw [ho.own] at e2; cases e2) (fun b o e n => k1 b o e fun z => n (.inr ((ownE b).mp z))) fun b e n z => ?_
    rcases z with z | z
    · rcases bb b z with z | z | z
      · exact n (.inl z)
      · exact e z
      · exact n (.inr ((ownE b).mp z))
    · rcases k2 b z with q | q
      · exact e q
      · exact n (.inr ((ownE b).mp q))
  cases e : b S with
  | stuck => rw [e] at o; exact o
  | bk S1 => rw [e] at o; exact o.elim
  | ct S1 => rw [e] at o; exact o.elim
  | nx S1 =>
    rw [e] at o
    intro σ1 H1 p
    dsimp only at o
    split at o
    · rename_i us e2
      obtain ⟨h1, h2⟩ := p.good.outs e2 hl (fun i v hf ev => (p.fix i hf).trans (start ev)) (old (fun _ z => .inl z) p.keep p.own)
      have tn : ∀ a, ¬ TmpAt (.tmp (.fr .non)) ((V.non, []) : G) a := fun a z => frTmp z
      exact o (V.non, []) H1 ⟨fun b o e n => p.keep b o e fun z => n ((ownE b).mp z), fun a z => (tn a z).elim, h1.weaken fun b z => z.elim id fun z => (tn b z).elim, ⟨DV.non, True.intro⟩⟩
    · exact o.elim
  | rt r S1 =>
    rw [e] at o
    intro v σ1 H1 p
    dsimp only at o
    split at o
    · rename_i t S2 e1
      split at o
      · rename_i us e2
        obtain ⟨g2, tr, s2, tn⟩ := p.ret e1
        have k2 : ∀ a, OwnAt S2 σ1 a → H a = none ∨ OwnAt S σ a := fun a z => p.own a (s2 a z)
        obtain ⟨h1, h2⟩ := g2.outs e2 hl (fun i v hf ev => (p.fix i hf).trans (start ev)) (old (fun b z => z.imp id (tn b)) p.keep k2)
        exact o v H1 ⟨fun b o e n => p.keep b o e fun z => n ((ownE b).mp z), fun a z => (tn a z).imp id (ownE a).mp, h1, tr.less fun b z => z.imp id (h2 b)⟩
      · exact o.elim
    · exact o.elim
  | exc x S1 =>
    rw [e] at o
    intro d σ1 H1 p
    dsimp only at o
    split at o
    · rename_i us e2
      obtain ⟨h1, h2⟩ := p.good.outs e2 hl (fun i v hf ev => (p.fix i hf).trans (start ev)) (old (fun _ z => .inl z) p.keep p.own)
      obtain ⟨fs, q1, q2, q3⟩ := p.xd
      exact o d H1 ⟨fun b o e n => p.keep b o e fun z => n ((ownE b).mp z), h1, fs, q1, q2, q3.less fun b z => z.imp id (h2 b)⟩
    · exact o.elim
end
end DL

set_option Elab.async false
set_option linter.all false
namespace DL
open PySem L2
def isSlot (i : Nat) : Rv → Bool
  | .slot j => i == j
  | _ => false
def argsT : List Rv → En → Option (List T)
  | [], _ => some []
  | r :: rs, S => match argsT rs S with
    | some ts => match r with
      | .tmp t => some (t :: ts)
      | .slot i => match S[i]? with
        | some (some t) => if t.own = true ∧ rs.any (isSlot i) = true then none else some (t :: ts)
        | _ => none
      | .sub _ _ => none
    | none => none
def backS : List Rv → List T → En → En
  | .slot i :: rs, u :: us, S => backS rs us (S.set i (some u))
  | .tmp _ :: rs, _ :: us, S => backS rs us S
  | .sub _ _ :: rs, _ :: us, S => backS rs us S
  | _, _, S => S
def leOwn : List T → List T → Bool
  | [], [] => true
  | u :: us, t :: ts => leT u t && leOwn us ts
  | _, _ => false
theorem leOwn_len : ∀ {us ts : List T}, leOwn us ts = true → us.length = ts.length
  | [], [], _ => rfl
  | u :: us, t :: ts, h => by
    unfold leOwn at h
    rw [Bool.and_eq_true] at h
    simp [leOwn_len h.2]
  | [], _ :: _, h => by cases h
  | _ :: _, [], h => by cases h
theorem leOwn_get : ∀ {us ts : List T}, leOwn us ts = true → ∀ {k : Nat} {u t : T}, us[k]? = some u → ts[k]? = some t → leT u t = true
  | [], [], _, k, u, t, e, _ => by simp at e
  | u :: us, t :: ts, h, k, u', t', e1, e2 => by
    unfold leOwn at h
    rw [Bool.and_eq_true] at h
    cases k with
    | zero =>
      cases e1; cases e2
      exact h.1
    | succ k => exact leOwn_get h.2 (by simpa using e1) (by simpa using e2)
  | [], _ :: _, h, _, _, _, _, _ => by cases h
  | _ :: _, [], h, _, _, _, _, _ => by cases h
theorem argsT_spec : ∀ {rs : List Rv} {S : En} {ts : List T}, argsT rs S = some ts → ts.length = rs.length ∧ (∀ (k : Nat) (t : T), ts[k]? = some t → (∃ i, rs[k]? = some (.slot i) ∧ S[i]? = some (some t)) ∨ rs[k]? = some (.tmp t)) ∧
    ∀ (k k' i : Nat) (t : T), rs[k]? = some (.slot i) → rs[k']? = some (.slot i) → ts[k]? = some t → t.own = true → k = k'
  | [], S, ts, h => by cases h; exact ⟨rfl, fun k t e => by simp at e, fun k k' i t e => by simp at e⟩
  | r :: rs, S, ts, h => by
    unfold argsT at h
    split at h
    · rename_i ts' e
      obtain ⟨h1, h2, h3⟩ := argsT_spec e
      split at h
      · rename_i t0
        cases h
        refine ⟨by simp [h1], fun k t e => ?_, fun k k' i t e1 e2 e3 ho => ?_⟩
        · cases k with
          | zero => cases e; exact .inr rfl
          | succ k => exact h2 k t (by simpa using e)
        · cases k with
          | zero => cases e1
          | succ k =>
            cases k' with
            | zero => cases e2
            | succ k' => exact congrArg _ (h3 k k' i t (by simpa using e1) (by simpa using e2) (by simpa using e3) ho)
      · rename_i i0
        split at h
        · rename_i t0 e0
          split at h
          · cases h
          · rename_i hn
            cases h
            have none' : t0.own = true → ∀ k : Nat, rs[k]? ≠ some (.slot i0) := fun ho k e => hn ⟨ho, List.any_eq_true.mpr ⟨_, List.mem_of_getElem? e, by simp [isSlot]⟩⟩
            refine ⟨by simp [h1], fun k t e => ?_, fun k k' i t e1 e2 e3 ho => ?_⟩
            · cases k with
              | zero => cases e; exact .inl ⟨i0, rfl, e0⟩
              | succ k => exact h2 k t (by simpa using e)
            · cases k with
              | zero =>
                cases e1; cases e3
                cases k' with
                | zero => rfl
                | succ k' => exact absurd (by simpa using e2) (none' ho k')
              | succ k =>
                cases k' with
                | zero =>
                  cases e2
                  have e1' : rs[k]? = some (.slot i0) := by simpa using e1
                  have e3' : ts'[k]? = some t := by simpa using e3
                  rcases h2 k t e3' with ⟨i, q1, q2⟩ | q
                  · rw [e1'] at q1; cases q1
                    rw [e0] at q2; cases q2
                    exact absurd e1' (none' ho k)
                  · rw [e1'] at q; cases q
                | succ k' => exact congrArg _ (h3 k k' i t (by simpa using e1) (by simpa using e2) (by simpa using e3) ho)
        · cases h
      · cases h
    · cases h
theorem backS_len : ∀ (rs : List Rv) (us : List T) (S : En), (backS rs us S).length = S.length
  | .slot i :: rs, u :: us, S => by unfold backS; rw [backS_len rs us, List.length_set]
  | .tmp _ :: rs, _ :: us, S => by unfold backS; exact backS_len rs us S
  | .sub _ _ :: rs, _ :: us, S => by unfold backS; exact backS_len rs us S
  | .sub _ _ :: _, [], _ => by unfold backS; rfl
  | [], _, _ => by unfold backS; rfl
  | .slot _ :: _, [], _ => by unfold backS; rfl
  | .tmp _ :: _, [], _ => by unfold backS; rfl
theorem backS_get : ∀ {rs : List Rv} {us : List T} {S : En} {j : Nat} {u : T}, us.length = rs.length → (backS rs us S)[j]? = some (some u) → (S[j]? = some (some u) ∧ ∀ k : Nat, rs[k]? ≠ some (.slot j)) ∨ ∃ k : Nat, rs[k]? = some (.slot j) ∧ us[k]? = some u
  | [], us, S, j, u, _, h => by unfold backS at h; exact .inl ⟨h, fun k e => by simp at e⟩
  | .tmp t :: rs, u0 :: us, S, j, u, hl, h => by
    unfold backS at h
    rcases backS_get (by simpa using hl) h with ⟨h1, h2⟩ | ⟨k, h1, h2⟩
    · refine .inl ⟨h1, fun k e => ?_⟩
      cases k with
      | zero => cases e
      | succ k => exact h2 k (by simpa using e)
    · exact .inr ⟨k + 1, by simpa using h1, by simpa using h2⟩
  | .sub _ _ :: rs, u0 :: us, S, j, u, hl, h => by
    unfold backS at h
    rcases backS_get (by simpa using hl) h with ⟨h1, h2⟩ | ⟨k, h1, h2⟩
    · refine .inl ⟨h1, fun k e => ?_⟩
      cases k with
      | zero => cases e
      | succ k => exact h2 k (by simpa using e)
    · exact .inr ⟨k + 1, by simpa using h1, by simpa using h2⟩
  | .slot i :: rs, u0 :: us, S, j, u, hl, h => by
    unfold backS at h
    rcases backS_get (by simpa using hl) h with ⟨h1, h2⟩ | ⟨k, h1, h2⟩
    · by_cases hj : i = j
      · subst hj
        refine .inr ⟨0, rfl, ?_⟩
        by_cases hi : i < S.length
        · rw [List.getElem?_set_self hi] at h1; cases h1; rfl
        · rw [List.getElem?_eq_none (by simpa using hi)] at h1; cases h1
      · rw [List.getElem?_set_ne hj] at h1
        refine .inl ⟨h1, fun k e => ?_⟩
        cases k with
        | zero => cases e; exact hj rfl
        | succ k => exact h2 k (by simpa using e)
    · exact .inr ⟨k + 1, by simpa using h1, by simpa using h2⟩
  | .slot _ :: rs, [], _, _, _, hl, _ => by simp at hl
  | .sub _ _ :: rs, [], _, _, _, hl, _ => by simp at hl
  | .tmp _ :: rs, [], _, _, _, hl, _ => by simp at hl
section
variable {κ : Kt} {W : WX} {B : Addr → Prop} {σ : Sg} {H H1 H2 : Hp} {S S1 S2 : En} {vs : List G} {rs : List Rv} {ts us : List T} {v : G} {t : T} {Z : Addr → Prop}
def Bc (B : Addr → Prop) (S : En) (σ : Sg) (rs : List Rv) (vs : List G) (ts : List T) (b : Addr) : Prop := AvS (BxL B rs vs) S σ b ∧ ¬ OwnAt (ts.map some) (vs.map some) b
theorem Paired.at {α β : Type} {R : α → β → Prop} : ∀ {l : List α} {m : List β}, Paired R l m → ∀ {i : Nat} {a : α} {b : β}, l[i]? = some a → m[i]? = some b → R a b
  | _, _, .nil, i, a, b, e, _ => by simp at e
  | _, _, .cons h t, 0, a, b, e, f => by cases e; cases f; exact h
  | _, _, .cons h t, i + 1, a, b, e, f => Paired.at t (i := i) (by simpa using e) (by simpa using f)
theorem PostL.argOwn (p : PostL κ B σ H S H1 S1 vs rs) (ha : argsT rs S1 = some ts) {a : Addr} (h : OwnAt (ts.map some) (vs.map some) a) : (OwnAt S1 σ a ∧ ∃ k i : Nat, ∃ t : T, ∃ g : G, rs[k]? = some (.slot i) ∧ S1[i]? = some (some t) ∧ ts[k]? = some t ∧ Fp t g a ∧ σ[i]? = some (some g)) ∨ TmpsAt rs vs a := by
  obtain ⟨k, t, g, f1, e2, g1⟩ := own_map.mp h
  obtain ⟨h1, h2, h3⟩ := argsT_spec ha
  rcases h2 k _ f1 with ⟨i, q1, q2⟩ | q
  · have sl : σ[i]? = some (some g) := Paired.at p.rv g1 q1
    exact .inl ⟨⟨i, _, _, q2, e2, sl⟩, k, i, _, _, q1, q2, f1, e2, sl⟩
  · exact .inr ⟨k, _, _, q, g1, _, rfl, e2⟩
theorem PostL.argAv (p : PostL κ B σ H S H1 S1 vs rs) (ha : argsT rs S1 = some ts) {a : Addr} (h : OwnAt (ts.map some) (vs.map some) a) : AvS (BxL B rs vs) S1 σ a := (p.argOwn ha h).elim (fun z => .inr z.1) fun z => .inl (.inr z)
theorem PostL.argNB (p : PostL κ B σ H S H1 S1 vs rs) (ha : argsT rs S1 = some ts) {a : Addr} (h : OwnAt (ts.map some) (vs.map some) a) : ¬ B a := fun b => by
  rcases p.argOwn ha h with z | z
  · exact p.good.dis a (.inl b) z.1
  · exact p.tB a z b
theorem PostL.enter (p : PostL κ B σ H S H1 S1 vs rs) (ha : argsT rs S1 = some ts) : Good κ (Bc B S1 σ rs vs ts) H1 (vs.map some) (ts.map some) := by
  obtain ⟨h1, h2, h3⟩ := argsT_spec ha
  have hl := p.lens
  refine ⟨by simp only [List.length_map]; omega, fun b z => ?_, fun b z q => z.2 q, fun k k' a t u ga gb e1 e2 e3 e4 e5 e6 => ?_, fun k t e => ?_⟩
  · rcases z.1 with z | z
    · exact p.good.trk b z
    · exact p.good.ownTrk z
  · obtain ⟨y1, f1, f2⟩ := map_get e1
    obtain ⟨y2, f3, f4⟩ := map_get e3
    obtain ⟨z1, g1, g2⟩ := map_get e5
    obtain ⟨z2, g3, g4⟩ := map_get e6
    cases f2; cases f4; cases g2; cases g4
    rcases h2 k _ f1 with ⟨i, q1, q2⟩ | q1 <;> rcases h2 k' _ f3 with ⟨j, q3, q4⟩ | q3
    · have s1 : σ[i]? = some (some ga) := Paired.at p.rv g1 q1
      have s2 : σ[j]? = some (some gb) := Paired.at p.rv g3 q3
      have := p.good.inj i j a _ _ _ _ q2 e2 q4 e4 s1 s2
      subst this
      exact h3 k k' i _ q1 q3 f1 e2.own
    · have s1 : σ[i]? = some (some ga) := Paired.at p.rv g1 q1
      exact (p.good.dis a (.inr ⟨k', _, _, q3, g3, _, rfl, e4⟩) ⟨i, _, _, q2, e2, s1⟩).elim
    · have s2 : σ[j]? = some (some gb) := Paired.at p.rv g3 q3
      exact (p.good.dis a (.inr ⟨k, _, _, q1, g1, _, rfl, e2⟩) ⟨j, _, _, q4, e4, s2⟩).elim
    · exact p.dist k k' _ _ _ _ a q1 q3 g1 g3 ⟨_, rfl, e2⟩ ⟨_, rfl, e4⟩
  · obtain ⟨y, f1, f2⟩ := map_get e
    cases f2
    have hk : k < vs.length := by have := (List.getElem?_eq_some_iff.mp f1).1; omega
    have ev : vs[k]? = some vs[k] := List.getElem?_eq_getElem hk
    refine ⟨vs[k], get_map ev, ?_⟩
    have le : ∀ b, AvS (Bc B S1 σ rs vs ts) (ts.map some) (vs.map some) b → AvS (BxL B rs vs) S1 σ b := fun b z => z.elim (fun z => z.1) fun z => p.argAv ha z
    rcases h2 k _ f1 with ⟨i, q1, q2⟩ | q1
    · have s1 : σ[i]? = some (some vs[k]) := Paired.at p.rv ev q1
      obtain ⟨w, w1, w2⟩ := p.good.slot i _ q2
      rw [s1] at w1; cases w1
      exact w2.less le
    · have w2 : TRG κ H1 (AvS (BxL B rs vs) S1 σ) vs[k] t := Paired.at p.rv ev q1
      exact w2.less le
theorem PostL.back (p : PostL κ B σ H S H1 S1 vs rs) (ha : argsT rs S1 = some ts) (ho : leOwn us ts = true) (keep : ∀ b o, H1 b = some o → ¬ OwnAt (ts.map some) (vs.map some) b → H2 b = some o)
    (good : Good κ (fun b => Bc B S1 σ rs vs ts b ∨ Z b) H2 (vs.map some) (us.map some)) (hZ : ∀ b, Z b → H1 b = none ∨ OwnAt (ts.map some) (vs.map some) b) :
    Good κ (fun b => B b ∨ Z b) H2 σ (backS rs us S1) ∧ (∀ a, OwnAt (backS rs us S1) σ a → OwnAt S1 σ a) ∧ ∀ b, AvS (fun b => B b ∨ Z b) (backS rs us S1) σ b → AvS (fun b => Bc B S1 σ rs vs ts b ∨ Z b) (us.map some) (vs.map some) b := by
  obtain ⟨h1, h2, h3⟩ := argsT_spec ha
  have hul := leOwn_len ho
  have hl := p.lens
  have hur : us.length = rs.length := by omega
  -- a slot's object at the end
  have slot : ∀ (j : Nat) (u : T) (g : G) (a : Addr), (backS rs us S1)[j]? = some (some u) → Fp u g a → σ[j]? = some (some g) → (∃ t, S1[j]? = some (some t) ∧ Fp t g a) ∧ (OwnAt (us.map some) (vs.map some) a ∨ (¬ OwnAt (ts.map some) (vs.map some) a ∧ Bc B S1 σ rs vs ts a)) := fun j u g a e1 e2 e3 => by
    rcases backS_get hur e1 with ⟨q1, q2⟩ | ⟨k, q1, q2⟩
    · have oS : OwnAt S1 σ a := ⟨j, u, g, q1, e2, e3⟩
      have no : ¬ OwnAt (ts.map some) (vs.map some) a := fun z => by
        rcases p.argOwn ha z with ⟨_, k, i, t, g', r1, r2, r3, r4, r5⟩ | z
        · have := p.good.inj i j a t u g' g r2 r4 q1 e2 r5 e3
          subst this
          exact q2 k r1
        · exact p.good.dis a (.inr z) oS
      exact ⟨⟨u, q1, e2⟩, .inr ⟨no, .inr oS, no⟩⟩
    · obtain ⟨t, et⟩ : ∃ t, ts[k]? = some t := ⟨ts[k]'(by have := (List.getElem?_eq_some_iff.mp q2).1; omega), List.getElem?_eq_getElem _⟩
      have hk : k < vs.length := by have := (List.getElem?_eq_some_iff.mp q2).1; omega
      have ev : vs[k]? = some vs[k] := List.getElem?_eq_getElem hk
      have s1 : σ[j]? = some (some vs[k]) := Paired.at p.rv ev q1
      rw [e3] at s1
      have e4 : g = vs[k] := Option.some.inj (Option.some.inj s1)
      rw [← e4] at ev
      refine ⟨?_, .inl (own_map.mpr ⟨k, u, g, q2, e2, ev⟩)⟩
      rcases h2 k t et with ⟨i, q3, q4⟩ | q3
      · rw [q1] at q3; cases q3
        exact ⟨t, q4, leT_fp (leOwn_get ho q2 et) e2⟩
      · rw [q1] at q3; cases q3
  have sub : ∀ a, OwnAt (backS rs us S1) σ a → OwnAt S1 σ a := fun a ⟨j, u, g, e1, e2, e3⟩ => by
    obtain ⟨⟨t, q1, q2⟩, _⟩ := slot j u g a e1 e2 e3
    exact ⟨j, t, g, q1, q2, e3⟩
  have nB : ∀ b, B b → Bc B S1 σ rs vs ts b := fun b z => ⟨.inl (.inl z), fun q => p.argNB ha q z⟩
  have av : ∀ b, AvS (fun b => B b ∨ Z b) (backS rs us S1) σ b → AvS (fun b => Bc B S1 σ rs vs ts b ∨ Z b) (us.map some) (vs.map some) b := fun b z => by
    rcases z with (z | z) | ⟨j, u, g, e1, e2, e3⟩
    · exact .inl (.inl (nB b z))
    · exact .inl (.inr z)
    · rcases (slot j u g b e1 e2 e3).2 with q | q
      · exact .inr q
      · exact .inl (.inl q.2)
  refine ⟨⟨by rw [backS_len]; exact p.good.len, fun b z => ?_, fun b z q => ?_, fun i j a t1 t2 g1 g2 q1 q2 q3 q4 q5 q6 => ?_, fun j u e => ?_⟩, sub, av⟩
  · rcases z with z | z
    · exact (p.good.trk b (.inl z)).keep fun o e => keep b o e fun q => p.argNB ha q z
    · exact good.trk b (.inr z)
  · rcases z with z | z
    · exact p.good.dis b (.inl z) (sub b q)
    · have oS := sub b q
      obtain ⟨j, u, g, e1, e2, e3⟩ := q
      rcases (slot j u g b e1 e2 e3).2 with q | q
      · exact good.dis b (.inr z) q
      · rcases hZ b z with y | y
        · exact (p.good.ownTrk oS).nn y
        · exact q.1 y
  · obtain ⟨⟨u1, f1, f2⟩, _⟩ := slot i t1 g1 a q1 q2 q5
    obtain ⟨⟨u2, f3, f4⟩, _⟩ := slot j t2 g2 a q3 q4 q6
    exact p.good.inj i j a u1 u2 g1 g2 f1 f2 f3 f4 q5 q6
  · rcases backS_get hur e with ⟨q1, q2⟩ | ⟨k, q1, q2⟩
    · obtain ⟨w, w1, w2⟩ := p.good.slot j u q1
      refine ⟨w, w1, TRG.mono w2 (fun a o f hH => keep a o hH fun z => ?_) (fun b o hH n => keep b o hH fun z => n (p.argAv ha z)) fun b hH n z => ?_⟩
      · rcases p.argOwn ha z with ⟨_, k, i, t, g', r1, r2, r3, r4, r5⟩ | z
        · have := p.good.inj i j a t u g' w r2 r4 q1 f r5 w1
          subst this
          exact q2 k r1
        · exact p.good.dis a (.inr z) ⟨j, u, w, q1, f, w1⟩
      · rcases z with (z | z) | z
        · exact n (.inl (.inl z))
        · rcases hZ b z with y | y
          · exact hH y
          · exact n (p.argAv ha y)
        · exact n (.inr (sub b z))
    · have hk : k < vs.length := by have := (List.getElem?_eq_some_iff.mp q2).1; omega
      have ev : vs[k]? = some vs[k] := List.getElem?_eq_getElem hk
      have s1 : σ[j]? = some (some vs[k]) := Paired.at p.rv ev q1
      obtain ⟨w, w1, w2⟩ := good.slot k u (get_map q2)
      rw [get_map ev] at w1; cases w1
      exact ⟨_, s1, w2.less av⟩
end
def eCall (F : FD) (fs : M (List Rv)) : M Rv := M.bind fs fun rs S => match argsT rs S with
  | some ts => match F ts with
    | .ret t us => if leOwn us ts = true then .ok (.tmp t) (backS rs us S) else .stuck
    | .exc x us => if leOwn us ts = true then .exc x (backS rs us S) else .stuck
    | .stuck => .stuck
  | none => .stuck
def eChk (c : Nat) (m : Str) (f : M Rv) : M Rv := M.bind f fun r S => match viewR r S with
  | some (.ins c' ns _) => if c' = c ∧ ns.contains m = false then .ok r S else .stuck
  | some (.insN c' ns) => if c' = c ∧ ns.contains m = false then .ok r S else .stuck
  | _ => .stuck
def eMeth (c : Nat) (m : Str) (F : FD) (f : M Rv) (fs : M (List Rv)) : M Rv := eCall F (eCons (eChk c m f) fs)
section
variable {κ : Kt} {W : WX} {B : Addr → Prop} {σ : Sg} {H H1 H2 : Hp} {S S1 S2 : En} {vs : List G} {rs : List Rv} {ts us : List T} {v : G} {t : T} {Q : VK} {ς : L2.St} {F : FD} {fs : M (List Rv)} {f : M Rv} {r : Rv} {c : Nat} {m : Str}
theorem call_red (h : tE κ W (eCall F fs) ς H Q) : tA κ W fs ς H fun vs H1 => spD κ F vs H1 Q (fun c d H' => W c d ς H') := by
  obtain ⟨B, S, τ, rfl, g, o⟩ := tE_iff.mp h
  refine (Chain.refl g).bindL o fun S1 H1 vs rs p o1 => ?_
  split at o1
  · rename_i ts ha
    refine ⟨_, ts, vs, rfl, p.enter ha, ?_⟩
    have c := (Chain.refl g).stepL p
    have kp : ∀ {H2 : Hp}, (∀ b o, H1 b = some o → ¬ OwnAt (ts.map some) (vs.map some) b → H2 b = some o) → ∀ b o, H b = some o → ¬ OwnAt S τ b → H2 b = some o := fun k b o e n => k b o (p.keep b o e n) fun z => by
      rcases p.argOwn ha z with z | z
      · exact n (p.sub b z.1)
      · rcases p.tnew b z with q | q
        · rw [e] at q; cases q
        · exact n q.1
    cases e : F ts with
    | stuck => rw [e] at o1; exact o1
    | ret t us =>
      rw [e] at o1
      dsimp only at o1
      split at o1
      · rename_i ho
        intro v H2 pf
        obtain ⟨g2, s2, av⟩ := p.back ha ho pf.keep pf.good (Z := TmpAt (.tmp t) v) pf.tnew
        refine o1 v H2 ⟨kp pf.keep, fun a z => p.sub a (s2 a z), fun a z => ?_, g2, pf.rv.less av⟩
        have no : ¬ OwnAt (backS rs us S1) τ a := fun q => g2.dis a (.inr z) q
        rcases pf.tnew a z with q | q
        · exact (c.newer q).imp id fun q => ⟨q.1, no⟩
        · rcases p.argOwn ha q with q | q
          · exact .inr ⟨p.sub a q.1, no⟩
          · exact (p.tnew a q).imp id fun q => ⟨q.1, no⟩
      · exact o1.elim
    | exc x us =>
      rw [e] at o1
      dsimp only at o1
      split at o1
      · rename_i ho
        intro d H2 pf
        obtain ⟨g2, s2, av⟩ := p.back ha ho pf.keep (Z := fun _ => False) (pf.good.weaken fun b z => z.elim id False.elim) (fun b z => z.elim)
        obtain ⟨gs, q1, q2, q3⟩ := pf.xd
        refine o1 d H2 ⟨kp pf.keep, fun a z => p.sub a (s2 a z), g2.weaken fun b z => .inl z, gs, q1, q2, q3.less fun b z => ?_⟩
        rcases av b (z.imp .inl id) with (z | z) | z
        · exact .inl z
        · exact z.elim
        · exact .inr z
      · exact o1.elim
  · exact o1.elim
theorem consA_red {R : List V → Hp → Prop} (h : tA κ W (eCons f fs) ς H R) : tE κ W f ς H fun v H1 => tA κ W fs ς H1 fun vs H2 => R (v :: vs) H2 := by
  obtain ⟨B, S, τ, rfl, g, o⟩ := h
  unfold eCons M.bind at o
  refine tE_iff.mpr ⟨B, S, τ, rfl, g, ?_⟩
  cases e1 : f S with
  | ok r S1 =>
    rw [e1] at o
    dsimp only at o
    intro v H1 p1
    refine ⟨Bx B r v, S1, τ, rfl, p1.good, ?_⟩
    cases e2 : fs S1 with
    | ok rs S2 =>
      rw [e2] at o
      exact fun vs H2 p2 => o (v :: vs) H2 (postL_cons g p1 p2)
    | exc x S2 => rw [e2] at o; exact fun d H2 p => o d H2 (((Chain.refl g).step p1).postX p)
    | stuck => rw [e2] at o; exact o
  | exc x S1 => rw [e1] at o; exact fun d H1 p => o d H1 p
  | stuck => rw [e1] at o; exact o
theorem chk_red (h : tE κ W (eChk c m f) ς H Q) : tE κ W f ς H fun x H1 => (∃ a dx gs, x = .ref a ∧ H1 a = some (.ins (κ.cA c) dx gs) ∧ gs.lookup m = none) ∧ Q x H1 := by
  obtain ⟨B, S, τ, rfl, g, o⟩ := tE_iff.mp h
  refine (Chain.refl g).bind o fun S1 H1 v r p o1 => ?_
  have nl : ∀ (gs : List (Str × V)) (ns : List Str), gs.map (·.1) = ns → ns.contains m = false → gs.lookup m = none := fun gs ns e hn => by
    cases q : gs.lookup m with
    | none => rfl
    | some w =>
      have := mem_of_lookup q
      rw [List.contains_eq_mem, decide_eq_false_iff_not, ← e] at hn
      exact absurd (List.mem_map.mpr ⟨_, this, rfl⟩) hn
  split at o1
  · rename_i c' ns ds e
    split at o1
    · rename_i hc
      obtain ⟨rfl, hn⟩ := hc
      obtain ⟨t, h1, h2⟩ := RvR.view p.good p.rv e
      refine ⟨?_, o1 v H1 p⟩
      have d := h1.dv
      rw [h2] at d
      revert d
      generalize v.1 = x
      intro d
      cases d with
      | ins r _ _ => exact ⟨_, _, _, rfl, r, nl _ _ rfl hn⟩
    · exact o1.elim
  · rename_i c' ns e
    split at o1
    · rename_i hc
      obtain ⟨rfl, hn⟩ := hc
      obtain ⟨t, h1, h2⟩ := RvR.view p.good p.rv e
      refine ⟨?_, o1 v H1 p⟩
      have d := h1.dv
      rw [h2] at d
      revert d
      generalize v.1 = x
      intro d
      cases d with
      | insN r _ => exact ⟨_, _, _, rfl, r, nl _ _ rfl hn⟩
    · exact o1.elim
  · exact o1.elim
theorem meth_red (h : tE κ W (eMeth c m F f fs) ς H Q) : tE κ W f ς H fun x H1 => ∃ a dx gs, x = .ref a ∧ H1 a = some (.ins (κ.cA c) dx gs) ∧ gs.lookup m = none ∧ tA κ W fs ς H1 fun vs H2 => spD κ F (x :: vs) H2 Q (fun c d H' => W c d ς H') := by
  have h1 := chk_red (consA_red (call_red h))
  obtain ⟨B, S, τ, rfl, g, o⟩ := h1
  refine ⟨B, S, τ, rfl, g, ?_⟩
  cases e : f S with
  | ok r S1 => rw [e] at o; exact fun v H1 p => let ⟨⟨a, dx, gs, q1, q2, q3⟩, q4⟩ := o v H1 p; ⟨a, dx, gs, q1, q2, q3, q4⟩
  | exc x S1 => rw [e] at o; exact o
  | stuck => rw [e] at o; exact o
end
end DL

set_option Elab.async false
set_option linter.all false
namespace DL
open PySem PySem.Spec PyProof.Rows L2
theorem nilA_red {κ : Kt} {W : WX} {R : List V → Hp → Prop} {σ : L2.St} {H : Hp} (h : tA κ W eNil σ H R) : R [] H := by
  obtain ⟨B, S, τ, rfl, gd, o⟩ := h
  exact o ([] : List G) H ⟨fun _ _ e _ => e, fun _ e => e, fun a ⟨i, r, v, e, _⟩ => by simp at e, fun a ⟨i, r, v, e, _⟩ => by simp at e, fun i j r1 r2 v1 v2 a e => by simp at e,
      gd.weaken fun b z => z.elim id fun ⟨i, r, v, e, _⟩ => by simp at e, .nil⟩
structure DefOk (P : Program) (w : World) (K : PySem.W.Frag) (mg : Str → Option Value) (base : Heap) (CX : CXT) (k : Nat) (κ : Kt) (x : Str) (F : FD) : Prop where
  ex : ∃ (f : Addr) (fd : FuncData) (ps : List Str), mg x = some (.ref f) ∧ PySem.W.keepIn K (.ref f) = true ∧ Binds K fd ps [] ∧ FnOk P w K mg base CX k f fd ps (spD κ F)
structure MethOk (P : Program) (w : World) (K : PySem.W.Frag) (mg : Str → Option Value) (base : Heap) (CX : CXT) (k : Nat) (κ : Kt) (c : Nat) (m : Str) (F : FD) : Prop where
  ex : ∃ (f : Addr) (fd : FuncData) (ps : List Str), Meth K (κ.cA c) m f ∧ Binds K fd ps [] ∧ FnOk P w K mg base CX k f fd ps (spD κ F)
structure MakeOk (P : Program) (w : World) (K : PySem.W.Frag) (mg : Str → Option Value) (base : Heap) (CX : CXT) (k : Nat) (κ : Kt) (c : Nat) (x : Str) (F : FD) : Prop where
  ex : ∃ (f : Addr) (fd : FuncData) (ps : List Str), mg x = some (.ref (κ.cA c)) ∧ Mk K (κ.cA c) f ∧ Binds K fd ps [] ∧ FnOk P w K mg base CX k f fd ps (spD κ F)
section
variable {X : Cx} {κ : Kt} {W : WX} {CX : CXT} {k : Nat} {x m : Str} {F : FD} {e o : Expr} {es : List Expr} {fs : M (List Rv)} {f : M Rv} {pos p apos : Pos} {c : Nat}
theorem de_call (D : DefOk X.prog X.w X.K X.mg X.base CX k κ x F) (hr : Room k X.A) (hx : ∀ σ, PassesAt CX X σ (WE W σ)) (hg : Gl X x) (ha : PA X (e :: es) (tA κ W fs)) (hdb : (x == ("__debug__" : Str)) = false := by decide)
    (he : starEach (e :: es) X.env = (false, eval e X.env) :: starEach es X.env := by rfl) (hpl : (backTo pos (starEach es X.env)).any (·.1) = false := by rfl) : PE X (.Call (.Name x p) (e :: es) [] pos) (tE κ W (eCall F fs)) := by
  obtain ⟨g, fd, ps, hm, hk, hb, hF⟩ := D.ex
  exact (pe_callS hF hr hg hm hk hb hx ha hdb he hpl).weak fun σ H Q h => call_red h
theorem de_call0 (D : DefOk X.prog X.w X.K X.mg X.base CX k κ x F) (hr : Room k X.A) (hx : ∀ σ, PassesAt CX X σ (WE W σ)) (hg : Gl X x) (hdb : (x == ("__debug__" : Str)) = false := by decide) : PE X (.Call (.Name x p) [] [] pos) (tE κ W (eCall F eNil)) := by
  obtain ⟨g, fd, ps, hm, hk, hb, hF⟩ := D.ex
  refine ⟨fun pins s σ H Q I h => ?_⟩
  have q : spD κ F [] H Q (WE W σ) := by
    obtain ⟨B, S, τ, rfl, gd, o⟩ := call_red h
    exact o [] H ⟨fun _ _ e _ => e, fun _ e => e, fun a ⟨i, r, v, e, _⟩ => by simp at e, fun a ⟨i, r, v, e, _⟩ => by simp at e, fun i j r1 r2 v1 v2 a e => by simp at e,
      gd.weaken fun b z => z.elim id fun ⟨i, r, v, e, _⟩ => by simp at e, .nil⟩
  refine wpAny_Call_Name_kw (ld_glob I hg hm ?_ hdb)
  exact PySem.W.callWith_K0 I.kIn hk (run_fnS (us := []) hF hr hb (hx σ) I .nil q)
theorem pe_methE {C g : Addr} {fd : FuncData} {ps : List Str} {sp : Sp} {E : L2.St → XK} {ta : TE} {t : TA} {pl : Sem Bool} (he : PE X o ta) (cl : Cls X.K C) (hm : Meth X.K C m g) (hF : FnOk X.prog X.w X.K X.mg X.base CX k g fd ps sp) (hr : Room k X.A) (hb : Binds X.K fd ps []) (hx : ∀ σ, PassesAt CX X σ (E σ)) (ha : PA X (e :: es) t)
    (hst : starEach (e :: es) X.env = (false, eval e X.env) :: starEach es X.env := by rfl) (hpl : (backTo pos (starEach es X.env)).any (·.1) = false := by rfl)
    (ht : eval (.Call (.Attribute o m apos) (e :: es) [] pos) X.env = (do
      let ov ← eval o X.env
      standAt apos.atName
      let (f, first) ← holding [ov] (getMethod ov m pl)
      callWith pos f first (backTo pos (starEach (e :: es) X.env)) (backToKw pos (keywordEach [] X.env))) := by rfl) :
    PE X (.Call (.Attribute o m apos) (e :: es) [] pos) (fun σ H Q => ta σ H fun x H1 => ∃ a dx fs, x = .ref a ∧ H1 a = some (.ins C dx fs) ∧ fs.lookup m = none ∧ t σ H1 fun vs H2 => sp (x :: vs) H2 Q (E σ)) := by
  refine ⟨fun pins s σ H Q I h => ?_⟩
  refine PySem.W.methodCall_KW (pl := pl) (thn (he.run pins s σ H _ I h) fun u s1 ⟨x, H1, I1, rx, a, dx, fs, ex, ea, l, q⟩ => ?_) ht
  subst ex
  obtain rfl : u = Value.ref a := rx
  refine getmeth_ok I1 ea cl hm l ?_
  refine PySem.W.callWith_K (first := [.ref a]) (h₀ := X.base) I.ok.mod.kin hm.kp (thn (ha.run pos pins s1 σ H1 _ I1 q) fun us s2 ⟨vs, H2, I2, r, q2⟩ => ⟨I2.kIn, ?_⟩) hst hpl
  exact run_fnS (us := .ref a :: us) (vs := .ref a :: vs) hF hr hb (hx σ) I2 (.cons rfl r) q2
theorem pe_methE0 {C g : Addr} {fd : FuncData} {ps : List Str} {sp : Sp} {E : L2.St → XK} {ta : TE} {pl : Sem Bool} (he : PE X o ta) (cl : Cls X.K C) (hm : Meth X.K C m g) (hF : FnOk X.prog X.w X.K X.mg X.base CX k g fd ps sp) (hr : Room k X.A) (hb : Binds X.K fd ps []) (hx : ∀ σ, PassesAt CX X σ (E σ))
    (ht : eval (.Call (.Attribute o m apos) [] [] pos) X.env = (do
      let ov ← eval o X.env
      standAt apos.atName
      let (f, first) ← holding [ov] (getMethod ov m pl)
      callWith pos f first (backTo pos (starEach [] X.env)) (backToKw pos (keywordEach [] X.env))) := by rfl) :
    PE X (.Call (.Attribute o m apos) [] [] pos) (fun σ H Q => ta σ H fun x H1 => ∃ a dx fs, x = .ref a ∧ H1 a = some (.ins C dx fs) ∧ fs.lookup m = none ∧ sp [x] H1 Q (E σ)) := by
  refine ⟨fun pins s σ H Q I h => ?_⟩
  refine PySem.W.methodCall_KW (pl := pl) (thn (he.run pins s σ H _ I h) fun u s1 ⟨x, H1, I1, rx, a, dx, fs, ex, ea, l, q⟩ => ?_) ht
  subst ex
  obtain rfl : u = Value.ref a := rx
  refine getmeth_ok I1 ea cl hm l ?_
  exact PySem.W.callWith_K0 (first := [.ref a]) I1.kIn hm.kp (run_fnS (us := [.ref a]) (vs := [.ref a]) hF hr hb (hx σ) I1 (.cons rfl .nil) q)
theorem de_meth {pl : Sem Bool} (D : MethOk X.prog X.w X.K X.mg X.base CX k κ c m F) (cl : Cls X.K (κ.cA c)) (hr : Room k X.A) (hx : ∀ σ, PassesAt CX X σ (WE W σ)) (he : PE X o (tE κ W f)) (ha : PA X (e :: es) (tA κ W fs))
    (hst : starEach (e :: es) X.env = (false, eval e X.env) :: starEach es X.env := by rfl) (hpl : (backTo pos (starEach es X.env)).any (·.1) = false := by rfl)
    (ht : eval (.Call (.Attribute o m apos) (e :: es) [] pos) X.env = (do
      let ov ← eval o X.env
      standAt apos.atName
      let (f, first) ← holding [ov] (getMethod ov m pl)
      callWith pos f first (backTo pos (starEach (e :: es) X.env)) (backToKw pos (keywordEach [] X.env))) := by rfl) :
    PE X (.Call (.Attribute o m apos) (e :: es) [] pos) (tE κ W (eMeth c m F f fs)) := by
  obtain ⟨g, fd, ps, hm, hb, hF⟩ := D.ex
  exact (pe_methE (pl := pl) he cl hm hF hr hb hx ha hst hpl ht).weak fun σ H Q h => meth_red h
theorem de_meth0 {pl : Sem Bool} (D : MethOk X.prog X.w X.K X.mg X.base CX k κ c m F) (cl : Cls X.K (κ.cA c)) (hr : Room k X.A) (hx : ∀ σ, PassesAt CX X σ (WE W σ)) (he : PE X o (tE κ W f))
    (ht : eval (.Call (.Attribute o m apos) [] [] pos) X.env = (do
      let ov ← eval o X.env
      standAt apos.atName
      let (f, first) ← holding [ov] (getMethod ov m pl)
      callWith pos f first (backTo pos (starEach [] X.env)) (backToKw pos (keywordEach [] X.env))) := by rfl) :
    PE X (.Call (.Attribute o m apos) [] [] pos) (tE κ W (eMeth c m F f eNil)) := by
  obtain ⟨g, fd, ps, hm, hb, hF⟩ := D.ex
  refine (pe_methE0 (pl := pl) he cl hm hF hr hb hx ht).weak fun σ H Q h => ?_
  obtain ⟨B, S, τ, rfl, gd, o⟩ := meth_red h
  refine ⟨B, S, τ, rfl, gd, ?_⟩
  cases e : f S with
  | ok r S1 =>
    rw [e] at o
    refine fun v H1 p => ?_
    obtain ⟨a, dx, gs, q1, q2, q3, qa⟩ := o v H1 p
    exact ⟨a, dx, gs, q1, q2, q3, nilA_red qa⟩
  | exc x S1 => rw [e] at o; exact o
  | stuck => rw [e] at o; exact o
theorem run_makeE {C g : Addr} {fd : FuncData} {ps : List Str} {sp : Sp} {E : XK} {pins : List (Addr × Obj)} {σ : L2.St} {H : Hp} {s : Shared} {Q : VK} {us : List Value} {vs : List V} (Mk' : Mk X.K C g) (hF : FnOk X.prog X.w X.K X.mg X.base CX k g fd ps sp) (hr : Room (k + 1) X.A) (hb : Binds X.K fd ps [])
    (hx : PassesAt CX X σ E) (I : Inv X pins σ H s) (r : Vals vs us)
    (h : ∀ x dx, H x = none → H dx = none → dx ≠ x → sp (.ref x :: vs) (upd (upd H dx (.own x)) x (.ins C dx [])) (fun v H2 => v = .non ∧ Q (.ref x) H2) E) :
    wpAny (model X.prog X.w) X.A (call (.ref C) us) (EP X pins σ Q) X.xe s := by
  have hq := h (s.heap.objs.size + 1) s.heap.objs.size (I.hok.fresh (Nat.le_succ _)) (I.hok.fresh (Nat.le_refl _)) (Nat.ne_of_lt (Nat.lt_succ_self _))
  have I2 := Inv.made (C := C) I
  have r2 : Vals (V.ref (s.heap.objs.size + 1) :: vs) (Value.ref (s.heap.objs.size + 1) :: us) := .cons rfl r
  have hl : (Value.ref (s.heap.objs.size + 1) :: us).length = ps.length := by
    have e := r2.length
    rw [hF.len _ _ _ _ hq] at e
    exact e.symm
  have b := hb _ (Value.ref (s.heap.objs.size + 1) :: us) I2.kIn (by rw [List.append_nil]; exact hl)
  rw [List.append_nil] at b
  refine wpAny_call (make_map (f := g) I.kIn Mk'.makes Mk'.init (beq_iff_eq.mp Mk'.fn) (codeAny_mono (hF.run _ X.stack _ _ ⟨Value.ref (s.heap.objs.size + 1) :: us, []⟩ (Value.ref (s.heap.objs.size + 1) :: us) _ _ E (hr.make C us [])
    (I2.env0.make C us []) b r2 hq) fun r s' hq' => ?_))
  cases r with
  | error e => exact hx pins _ _ e s' I2 hq'
  | ok fl =>
    cases fl with
    | ret u =>
      obtain ⟨v, H', I3, rv, ev, q3⟩ := I2.after hq'
      subst ev
      exact ⟨rv, ⟨V.ref (s.heap.objs.size + 1), H', I3, rfl, q3⟩⟩
    | next => exact False.elim hq'
    | brk => exact False.elim hq'
    | cont => exact False.elim hq'
theorem at0 (W : WX) : ∀ σ, PassesAt CX0 X σ (WE W σ) := fun _ _ _ _ _ _ _ h => h.elim
end
section
variable {P : Program} {w : World} {K : PySem.W.Frag} {mg : Str → Option Value} {base : Heap} {x qual : Str} {params : Arguments} {body : List Stmt} {scope : Scope} {dvs : List V} {kws : List (Str × V)} {f : Addr} {fd : FuncData} {CX : CXT} {N ps : List Str} {k : Nat} {κ : Kt} {fx : Nat → Bool} {b : MS}
theorem fnD_ok (F : FunD K x qual params body scope dvs kws f fd) (S : FnScope N ps scope)
    (hbody : ∀ (cdv : Value) (A : Around) (outer : List Env) (s : Shared) (H : Hp) (E : XK), Room k (A.deeper (envOfC qual scope s.heap.objs.size f cdv)) →
      PSs (cxOf CX P w K mg base N qual scope f cdv A outer s H E) body (tS κ (fun c d _ H => E c d H) fx b)) :
    FnOk P w K mg base CX (k + 1) f fd ps (spD κ (runD N.length ps.length fx b)) :=
  F.ok S (fun vs H Q E h => spD_len h fun ts z => runD_len z) fun cdv A outer s H vs Q E hr h => ⟨_, hbody cdv A outer s H E hr, runD_ok h⟩
end
end DL

set_option Elab.async false
set_option linter.all false
namespace DL
open PySem L2
def T.toU : T → Option U
  | .fr d => some (.fr d)
  | .lst ds => some (.lst ds)
  | .dct ks vs => some (.dct ks vs)
  | _ => none
def T.setP (k : Nat) (u : U) : T → T
  | .insN c ns us => .insN c ns (us.set k u)
  | .dctN ks us => .dctN ks (us.set k u)
  | t => t
def okMut (t t' : T) : Bool := t.own && t'.own && !t.nst && !t'.nst
def mutR (g : T → List D → Option (T × D)) (r : Rv) (ds : List D) (S : En) : Res Rv := match r with
  | .tmp t => match g t ds with
    | some (t', d) => if okMut t t' = true then .ok (.tmp (.fr d)) S else .stuck
    | none => .stuck
  | .slot i => match S[i]? with
    | some (some t) => match g t ds with
      | some (t', d) => if okMut t t' = true then .ok (.tmp (.fr d)) (S.set i (some t')) else .stuck
      | none => .stuck
    | _ => .stuck
  | .sub i k => match S[i]? with
    | some (some t) => match t.parts[k]? with
      | some u => match g u.toT ds with
        | some (t', d) => match t'.toU with
          | some u' => if u.own = true ∧ u'.own = true then .ok (.tmp (.fr d)) (S.set i (some (t.setP k u'))) else .stuck
          | none => .stuck
        | none => .stuck
      | none => .stuck
    | _ => .stuck
def eCk (ck : D → Bool) (f : M Rv) : M Rv := M.bind f fun r S => match viewR r S with
  | some d => if ck d = true then .ok r S else .stuck
  | none => .stuck
def eMut (ck : D → Bool) (g : T → List D → Option (T × D)) (f : M Rv) (fs : M (List Rv)) : M Rv := M.bind (eCk ck f) fun r => M.bind fs fun rs S => match frzRs rs S with
  | some (ds, S1) => mutR g r ds S1
  | none => .stuck
def VMut (κ : Kt) (r : V → List V → Hp → VK → Prop) (g : T → List D → Option (T × D)) : Prop := ∀ (H : Hp) (Q : VK) (Av : Addr → Prop) (a : Addr) (t t' : T) (vs : List V) (ds : List D) (d : D), t.own = true → t'.own = true → TR κ H Av (.ref a) t → DVs κ H Av vs ds → Av a → g t ds = some (t', d) →
  (∀ v o, TR κ (upd H a o) Av (.ref a) t' → DV κ (upd H a o) Av v d → Q v (upd H a o)) → r (.ref a) vs H Q
theorem okMut_iff {t t' : T} (h : okMut t t' = true) : t.own = true ∧ t'.own = true ∧ t.nst = false ∧ t'.nst = false := by
  unfold okMut at h
  simp only [Bool.and_eq_true, Bool.not_eq_true'] at h
  exact ⟨h.1.1.1, h.1.1.2, h.1.2, h.2⟩
section
variable {κ : Kt} {W : WX} {B B' : Addr → Prop} {σ : Sg} {ς : L2.St} {H H1 H2 : Hp} {S S1 S2 : En} {vs : List V} {gs : List G} {rs : List Rv} {v x : V} {g0 : G} {t t' : T} {Q : VK} {fs : M (List Rv)} {f : M Rv} {r : Rv} {a : Addr} {o : HO} {i : Nat} {d : D} {ds : List D}
theorem DV.upd (h : DV κ H B v d) (ha : B a) : DV κ (L2.upd H a o) B v d := h.mono (fun b u e n => by rw [upd_ne (show b ≠ a from fun z => n (z ▸ ha))]; exact e) fun _ _ n => n
theorem DVs.upd (h : DVs κ H B vs ds) (ha : B a) : DVs κ (L2.upd H a o) B vs ds := h.mono (fun b u e n => by rw [upd_ne (show b ≠ a from fun z => n (z ▸ ha))]; exact e) fun _ _ n => n
theorem TRG.upd (h : TRG κ H B g0 t) (ha : B a) (hn : ¬ Fp t g0 a) : TRG κ (L2.upd H a o) B g0 t :=
  TRG.mono h (fun b u f q => by rw [upd_ne (show b ≠ a from fun z => hn (z ▸ f))]; exact q) (fun b u e n => by rw [upd_ne (show b ≠ a from fun z => n (z ▸ ha))]; exact e) fun _ _ n => n
theorem Good.updB (g : Good κ B H σ S) (ha : B a) (hn : ∀ xs, o ≠ .tup xs) : Good κ B (upd H a o) σ S := by
  refine ⟨g.len, fun b z => ?_, g.dis, g.inj, fun j u e => ?_⟩
  · by_cases h : b = a
    · subst h; exact .of upd_same hn
    · exact (g.trk b z).keep fun u e => by rw [upd_ne h]; exact e
  · obtain ⟨w, w1, w2⟩ := g.slot j u e
    exact ⟨w, w1, w2.upd (.inl ha) fun f => g.dis a ha ⟨j, u, w, e, f, w1⟩⟩
theorem own_mut (e : S[i]? = some (some t)) (ev : σ[i]? = some (some g0)) (hle : ∀ b, Fp t' g0 b → Fp t g0 b) {b : Addr} (h : OwnAt (S.set i (some t')) σ b) : OwnAt S σ b := by
  obtain ⟨j, u, g, e1, e2, e3⟩ := h
  have hi : i < S.length := (List.getElem?_eq_some_iff.mp e).1
  by_cases hj : i = j
  · subst hj
    rw [List.getElem?_set_self hi] at e1; cases e1
    rw [ev] at e3; cases e3
    exact ⟨i, t, _, e, hle b e2, ev⟩
  · rw [List.getElem?_set_ne hj] at e1; exact ⟨j, u, g, e1, e2, e3⟩
theorem Good.mutS (g : Good κ B H σ S) (e : S[i]? = some (some t)) (ev : σ[i]? = some (some g0)) (hf : Fp t g0 a) (hle : ∀ b, Fp t' g0 b → Fp t g0 b) (hn : ∀ xs, o ≠ .tup xs) (h : TRG κ (upd H a o) (AvS B S σ) g0 t') : Good κ B (upd H a o) σ (S.set i (some t')) := by
  have hi : i < S.length := (List.getElem?_eq_some_iff.mp e).1
  have hO : OwnAt S σ a := ⟨i, t, g0, e, hf, ev⟩
  have own : ∀ b, OwnAt (S.set i (some t')) σ b → OwnAt S σ b := fun b z => own_mut e ev hle z
  have get : ∀ (j : Nat) (u : T) (gj : G) (b : Addr), (S.set i (some t'))[j]? = some (some u) → σ[j]? = some (some gj) → Fp u gj b → ∃ w, S[j]? = some (some w) ∧ Fp w gj b := fun j u gj b e1 e3 e2 => by
    by_cases hj : i = j
    · subst hj
      rw [List.getElem?_set_self hi] at e1; cases e1
      rw [ev] at e3; cases e3
      exact ⟨t, e, hle b e2⟩
    · rw [List.getElem?_set_ne hj] at e1; exact ⟨u, e1, e2⟩
  refine ⟨by rw [List.length_set]; exact g.len, fun b z => ?_, fun b z q => g.dis b z (own b q), fun j k b t1 t2 ga gb q1 q2 q3 q4 q5 q6 => ?_, fun j u q => ?_⟩
  · by_cases h : b = a
    · subst h; exact .of upd_same hn
    · exact (g.trk b z).keep fun u e => by rw [upd_ne h]; exact e
  · obtain ⟨w1, f1, f2⟩ := get j t1 ga b q1 q5 q2
    obtain ⟨w2, f3, f4⟩ := get k t2 gb b q3 q6 q4
    exact g.inj j k b w1 w2 ga gb f1 f2 f3 f4 q5 q6
  · by_cases hj : i = j
    · subst hj
      rw [List.getElem?_set_self hi] at q; cases q
      exact ⟨_, ev, h.less fun b z => z.imp id (own b)⟩
    · rw [List.getElem?_set_ne hj] at q
      obtain ⟨w, w1, w2⟩ := g.slot j u q
      refine ⟨w, w1, TRG.less (w2.upd (.inr hO) fun hu => ?_) fun b z => z.imp id (own b)⟩
      exact hj (g.inj i j a t u g0 w e hf q hu ev w1)
theorem PRs.set {Av : Addr → Prop} {u' : U} : ∀ {ws : List V} {us : List U} {k : Nat}, Paired (PR κ H Av) ws us → Av a → (∀ (i : Nat) (u : U), us[i]? = some u → u.own = true → i ≠ k → ws[i]? ≠ some (.ref a)) → ws[k]? = some (.ref a) → PR κ (upd H a o) Av (.ref a) u' →
    Paired (PR κ (upd H a o) Av) ws (us.set k u')
  | _, _, _, .nil, _, _, e, _ => by simp at e
  | w :: ws, u :: us, 0, .cons h t, ha, hn, e, h' => by
    have ew : w = .ref a := by simpa using e
    subst ew
    refine .cons h' (PRs.mono t (fun i u b x e1 e2 e3 e4 => ?_) (fun b x e n => by rw [upd_ne (show b ≠ a from fun z => n (z ▸ ha))]; exact e) fun _ _ n => n)
    rw [upd_ne (show b ≠ a from fun z => hn (i + 1) u (by simpa using e1) e2 (by omega) (by subst z; simpa using e3))]
    exact e4
  | w :: ws, u :: us, k + 1, .cons h t, ha, hn, e, h' => by
    refine .cons (PR.mono h (fun ho b x e1 e2 => ?_) (fun b x e n => by rw [upd_ne (show b ≠ a from fun z => n (z ▸ ha))]; exact e) fun _ _ n => n) (PRs.set t ha (fun i u e1 e2 e3 => ?_) (by simpa using e) h')
    · rw [upd_ne (show b ≠ a from fun z => hn 0 u rfl ho (by omega) (by subst z; rw [e1]; rfl))]
      exact e2
    · have := hn (i + 1) u (by simpa using e1) e2 (by omega)
      simpa using this
theorem Dst.set {us : List U} {ws : List V} {k : Nat} {u u' : U} {b : Addr} (h : Dst b ws us) (e : us[k]? = some u) (ho : u.own = true) : Dst b ws (us.set k u') := by
  have get : ∀ (j : Nat) (w : U), (us.set k u')[j]? = some w → w.own = true → ∃ w', us[j]? = some w' ∧ w'.own = true := fun j w e1 e2 => by
    by_cases hj : k = j
    · subst hj; exact ⟨u, e, ho⟩
    · rw [List.getElem?_set_ne hj] at e1; exact ⟨w, e1, e2⟩
  refine ⟨fun j w e1 e2 => ?_, fun j l w1 w2 p e1 e2 e3 e4 => ?_⟩
  · obtain ⟨w', q1, q2⟩ := get j w e1 e2
    exact h.root j w' q1 q2
  · obtain ⟨w', q1, q2⟩ := get j w1 e1 e2
    obtain ⟨w'', q3, q4⟩ := get l w2 e3 e4
    exact h.inj j l w' w'' p q1 q2 q3 q4
theorem TRG.setP {Av : Addr → Prop} {k : Nat} {u u' : U} (h : TRG κ H Av g0 t) (e : t.parts[k]? = some u) (ho : u.own = true) (ew : g0.2[k]? = some (.ref a)) (ha : Av a) (h' : PR κ (L2.upd H a o) Av (.ref a) u') : TRG κ (L2.upd H a o) Av g0 (t.setP k u') := by
  obtain ⟨h, z⟩ := h
  cases t with
  | insN c ns us =>
    obtain ⟨b, dx, fs, q0, q1, q2, r, d⟩ := h
    have eg := z b _ dx fs q0 q1
    rw [eg] at ew
    have hb : b ≠ a := fun y => d.root k u e ho (by rw [y]; exact ew)
    have q1' : L2.upd H a o b = some (.ins (κ.cA c) dx fs) := by rw [upd_ne hb]; exact q1
    refine ⟨⟨b, dx, fs, q0, q1', q2, PRs.set r ha (fun i w e1 e2 e3 e4 => e3 (d.inj i k w u a e1 e2 e ho e4 ew)) ew h', d.set e ho⟩, fun b2 C dx2 fs2 y1 y2 => ?_⟩
    rw [q0] at y1; cases y1
    rw [q1'] at y2; cases y2
    exact eg
  | dctN ks us =>
    obtain ⟨b, kvs, q0, q1, q2, r, d⟩ := h
    have eg := z b kvs q0 q1
    rw [eg] at ew
    have hb : b ≠ a := fun y => d.root k u e ho (by rw [y]; exact ew)
    have q1' : L2.upd H a o b = some (.dK kvs) := by rw [upd_ne hb]; exact q1
    refine ⟨⟨b, kvs, q0, q1', q2, PRs.set r ha (fun i w e1 e2 e3 e4 => e3 (d.inj i k w u a e1 e2 e ho e4 ew)) ew h', d.set e ho⟩, fun b2 kvs2 y1 y2 => ?_⟩
    rw [q0] at y1; cases y1
    rw [q1'] at y2; cases y2
    exact eg
  | _ => simp [T.parts] at e
theorem setP_fp {k : Nat} {u u' : U} {b : Addr} (e : t.parts[k]? = some u) (ho : u.own = true) (f : Fp (t.setP k u') g0 b) : Fp t g0 b := by
  have get : ∀ {us : List U} {j : Nat} {w : U}, us[k]? = some u → (us.set k u')[j]? = some w → w.own = true → ∃ w', us[j]? = some w' ∧ w'.own = true := fun {us j w} e0 e1 e2 => by
    by_cases hj : k = j
    · subst hj; exact ⟨u, e0, ho⟩
    · rw [List.getElem?_set_ne hj] at e1; exact ⟨w, e1, e2⟩
  cases t with
  | insN c ns us =>
    refine ⟨rfl, f.2.imp id fun ⟨j, w, e1, e2, e3⟩ => ?_⟩
    obtain ⟨w', q1, q2⟩ := get e e1 e2
    exact ⟨j, w', q1, q2, e3⟩
  | dctN ks us =>
    refine ⟨rfl, f.2.imp id fun ⟨j, w, e1, e2, e3⟩ => ?_⟩
    obtain ⟨w', q1, q2⟩ := get e e1 e2
    exact ⟨j, w', q1, q2, e3⟩
  | _ => simp [T.parts] at e
theorem TR.nt {Av : Addr → Prop} (h : TR κ (L2.upd H a o) Av (.ref a) t) (ho : t.own = true) : ∀ xs, o ≠ .tup xs := by
  obtain ⟨b, u, e, q, n⟩ := h.ref ho
  cases e
  rw [upd_same] at q
  cases q
  exact n
theorem ck_red {ck : D → Bool} {Tx : V → Hp → Prop} (hck : ∀ H Av x t, TR κ H Av x t → ck t.view = true → Tx x H) (h : tE κ W (eCk ck f) ς H Q) : tE κ W f ς H fun x H1 => Tx x H1 ∧ Q x H1 := by
  obtain ⟨B, S, τ, rfl, g, o⟩ := tE_iff.mp h
  refine (Chain.refl g).bind o fun S1 H1 v r p o1 => ?_
  split at o1
  · rename_i d e
    split at o1
    · rename_i hc
      obtain ⟨t, h1, h2⟩ := RvR.view p.good p.rv e
      exact ⟨hck H1 _ v.1 t h1 (by rw [h2]; exact hc), o1 v H1 p⟩
    · exact o1.elim
  · exact o1.elim
theorem PR.ofT {Av : Addr → Prop} {u : U} (h : TR κ H Av v t) (e : t.toU = some u) : PR κ H Av v u := by
  cases t <;> cases e <;> exact h
theorem toU_own {u : U} (e : t.toU = some u) : t.own = u.own := by
  cases t <;> cases e <;> rfl
theorem mut_core {g : T → List D → Option (T × D)} {r' : V → List V → Hp → VK → Prop} {xg : G} {q : Rv} {S3 S4 : En} (hv : VMut κ r' g) (g3 : Good κ (Bx B r xg) H2 σ S3) (rl : RvR κ H2 (AvS (Bx B r xg) S3 σ) σ xg r) (dv : DVs κ H2 (AvS (Bx B r xg) S3 σ) vs ds) (h : mutR g r ds S3 = .ok q S4)
    (k : ∀ v a o d, q = .tmp (.fr d) → (TmpAt r xg a ∨ OwnAt S3 σ a) → Good κ B (upd H2 a o) σ S4 → (∀ b, OwnAt S4 σ b → OwnAt S3 σ b) → DV κ (upd H2 a o) (AvS B S4 σ) v d → Q v (upd H2 a o)) : r' xg.1 vs H2 Q := by
  cases r with
  | tmp t =>
    unfold mutR at h
    dsimp only at h
    split at h
    · rename_i t' d eg
      split at h
      · rename_i ho
        cases h
        obtain ⟨o1, o2, n1, n2⟩ := okMut_iff ho
        obtain ⟨a, u, ex, hu, _⟩ := TR.ref rl.tr o1
        have ta : TmpAt (.tmp t) xg a := ⟨t, rfl, o1, .inl ex⟩
        rw [ex]
        exact hv H2 Q _ a t t' vs ds d o1 o2 (ex ▸ rl.tr) dv (.inl (.inr ta)) eg fun v o tr dd => k v a o d rfl (.inl ta) ((g3.updB (.inr ta) (tr.nt o2)).weaken fun b z => .inl z) (fun b z => z) (dd.less fun b z => z.imp .inl id)
      · cases h
    · cases h
  | slot i =>
    unfold mutR at h
    dsimp only at h
    split at h
    · rename_i t et
      split at h
      · rename_i t' d eg
        split at h
        · rename_i ho
          cases h
          obtain ⟨o1, o2, n1, n2⟩ := okMut_iff ho
          obtain ⟨w, w1, w2⟩ := g3.slot i t et
          have hx : σ[i]? = some (some xg) := rl
          rw [hx] at w1; cases w1
          obtain ⟨a, u, ex, hu, _⟩ := TR.ref w2.tr o1
          have hf : Fp t xg a := ⟨o1, .inl ex⟩
          have hO : OwnAt S3 σ a := ⟨i, t, xg, et, hf, hx⟩
          have hle : ∀ b, Fp t' xg b → Fp t xg b := fun b f => ⟨o1, .inl (f.plain n2)⟩
          rw [ex]
          refine hv H2 Q _ a t t' vs ds d o1 o2 (ex ▸ w2.tr) dv (.inr hO) eg fun v o tr dd => k v a o d rfl (.inr hO) ((g3.mutS et hx hf hle (tr.nt o2) ⟨ex ▸ tr, ?_⟩).weaken fun b z => .inl z) (fun b z => own_mut et hx hle z) (dd.less fun b z => z.imp .inl fun y => own_mut et hx hle y)
          cases t' <;> first | exact True.intro | cases n2
        · cases h
      · cases h
    · cases h
  | sub i j =>
    unfold mutR at h
    dsimp only at h
    split at h
    · rename_i t et
      split at h
      · rename_i u eu
        split at h
        · rename_i t' d eg
          split at h
          · rename_i u' eu'
            split at h
            · rename_i ho
              cases h
              obtain ⟨w, w1, w2⟩ := g3.slot i t et
              obtain ⟨g', x1, x2⟩ := rl
              rw [x1] at w1; cases w1
              obtain ⟨y, y1, y2⟩ := w2.part eu
              rw [x2] at y1; cases y1
              obtain ⟨a, z, ex, hu, _⟩ := PR.ref y2 ho.1
              have ot : t.own = true := by cases t <;> first | rfl | simp [T.parts] at eu
              have ew : w.2[j]? = some (.ref a) := by rw [x2, ex]
              have hf : Fp t w a := ⟨ot, .inr ⟨j, u, eu, ho.1, ew⟩⟩
              have hO : OwnAt S3 σ a := ⟨i, t, w, et, hf, x1⟩
              have hle : ∀ b, Fp (t.setP j u') w b → Fp t w b := fun b f => setP_fp eu ho.1 f
              rw [ex]
              exact hv H2 Q _ a u.toT t' vs ds d (by rw [U.toT_own]; exact ho.1) (by rw [toU_own eu']; exact ho.2) (ex ▸ y2.toT) dv (.inr hO) eg fun v o tr dd =>
                k v a o d rfl (.inr hO) ((g3.mutS et x1 hf hle (tr.nt (by rw [toU_own eu']; exact ho.2)) (w2.setP eu ho.1 ew (.inr hO) (PR.ofT tr eu'))).weaken fun b z => .inl z) (fun b z => own_mut et x1 hle z) (dd.less fun b z => z.imp .inl fun y => own_mut et x1 hle y)
            · cases h
          · cases h
        · cases h
      · cases h
    · cases h
theorem mutR_ok {g : T → List D → Option (T × D)} {y : Ex} {S3 S4 : En} (h : mutR g r ds S3 = .exc y S4) : False := by
  unfold mutR at h
  repeat (first | (split at h) | cases h)
theorem mut0_red {g : T → List D → Option (T × D)} {r' : V → List V → Hp → VK → Prop} (hv : VMut κ r' g) (h : tE κ W (M.bind f fun r => M.bind fs fun rs S => match frzRs rs S with | some (ds, S1) => mutR g r ds S1 | none => .stuck) ς H Q) :
    tE κ W f ς H fun x H1 => tA κ W fs ς H1 fun vs H2 => r' x vs H2 Q := by
  obtain ⟨B, S, τ, rfl, g0, o⟩ := tE_iff.mp h
  refine (Chain.refl g0).bind o fun S1 H1 x r p o1 => ?_
  have c1 := (Chain.refl g0).step p
  refine c1.bindL o1 fun S2 H2 vs rs p2 o2 => ?_
  split at o2
  · rename_i ds S3 e
    obtain ⟨c3, dv⟩ := Chain.frozen p.good p2 e
    have g3 := c3.good
    have kp : ∀ b u, H b = some u → ¬ OwnAt S τ b → H2 b = some u := fun b u e n => c3.keep b u (p.keep b u e n) fun z => n (p.sub b z)
    have subs : ∀ b, OwnAt S3 τ b → OwnAt S τ b := fun b z => p.sub b (c3.sub b z)
    have rl : RvR κ H2 (AvS (Bx B r x) S3 τ) τ x r := RvR.later' p.rv (fun a z => .inr z) p.good c3.keep c3.sub fun b z => .inl z
    cases em : mutR g r ds S3 with
    | exc y S4 => exact (mutR_ok em).elim
    | stuck => rw [em] at o2; exact o2.elim
    | ok q S4 =>
      rw [em] at o2
      refine mut_core hv g3 rl dv em fun v a u d eq ho g4 own dd => ?_
      subst eq
      have hn : ¬ (H a ≠ none ∧ ¬ OwnAt S τ a) := fun ⟨z1, z2⟩ => by
        rcases ho with ho | ho
        · rcases p.tnew a ho with q | q
          · exact z1 q
          · exact z2 q.1
        · exact z2 (subs a ho)
      refine o2 (v, []) _ ⟨fun b w e n => ?_, fun b z => subs b (own b z), fun b z => frTmp z, g4.weaken fun b z => z.elim id fun z => frTmp z, ⟨dd.less fun b z => ?_, True.intro⟩⟩
      · rw [upd_ne (show b ≠ a from fun z => by subst z; exact hn ⟨by rw [e]; simp, n⟩)]
        exact kp b w e n
      · exact z.imp (fun z => z.elim id fun z => frTmp z) id
  · exact o2.elim
theorem mut_red {ck : D → Bool} {Tx : V → Hp → Prop} {g : T → List D → Option (T × D)} {r' : V → List V → Hp → VK → Prop} (hck : ∀ H Av x t, TR κ H Av x t → ck t.view = true → Tx x H) (hv : VMut κ r' g) (h : tE κ W (eMut ck g f fs) ς H Q) :
    tE κ W f ς H fun x H1 => Tx x H1 ∧ tA κ W fs ς H1 fun vs H2 => r' x vs H2 Q := ck_red hck (mut0_red hv h)
end
end DL

set_option Elab.async false
set_option linter.all false
namespace DL
open PySem L2
def repX : List Kx → List D → Kx → D → List D
  | k' :: ks, v :: vs, k, d => (if k' = k then d else v) :: repX ks vs k d
  | _, vs, _, _ => vs
def putX (ks : List Kx) (vs : List D) (k : Kx) (d : D) : List Kx × List D := if ks.contains k = true then (ks, repX ks vs k d) else (ks ++ [k], vs ++ [d])
def dropX : List Kx → List D → Kx → List Kx × List D
  | k' :: ks, v :: vs, k => if k' = k then dropX ks vs k else (k' :: (dropX ks vs k).1, v :: (dropX ks vs k).2)
  | _, _, _ => ([], [])
section
variable {κ : Kt} {H : Hp} {Av : Addr → Prop} {γ : Type} [DecidableEq γ] {kx : γ → Kx}
theorem repX_ok (hx : ∀ a b, kx a = kx b → a = b) {k : γ} {v : V} {d : D} (hv : DV κ H Av v d) : ∀ {kvs : List (γ × V)} {vs : List D}, DVs κ H Av (kvs.map (·.2)) vs →
    DVs κ H Av ((kvs.map fun kv => if kv.1 = k then (kv.1, v) else kv).map (·.2)) (repX (kvs.map fun p => kx p.1) vs (kx k) d)
  | [], _, .nil => .nil
  | p :: r, _, .cons h t => by
    unfold repX
    rw [List.map_cons, List.map_cons]
    refine .cons ?_ (repX_ok hx hv t)
    by_cases e : p.1 = k
    · simp only [e, if_true]; exact hv
    · have : ¬ kx p.1 = kx k := fun z => e (hx _ _ z)
      simp only [e, this, if_false]
      exact h
theorem contains_kx (hx : ∀ a b, kx a = kx b → a = b) {k : γ} (kvs : List (γ × V)) : (kvs.map fun p => kx p.1).contains (kx k) = kvs.any fun kv => decide (kv.1 = k) := by
  induction kvs with
  | nil => rfl
  | cons p r ih =>
    rw [List.map_cons, List.contains_cons, List.any_cons, ih]
    congr 1
    by_cases e : p.1 = k
    · simp [e]
    · have : ¬ kx k = kx p.1 := fun z => e (hx _ _ z.symm)
      simp [e, this]
theorem putX_ok (hx : ∀ a b, kx a = kx b → a = b) {k : γ} {v : V} {d : D} (hv : DV κ H Av v d) {kvs : List (γ × V)} {vs : List D} (h : DVs κ H Av (kvs.map (·.2)) vs) :
    DVs κ H Av ((putK kvs k v).map (·.2)) (putX (kvs.map fun p => kx p.1) vs (kx k) d).2 ∧ (putX (kvs.map fun p => kx p.1) vs (kx k) d).1 = (putK kvs k v).map fun p => kx p.1 := by
  unfold putX putK
  rw [contains_kx hx]
  split
  · refine ⟨?_, ?_⟩
    · exact repX_ok hx (k := k) hv h
    · show (kvs.map fun p => kx p.1) = _
      rw [List.map_map]
      refine List.map_congr_left fun p hp => ?_
      simp only [Function.comp]
      split <;> simp_all
  · refine ⟨?_, by simp⟩
    rw [List.map_append]
    exact h.app (.cons hv .nil)
theorem dropX_ok (hx : ∀ a b, kx a = kx b → a = b) {k : γ} : ∀ {kvs : List (γ × V)} {vs : List D}, DVs κ H Av (kvs.map (·.2)) vs →
    DVs κ H Av ((dropK kvs k).map (·.2)) (dropX (kvs.map fun p => kx p.1) vs (kx k)).2 ∧ (dropX (kvs.map fun p => kx p.1) vs (kx k)).1 = (dropK kvs k).map fun p => kx p.1
  | [], _, .nil => ⟨.nil, rfl⟩
  | p :: r, _, .cons h t => by
    obtain ⟨h1, h2⟩ := dropX_ok hx (k := k) t
    rw [List.map_cons]
    unfold dropX
    by_cases e : p.1 = k
    · have e2 : dropK (p :: r) k = dropK r k := by simp [dropK, e]
      rw [e2, if_pos (by rw [e])]
      exact ⟨h1, h2⟩
    · have e2 : dropK (p :: r) k = p :: dropK r k := by simp [dropK, e]
      have : ¬ kx p.1 = kx k := fun z => e (hx _ _ z)
      rw [e2, if_neg this]
      exact ⟨.cons h h1, by rw [h2]; rfl⟩
end
section
variable {κ : Kt} {H : Hp} {Av : Addr → Prop}
end
theorem kxk_inj (a b : Key) (h : Kx.k a = Kx.k b) : a = b := Kx.k.inj h
theorem kxt_inj (a b : List Key) (h : Kx.t a = Kx.t b) : a = b := Kx.t.inj h
def isLst : D → Bool
  | .lst _ => true
  | _ => false
def isDct : D → Bool
  | .dct _ _ => true
  | _ => false
def appG : T → List D → Option (T × D)
  | .lst xs, [d] => if xs.length < sizeLine then some (.lst (xs ++ [d]), .non) else none
  | _, _ => none
section
variable {κ : Kt}
theorem ck_lst : ∀ H Av x t, TR κ H Av x t → isLst t.view = true → tyV κ.K "list" x H := fun H Av x t h e => by
  cases ev : t.view with
  | lst ds => obtain ⟨a, xs, rfl, h1, _⟩ := h.lst ev; exact .inl ⟨rfl, xs, .of h1⟩
  | _ => rw [ev] at e; cases e
theorem lst_own {t : T} {xs : List D} (h : t = .lst xs) {H : Hp} {Av : Addr → Prop} {a : Addr} (r : TR κ H Av (.ref a) t) : ∃ ys, H a = some (.lst ys) ∧ DVs κ H Av ys xs := by
  subst h
  obtain ⟨b, ys, e, h1, h2⟩ := r
  cases e
  exact ⟨ys, h1, h2⟩
theorem m_app : VMut κ rAppend appG := by
  intro H Q Av a t t' vs ds d ho ho' h hv ha e k
  unfold appG at e
  split at e
  · split at e
    · rename_i xs d0 hl
      cases e
      obtain ⟨ys, h1, h2⟩ := lst_own rfl h
      obtain ⟨x, rfl, hx⟩ := DVs.one hv
      exact ⟨a, ys, x, rfl, rfl, h1, by rw [h2.length]; exact hl, k .non _ ⟨a, _, rfl, upd_same, (h2.app (.cons hx .nil)).upd ha⟩ .non⟩
    · cases e
  · cases e
end
section
variable {X : Cx} {κ : Kt} {W : WX} {o e : Expr} {es : List Expr} {f : M Rv} {fs : M (List Rv)} {apos cpos : Pos} {ty id : String} {name : Str} {r : V → List V → Hp → VK → Prop} {g : T → List D → Option (T × D)} {ck : D → Bool}
theorem tE_mono {Q Q' : VK} {σ : L2.St} {H : Hp} (h : tE κ W f σ H Q) (k : ∀ v H1, Q v H1 → Q' v H1) : tE κ W f σ H Q' := by
  obtain ⟨B, S, τ, rfl, g, o⟩ := tE_iff.mp h
  refine tE_iff.mpr ⟨B, S, τ, rfl, g, ?_⟩
  cases e : f S with
  | ok r S1 => rw [e] at o; exact fun v H1 p => k v.1 H1 (o v H1 p)
  | exc x S1 => rw [e] at o; exact o
  | stuck => rw [e] at o; exact o
theorem de_bm (hk : X.K = κ.K) (pa : PlainAttrs ty) (slot : Slot ty name id) (hty : typeOf (.builtin id) = pure (.type "method_descriptor")) (hm : MtR X id r) (hck : ∀ H Av x t, TR κ H Av x t → ck t.view = true → tyV κ.K ty x H) (hv : VMut κ r g) (ho : PE X o (tE κ W f)) (ha : PA X (e :: es) (tA κ W fs))
    (hbase : attributeBase o name X.env (eval o X.env) = eval o X.env := by rfl)
    (hfew : ((backTo cpos (starEach (e :: es) X.env)).all (fun x => !x.1) && (backToKw cpos (keywordEach [] X.env)).all (fun x => x.1.isSome)
      && decide ((e :: es).length + ([] : List Keyword).length + (if ([] : List Keyword).isEmpty then 0 else 1) < 30)) = true := by rfl)
    (hline : (apos.endLine == cpos.line) = true := by rfl) (hs : starEach (e :: es) X.env = (false, eval e X.env) :: starEach es X.env := by rfl) (hplain : (backTo cpos (starEach es X.env)).any (·.1) = false := by rfl) :
    PE X (.Call (.Attribute o name apos) (e :: es) [] cpos) (tE κ W (eMut ck g f fs)) :=
  (pe_bm pa slot hty hm ho ha hbase hfew hline hs hplain).weak fun σ H Q h => by rw [hk]; exact mut_red hck hv h
theorem de_append (hk : X.K = κ.K) (ho : PE X o (tE κ W f)) (ha : PA X [e] (tA κ W fs)) (hbase : attributeBase o "append" X.env (eval o X.env) = eval o X.env := by rfl)
    (hfew : ((backTo cpos (starEach [e] X.env)).all (fun x => !x.1) && (backToKw cpos (keywordEach [] X.env)).all (fun x => x.1.isSome)
      && decide (([e] : List Expr).length + ([] : List Keyword).length + (if ([] : List Keyword).isEmpty then 0 else 1) < 30)) = true := by rfl)
    (hline : (apos.endLine == cpos.line) = true := by rfl) (hs : starEach [e] X.env = (false, eval e X.env) :: starEach [] X.env := by rfl) (hplain : (backTo cpos (starEach [] X.env)).any (·.1) = false := by rfl) :
    PE X (.Call (.Attribute o "append" apos) [e] [] cpos) (tE κ W (eMut isLst appG f fs)) := de_bm hk PySem.F.plainAttrs_list PySem.F.slot_list_append PySem.F.type_list_append mt_append ck_lst m_app ho ha hbase hfew hline hs hplain
end
end DL

set_option Elab.async false
set_option linter.all false
namespace DL
open PySem L2
def sSto (g : T → List D → Option (T × D)) (fs : M (List Rv)) : MS := fun S => match fs S with
  | .ok (rv :: ro :: ri) S1 => match frzR rv S1 with
    | some (dv, S2) => match frzRs ri S2 with
      | some (ds, S3) => match mutR g ro (dv :: ds) S3 with
        | .ok _ S4 => .nx S4
        | _ => .stuck
      | none => .stuck
    | none => .stuck
  | .ok _ _ => .stuck
  | .exc x S1 => .exc x S1
  | .stuck => .stuck
section
variable {κ : Kt} {W : WX} {B : Addr → Prop} {σ : Sg} {H H1 H2 : Hp} {S S1 S2 S3 S4 : En} {vs : List G} {rs : List Rv} {v x : G} {t : T} {Q : VK} {fs : M (List Rv)} {f : M Rv} {r q : Rv} {a : Addr} {o : HO} {i : Nat} {d : D} {ds : List D} {fx : Nat → Bool}
theorem Paired.tmono {A A' : Addr → Prop} : ∀ {vs : List G} {rs : List Rv}, Paired (RvR κ H A σ) vs rs → (∀ b, A' b → A b) → Paired (RvR κ H A' σ) vs rs
  | _, _, .nil, _ => .nil
  | _, _, .cons (b := .tmp t) h r, le => .cons (TRG.less h le) (Paired.tmono r le)
  | _, _, .cons (b := .slot i) h r, le => .cons h (Paired.tmono r le)
  | _, _, .cons (b := .sub i k) h r, le => .cons h (Paired.tmono r le)
theorem sto_red {g : T → List D → Option (T × D)} {r' : V → List V → Hp → VK → Prop} {D0 : Ends} {ς : L2.St} (hv : VMut κ r' g) (h : tS κ W fx (sSto g fs) D0 ς H) : tA κ W fs ς H fun vs H1 => ∃ v x ws, vs = v :: x :: ws ∧ r' x (v :: ws) H1 fun _ H2 => D0.nx ς H2 := by
  obtain ⟨B, S, σ, rfl, g0, o⟩ := h
  refine ⟨B, S, σ, rfl, g0, ?_⟩
  unfold sSto at o
  cases e : fs S with
  | exc x S1 => rw [e] at o; exact fun d H1 p => o d σ H1 p.toY
  | stuck => rw [e] at o; exact o
  | ok rs S1 =>
    rw [e] at o
    intro vs H1 p
    match rs, vs, p.lens with
    | [], _, _ => exact o.elim
    | [_], _, _ => exact o.elim
    | rv :: ro :: ri, v :: x :: ws, _ =>
      dsimp only at o
      refine ⟨v.1, x.1, vsV ws, rfl, ?_⟩
      split at o
      · rename_i dv S2 e1
        split at o
        · rename_i ds S3 e2
          split at o
          · rename_i q S4 e3
            cases p.rv with
            | cons h1 hr =>
              cases hr with
              | cons h2 h3 =>
                obtain ⟨g2, s2, t, t1, t2, t3⟩ := p.good.frzR h1 e1
                have le2 : ∀ b, AvS (BxL B (rv :: ro :: ri) (v :: x :: ws)) S2 σ b → AvS (BxL B (rv :: ro :: ri) (v :: x :: ws)) S1 σ b := fun b z => z.imp id (s2 b)
                obtain ⟨g3, s3, ts, u1, u2, u3⟩ := g2.frzRs (Paired.tmono h3 le2) e2
                have tx : ∀ b, TmpAt ro x b → TmpsAt (rv :: ro :: ri) (v :: x :: ws) b := fun b z => ⟨1, _, _, rfl, rfl, z⟩
                have leB : ∀ b, Bx B ro x b → BxL B (rv :: ro :: ri) (v :: x :: ws) b := fun b z => z.imp id (tx b)
                have g4 := g3.weaken leB
                have no : ∀ (k : Nat) (r : Rv) (w : G) (b : Addr), k ≠ 1 → (rv :: ro :: ri)[k]? = some r → (v :: x :: ws)[k]? = some w → TmpAt r w b → ¬ AvS (Bx B ro x) S3 σ b := fun k r w b hk f1 f2 z y => by
                  rcases y with (y | y) | y
                  · exact p.tB b ⟨k, r, w, f1, f2, z⟩ y
                  · exact hk (p.dist k 1 r ro w x b f1 rfl f2 rfl z y)
                  · exact p.good.dis b (.inr ⟨k, r, w, f1, f2, z⟩) (s2 b (s3 b y))
                have le3 : ∀ b, AvS (Bx B ro x) S3 σ b → AvS (BxL B (rv :: ro :: ri) (v :: x :: ws)) S2 σ b := fun b z => z.elim (fun z => .inl (leB b z)) fun z => .inr (s3 b z)
                have d1 : DV κ H1 (AvS (Bx B ro x) S3 σ) v.1 dv := by
                  rw [← t1]
                  exact t2.freeze le3 fun a f => no 0 rv v a (by decide) rfl rfl (t3 a f)
                have d2 : DVs κ H1 (AvS (Bx B ro x) S3 σ) (vsV ws) ds := by
                  rw [← u1]
                  refine dvs_of u2 (fun b z => z.imp (leB b) id) fun i t w a f1 f2 hf => ?_
                  obtain ⟨k, r, w', y1, y2, y3⟩ := u3 i t w a f1 f2 hf
                  exact no (k + 2) r w' a (by omega) (by simpa using y1) (by simpa using y2) y3
                have rl : RvR κ H1 (AvS (Bx B ro x) S3 σ) σ x ro := by
                  cases ro with
                  | slot i => exact h2
                  | sub i k => exact h2
                  | tmp u => exact TRG.less h2 fun b z => le2 b (le3 b z)
                refine mut_core (B := B) hv g4 rl (.cons d1 d2) e3 fun w a u d hq ha gg sub dd => o σ _ ⟨fun b y hb nb => ?_, fun b z => .inr (p.sub b (s2 b (s3 b (sub b z)))), fun _ _ => rfl, gg, rfl⟩
                have hne : b ≠ a := fun z => by
                  subst z
                  rcases ha with ha | ha
                  · rcases p.tnew b (tx b ha) with w | w
                    · rw [hb] at w; cases w
                    · exact nb w.1
                  · exact nb (p.sub b (s2 b (s3 b ha)))
                rw [upd_ne hne]
                exact p.keep b y hb nb
          · exact o.elim
        · exact o.elim
      · exact o.elim
def Kx.isK : Kx → Bool
  | .k _ => true
  | _ => false
def Kx.isT : Kx → Bool
  | .t _ => true
  | _ => false
def setG : T → List D → Option (T × D)
  | .lst xs, [d, .int i] => (ixN xs.length i).map fun j => (.lst (xs.set j d), .non)
  | .dct ks vs, [d, y] => match keyX y with
    | some (.k k) => if vs.length < sizeLine ∧ ks.all Kx.isK = true then some (.dct (putX ks vs (.k k) d).1 (putX ks vs (.k k) d).2, .non) else none
    | some (.t k) => if vs.length < sizeLine ∧ ks ≠ [] ∧ ks.all Kx.isT = true then some (.dct (putX ks vs (.t k) d).1 (putX ks vs (.t k) d).2, .non) else none
    | none => none
  | _, _ => none
def rSetA : TSet := fun o i v H Q => rSetL o i v H Q ∨ rSetD o i v H Q
theorem set_A {X : Cx} (hu : X.A.units + 64 < cLine) : PSet X rSetA := by
  intro pins s σ H o i v ov iv u Q I ro ri rv h
  rcases h with h | h
  · exact set_list pins s σ H o i v ov iv u Q I ro ri rv h
  · exact set_dict (by omega) pins s σ H o i v ov iv u Q I ro ri rv h
theorem m_set : VMut κ (fun x vs H Q => ∃ v i, vs = [v, i] ∧ rSetA x i v H fun H' => Q .non H') setG := by
  intro H Q Av a t t' vs ds d ho ho' h hv ha e k
  unfold setG at e
  split at e
  · rename_i xs d0 i
    obtain ⟨j, hj, e⟩ := Option.map_eq_some_iff.mp e
    cases e
    obtain ⟨ys, h1, h2⟩ := lst_own rfl h
    obtain ⟨x, y, rfl, hx, hy⟩ := DVs.two hv
    cases hy
    exact ⟨x, .int i, rfl, .inl ⟨a, ys, i, j, rfl, rfl, h1, by rw [h2.length]; exact hj, k .non _ ⟨a, _, rfl, upd_same, (h2.set hx j).upd ha⟩ .non⟩⟩
  · rename_i ks ws d0 y
    obtain ⟨x, z, rfl, hx, hz⟩ := DVs.two hv
    obtain ⟨a', ea, ⟨kvs, h1, rfl, h3⟩ | ⟨kvs, hne, h1, rfl, h3⟩⟩ := h
    · cases ea
      have hl := h3.length
      rw [List.length_map] at hl
      split at e
      · rename_i k0 ek
        split at e
        · rename_i hs
          cases e
          obtain ⟨g1, g2⟩ := putX_ok (kx := Kx.k) kxk_inj (k := k0) hx h3
          have ez : z = kV k0 := by
            unfold keyX at ek
            split at ek
            · cases ek; exact hz.int_inv
            · cases ek; exact hz.str_inv
            · split at ek
              · cases ek
              · obtain ⟨_, _, q⟩ := Option.map_eq_some_iff.mp ek; cases q
            · cases ek
          refine ⟨x, z, rfl, .inr ⟨a, _, rfl, .inl ⟨kvs, k0, h1, ez, by rw [hl]; exact hs.1, rfl⟩, k .non _ ⟨a, rfl, .inl ⟨_, upd_same, g2, g1.upd ha⟩⟩ .non⟩⟩
        · cases e
      · rename_i k0 ek
        split at e
        · rename_i hs
          obtain ⟨_, hne, hall⟩ := hs
          cases kvs with
          | nil => exact (hne rfl).elim
          | cons p r => simp [Kx.isT] at hall
        · cases e
      · cases e
    · cases ea
      have hl := h3.length
      rw [List.length_map] at hl
      split at e
      · rename_i k0 ek
        split at e
        · rename_i hs
          cases kvs with
          | nil => exact (hne rfl).elim
          | cons p r => simp [Kx.isK] at hs
        · cases e
      · rename_i k0 ek
        split at e
        · rename_i hs
          cases e
          obtain ⟨g1, g2⟩ := putX_ok (kx := Kx.t) kxt_inj (k := k0) hx h3
          unfold keyX at ek
          split at ek
          · cases ek
          · cases ek
          · split at ek
            · cases ek
            · rename_i hn0
              obtain ⟨k1, e1, e2⟩ := Option.map_eq_some_iff.mp ek
              cases e2
              cases hz with
              | @tup b xs es r1 r2 r3 =>
                have ek2 := keysF_v r3 e1
                subst ek2
                have hne2 : putK kvs k0 x ≠ [] := fun z => by
                  have := congrArg List.length z
                  unfold putK at this
                  split at this
                  · rw [List.length_map] at this; exact hne (List.length_eq_zero_iff.mp this)
                  · simp at this
                exact ⟨x, _, rfl, .inr ⟨a, _, rfl, .inr ⟨kvs, k0, b, h1, rfl, r1, by rw [hl]; exact hs.1, rfl⟩, k .non _ ⟨a, rfl, .inr ⟨_, hne2, upd_same, g2, g1.upd ha⟩⟩ .non⟩⟩
              | tup0 r1 => simp at hn0
          · cases ek
        · cases e
      · cases e
  · cases e
end
section
variable {X : Cx} {κ : Kt} {W : WX} {fx : Nat → Bool} {o i value : Expr} {fo fi fv : M Rv} {tpos pos : Pos} {f : Str} {c : Nat}
end
section
variable {X : Cx} {κ : Kt} {W : WX} {fx : Nat → Bool} {e : Expr} {fe : M Rv} {tpos pos : Pos} {x : Str} {i : Nat} {op : Operator} {k : Int → Int → Int}
end
def eDict0 : M Rv := fun S => .ok (.tmp (.dct [] [])) S
section
variable {X : Cx} {κ : Kt} {W : WX} {pos : Pos}
theorem de_dict0 : PE X (.Dict [] [] pos) (tE κ W eDict0) := pe_dnewK.weak fun σ H Q ⟨B, S, τ, ec, g, o⟩ => ec ▸ fun p hp => o _ _ ((Chain.refl g).fin ⟨Same.upd hp, fun _ a e => by cases e; exact hp, p, rfl, .inl ⟨[], upd_same, rfl, .nil⟩⟩)
end
end DL

set_option Elab.async false
set_option linter.all false
namespace DL
open PySem L2
abbrev W0 : WX := fun _ _ _ _ => False
def fxv (vs : List Nat) : Nat → Bool := fun p => !(vs.contains p)
def wipeE (S : En) : List Nat → En
  | [] => S
  | v :: vs => (wipeE S vs).set v none
def restE (S1 S : En) : List Nat → En
  | [] => S
  | v :: vs => match S1[v]? with
    | some e => (restE S1 S vs).set v e
    | none => restE S1 S vs
def okv (S : En) : List Nat → Bool
  | [] => true
  | v :: vs => (match S[v]? with | some (some t) => !t.own | _ => true) && okv S vs
theorem wipeE_len (S : En) : ∀ vs, (wipeE S vs).length = S.length
  | [] => rfl
  | v :: vs => by unfold wipeE; rw [List.length_set, wipeE_len S vs]
theorem restE_len (S1 S : En) : ∀ vs, (restE S1 S vs).length = S.length
  | [] => rfl
  | v :: vs => by
    unfold restE
    split
    · rw [List.length_set, restE_len S1 S vs]
    · exact restE_len S1 S vs
theorem wipeE_out {S : En} {j : Nat} : ∀ {vs : List Nat}, j ∉ vs → (wipeE S vs)[j]? = S[j]?
  | [], _ => rfl
  | v :: vs, h => by
    simp only [List.mem_cons, not_or] at h
    unfold wipeE
    rw [List.getElem?_set_ne (Ne.symm h.1)]
    exact wipeE_out h.2
theorem wipeE_in {S : En} {j : Nat} {t : T} : ∀ {vs : List Nat}, (wipeE S vs)[j]? = some (some t) → S[j]? = some (some t) ∧ j ∉ vs
  | [], h => ⟨h, by simp⟩
  | v :: vs, h => by
    unfold wipeE at h
    by_cases hi : v = j
    · subst hi
      by_cases hv : v < (wipeE S vs).length
      · rw [List.getElem?_set_self hv] at h; cases h
      · rw [List.getElem?_eq_none (by simpa using hv)] at h; cases h
    · rw [List.getElem?_set_ne hi] at h
      obtain ⟨h1, h2⟩ := wipeE_in h
      exact ⟨h1, by simp only [List.mem_cons, not_or]; exact ⟨fun e => hi e.symm, h2⟩⟩
def wipeG (σ : Sg) : List Nat → Sg
  | [] => σ
  | v :: vs => (wipeG σ vs).set v none
theorem wipeG_length (σ : Sg) : ∀ vs : List Nat, (wipeG σ vs).length = σ.length
  | [] => rfl
  | v :: vs => by unfold wipeG; rw [List.length_set, wipeG_length σ vs]
theorem wipeG_some {σ : Sg} {i : Nat} {x : G} : ∀ {vs : List Nat}, (wipeG σ vs)[i]? = some (some x) → σ[i]? = some (some x) ∧ i ∉ vs
  | [], h => ⟨h, by simp⟩
  | v :: vs, h => by
    unfold wipeG at h
    by_cases hi : v = i
    · subst hi
      by_cases hv : v < (wipeG σ vs).length
      · rw [List.getElem?_set_self hv] at h; cases h
      · rw [List.getElem?_eq_none (by simpa using hv)] at h; cases h
    · rw [List.getElem?_set_ne hi] at h
      obtain ⟨h1, h2⟩ := wipeG_some h
      exact ⟨h1, by simp only [List.mem_cons, not_or]; exact ⟨fun e => hi e.symm, h2⟩⟩
theorem unG_wipe (σ : Sg) : ∀ vs : List Nat, unG (wipeG σ vs) = wipe (unG σ) vs
  | [] => rfl
  | v :: vs => by
    unfold wipeG wipe
    rw [← unG_wipe σ vs]
    unfold unG
    rw [List.map_set]
    rfl
theorem wipe_not {σ : Sg} {j : Nat} : ∀ {vs : List Nat}, j ∉ vs → (wipeG σ vs)[j]? = σ[j]?
  | [], _ => rfl
  | v :: vs, h => by
    simp only [List.mem_cons, not_or] at h
    unfold wipeG
    rw [List.getElem?_set_ne (Ne.symm h.1)]
    exact wipe_not h.2
theorem wipe_eq {σ σ' : Sg} {vs : List Nat} (hl : σ'.length = σ.length) (h : ∀ p, p ∉ vs → σ'[p]? = σ[p]?) : wipeG σ' vs = wipeG σ vs := by
  refine List.ext_getElem? fun j => ?_
  by_cases hj : j ∈ vs
  · by_cases hl' : j < σ.length
    · have f : ∀ (τ : Sg), τ.length = σ.length → (wipeG τ vs)[j]? = some none := fun τ ht => by
        have hw : j < (wipeG τ vs).length := by rw [wipeG_length, ht]; exact hl'
        cases e : (wipeG τ vs)[j]? with
        | none => exact absurd (List.getElem?_eq_none_iff.mp e) (by omega)
        | some x =>
          cases x with
          | none => rfl
          | some v => exact absurd hj (wipeG_some e).2
      rw [f σ' hl, f σ rfl]
    · rw [List.getElem?_eq_none (by rw [wipeG_length]; omega), List.getElem?_eq_none (by rw [wipeG_length]; omega)]
  · rw [wipe_not hj, wipe_not hj]
    exact h j hj
theorem wipe_wipe {σ : Sg} {vs : List Nat} : wipeG (wipeG σ vs) vs = wipeG σ vs := wipe_eq (wipeG_length _ _) fun p hp => wipe_not hp
theorem restE_in {S1 S : En} {j : Nat} : ∀ {vs : List Nat}, S1.length = S.length → j ∈ vs → (restE S1 S vs)[j]? = S1[j]?
  | [], _, h => by simp at h
  | v :: vs, hl, h => by
    unfold restE
    by_cases hj : v = j
    · subst hj
      split
      · rename_i e q
        have hv : v < S1.length := (List.getElem?_eq_some_iff.mp q).1
        rw [List.getElem?_set_self (by rw [restE_len]; omega), q]
      · rename_i q
        rw [q, List.getElem?_eq_none_iff, restE_len]
        have := List.getElem?_eq_none_iff.mp q
        omega
    · have h2 : j ∈ vs := (List.mem_cons.mp h).resolve_left fun e => hj e.symm
      split
      · rw [List.getElem?_set_ne hj]; exact restE_in hl h2
      · exact restE_in hl h2
theorem restE_out {S1 S : En} {j : Nat} : ∀ {vs : List Nat}, j ∉ vs → (restE S1 S vs)[j]? = S[j]?
  | [], _ => rfl
  | v :: vs, h => by
    simp only [List.mem_cons, not_or] at h
    unfold restE
    split
    · rw [List.getElem?_set_ne (Ne.symm h.1)]; exact restE_out h.2
    · exact restE_out h.2
theorem okv_at {S : En} {j : Nat} {t : T} : ∀ {vs : List Nat}, okv S vs = true → j ∈ vs → S[j]? = some (some t) → t.own = false
  | [], _, h, _ => by simp at h
  | v :: vs, ho, h, e => by
    unfold okv at ho
    rw [Bool.and_eq_true] at ho
    rcases List.mem_cons.mp h with q | q
    · subst q
      have := ho.1
      rw [e] at this
      simpa using this
    · exact okv_at ho.2 q e
section
variable {κ : Kt} {W : WX} {B B1 : Addr → Prop} {σ : Sg} {H H1 H2 : Hp} {S S1 S2 : En} {vs : List Nat}
theorem own_wipe (ho : okv S vs = true) {a : Addr} : OwnAt (wipeE S vs) (wipeG σ vs) a ↔ OwnAt S σ a :=
  ⟨fun ⟨i, t, g, e1, e2, e3⟩ => ⟨i, t, g, (wipeE_in e1).1, e2, (wipeG_some e3).1⟩, fun ⟨i, t, g, e1, e2, e3⟩ => by
    have hi : i ∉ vs := fun z => by have := e2.own; rw [okv_at ho z e1] at this; cases this
    exact ⟨i, t, g, by rw [wipeE_out hi]; exact e1, e2, by rw [wipe_not hi]; exact e3⟩⟩
theorem Good.wipe (g : Good κ B H σ S) (ho : okv S vs = true) : Good κ B H (wipeG σ vs) (wipeE S vs) := by
  refine ⟨by rw [wipeE_len, wipeG_length]; exact g.len, g.trk, fun b z q => g.dis b z ((own_wipe ho).mp q), fun i j a t u ga gb e1 e2 e3 e4 e5 e6 => g.inj i j a t u ga gb (wipeE_in e1).1 e2 (wipeE_in e3).1 e4 (wipeG_some e5).1 (wipeG_some e6).1, fun i t e => ?_⟩
  obtain ⟨e1, hi⟩ := wipeE_in e
  obtain ⟨v, v1, v2⟩ := g.slot i t e1
  exact ⟨v, by rw [wipe_not hi]; exact v1, v2.less fun b z => z.imp id (own_wipe ho).mp⟩
theorem Good.wipe' (g : Good κ B H σ S) : Good κ B H (wipeG σ vs) (wipeE S vs) := by
  have own : ∀ a, OwnAt (wipeE S vs) (wipeG σ vs) a → OwnAt S σ a := fun a ⟨i, t, g, e1, e2, e3⟩ => ⟨i, t, g, (wipeE_in e1).1, e2, (wipeG_some e3).1⟩
  refine ⟨by rw [wipeE_len, wipeG_length]; exact g.len, g.trk, fun b z q => g.dis b z (own b q), fun i j a t u ga gb e1 e2 e3 e4 e5 e6 => g.inj i j a t u ga gb (wipeE_in e1).1 e2 (wipeE_in e3).1 e4 (wipeG_some e5).1 (wipeG_some e6).1, fun i t e => ?_⟩
  obtain ⟨e1, hi⟩ := wipeE_in e
  obtain ⟨v, v1, v2⟩ := g.slot i t e1
  exact ⟨v, by rw [wipe_not hi]; exact v1, v2.less fun b z => z.imp id (own b)⟩
theorem Good.rest (g : Good κ B H σ S) (ho : okv S vs = true) (g2 : Good κ B1 H2 (wipeG σ vs) S2) (rel : Rel H (AvS B S σ) H2 (AvS B1 S2 (wipeG σ vs))) :
    Good κ B1 H2 σ (restE S (wipeE S2 vs) vs) ∧ ∀ a, OwnAt (restE S (wipeE S2 vs) vs) σ a → OwnAt S2 (wipeG σ vs) a := by
  have hl : S.length = (wipeE S2 vs).length := by rw [wipeE_len, g2.len, wipeG_length]; exact g.len
  have get : ∀ (i : Nat) (t : T), (restE S (wipeE S2 vs) vs)[i]? = some (some t) → (i ∈ vs ∧ S[i]? = some (some t)) ∨ (i ∉ vs ∧ S2[i]? = some (some t)) := fun i t e => by
    by_cases hi : i ∈ vs
    · rw [restE_in hl hi] at e; exact .inl ⟨hi, e⟩
    · rw [restE_out hi] at e; exact .inr ⟨hi, (wipeE_in e).1⟩
  have own : ∀ a, OwnAt (restE S (wipeE S2 vs) vs) σ a → OwnAt S2 (wipeG σ vs) a := fun a ⟨i, t, ga, e1, e2, e3⟩ => by
    rcases get i t e1 with ⟨q1, q2⟩ | ⟨q1, q2⟩
    · have := e2.own; rw [okv_at ho q1 q2] at this; cases this
    · exact ⟨i, t, ga, q2, e2, by rw [wipe_not q1]; exact e3⟩
  refine ⟨⟨by rw [restE_len, wipeE_len, g2.len, wipeG_length], g2.trk, fun b z q => g2.dis b z (own b q), fun i j a t u ga gb e1 e2 e3 e4 e5 e6 => ?_, fun i t e => ?_⟩, own⟩
  · rcases get i t e1 with ⟨q1, q2⟩ | ⟨q1, q2⟩
    · have := e2.own; rw [okv_at ho q1 q2] at this; cases this
    · rcases get j u e3 with ⟨q3, q4⟩ | ⟨q3, q4⟩
      · have := e4.own; rw [okv_at ho q3 q4] at this; cases this
      · exact g2.inj i j a t u ga gb q2 e2 q4 e4 (by rw [wipe_not q1]; exact e5) (by rw [wipe_not q3]; exact e6)
  · rcases get i t e with ⟨q1, q2⟩ | ⟨q1, q2⟩
    · obtain ⟨v, v1, v2⟩ := g.slot i t q2
      exact ⟨v, v1, TRG.mono v2 (fun a o f => by have := f.own; rw [okv_at ho q1 q2] at this; cases this) rel.keep fun b e n z => rel.free b e n (z.imp id (own b))⟩
    · obtain ⟨v, v1, v2⟩ := g2.slot i t q2
      rw [wipe_not q1] at v1
      exact ⟨v, v1, v2.less fun b z => z.imp id (own b)⟩
end
def compD (vs : List Nat) (gd : D → En → Option En) (c : M Bool) (e : M Rv) : List D → List D → En → Res (List D)
  | [], acc, S => .ok acc S
  | d :: ds, acc, S => match gd d S with
    | some S1 => match c S1 with
      | .ok b S2 => if b = true then match e S2 with
          | .ok r S3 => match frzR r S3 with
            | some (y, S4) => if acc.length < sizeLine then compD vs gd c e ds (acc ++ [y]) (wipeE S4 vs) else .stuck
            | none => .stuck
          | _ => .stuck
        else compD vs gd c e ds acc (wipeE S2 vs)
      | _ => .stuck
    | none => .stuck
def eComp (vs : List Nat) (fi : M (List D)) (gd : D → En → Option En) (c : M Bool) (e : M Rv) : M Rv := fun S => match fi S with
  | .ok ds S1 => if okv S1 vs = true then match compD vs gd c e ds [] (wipeE S1 vs) with
      | .ok acc S2 => .ok (.tmp (.lst acc)) (restE S1 (wipeE S2 vs) vs)
      | _ => .stuck
    else .stuck
  | .exc x S1 => .exc x S1
  | .stuck => .stuck
section
variable {κ : Kt} {W : WX} {σ : Sg} {H : Hp} {Q : VK} {vs : List Nat} {fi : M (List D)} {gt : TG} {gd : D → En → Option En} {c : M Bool} {e : M Rv} {n : Nat}
structure CompI (κ : Kt) (B : Addr → Prop) (σ : Sg) (H1 : Hp) (S1 : En) (vs : List Nat) (D : Addr) (Hi : Hp) (Si : En) (av : List V) (ai : List DL.D) : Prop where
  good : Good κ (fun b => B b ∨ b = D) Hi (wipeG σ vs) Si
  keep : ∀ b o, H1 b = some o → ¬ OwnAt S1 σ b → Hi b = some o
  own : ∀ a, OwnAt Si (wipeG σ vs) a → OwnAt S1 σ a
  at_ : Hi D = some (.lst av)
  dvs : DVs κ Hi (AvS (fun b => B b ∨ b = D) Si (wipeG σ vs)) av ai
theorem lc_red {ς : L2.St} (hn : ς.length = n) (ht : TgOk κ (fxv vs) n gt gd) (h : tE κ W (eComp vs fi gd c e) ς H Q) : tLc (tI κ W fi) gt (tT κ W0 c) (tE κ W0 e) vs ς H Q := by
  obtain ⟨B, S, σ, rfl, g, o⟩ := tE_iff.mp h
  rw [unG_len] at hn
  refine ⟨B, S, σ, rfl, g, ?_⟩
  unfold eComp at o
  cases eF : fi S with
  | exc x S1 => rw [eF] at o; exact o
  | stuck => rw [eF] at o; exact o
  | ok ds S1 =>
    rw [eF] at o
    dsimp only at o
    intro J H1 P
    split at o
    case isFalse => exact o.elim
    rename_i ho
    split at o
    case h_2 => exact o.elim
    rename_i acc S2 eC
    intro D hD
    have nD : ¬ AvS B S1 σ D := P.good.avTrk hD
    have start : CompI κ B σ H1 S1 vs D (upd H1 D (.lst [])) (wipeE S1 vs) [] [] := by
      refine ⟨(P.good.wipe ho).more (fun b z => z.imp id fun z => ?_) (Same.upd hD), fun b o e _ => Same.upd hD b o e, fun a z => (own_wipe ho).mp z, upd_same, .nil⟩
      subst z
      exact ⟨.of upd_same fun _ => nofun, hD⟩
    have rel : ∀ {Hi Si av ai}, CompI κ B σ H1 S1 vs D Hi Si av ai → Rel H1 (AvS B S1 σ) Hi (AvS (fun b => B b ∨ b = D) Si (wipeG σ vs)) := fun {Hi Si av ai} I =>
      ⟨fun b o e n => I.keep b o e fun z => n (.inr z), fun b e n z => by
        rcases z with (z | z) | z
        · exact n (.inl z)
        · subst z; exact e hD
        · exact n (.inr (I.own b z)), fun b e => I.good.avOk e⟩
    refine ⟨fun i m Hi => m = ds.length - i ∧ i ≤ ds.length ∧ ∃ Si av ai, CompI κ B σ H1 S1 vs D Hi Si av ai ∧ compD vs gd c e (ds.drop i) ai Si = .ok acc S2, ⟨_, rfl, Nat.zero_le _, _, _, _, start, eC⟩, ?_⟩
    rintro i m Hi ⟨rfl, hi, Si, av, ai, I, eD⟩
    obtain ⟨w1, w2, w3⟩ := P.walk Hi _ (rel I)
    by_cases hlt : i < ds.length
    · refine .inr ⟨w1 i hlt, fun H' => ∃ Si av ai, CompI κ B σ H1 S1 vs D H' Si av ai ∧ compD vs gd c e (ds.drop (i + 1)) ai Si = .ok acc S2, fun H' h => ⟨ds.length - (i + 1), by omega, rfl, hlt, h⟩, fun x H' y => ?_⟩
      obtain ⟨hS, dv⟩ := w3 i x H' ds[i] y (List.getElem?_eq_getElem hlt)
      rw [List.drop_eq_getElem_cons hlt] at eD
      unfold compD at eD
      split at eD
      case h_2 => cases eD
      rename_i T1 eg
      have p0 : PostS κ (fun b => B b ∨ b = D) (fxv vs) (wipeG σ vs) Hi Si (wipeG σ vs) H' Si := ⟨fun b o e _ => hS b o e, fun a z => .inr z, fun _ _ => rfl, I.good.same hS, rfl⟩
      rw [← unG_wipe]
      refine ht (fun b => B b ∨ b = D) (wipeG σ vs) H' Si T1 x _ _ (by rw [wipeG_length]; exact hn) p0.good dv eg fun σ2 p => ?_
      have hw : wipeG σ2 vs = wipeG σ vs := by
        have := wipe_eq (σ := wipeG σ vs) (σ' := σ2) (vs := vs) p.slen fun q hq => p.fix q (by simp [fxv, hq])
        rw [this, wipe_wipe]
      refine ⟨by rw [← unG_wipe, hw], _, T1, σ2, rfl, p.good, ?_⟩
      -- the turn's end
      have fin : ∀ {H4 : Hp} {S4 : En} {av' : List V} {ai' : List DL.D}, PostS κ (fun b => B b ∨ b = D) (fxv vs) σ2 H' T1 σ2 H4 S4 → (∀ a, OwnAt S4 σ2 a → OwnAt T1 σ2 a) → (∀ (o : HO), (o = .lst av' → DVs κ (upd H4 D o) (AvS (fun b => B b ∨ b = D) S4 σ2) av' ai')) → 
          CompI κ B σ H1 S1 vs D (upd H4 D (.lst av')) (wipeE S4 vs) av' ai' := fun {H4 S4 av' ai'} q hsub hd => by
        have own4 : ∀ a, OwnAt S4 σ2 a → OwnAt S1 σ a := fun a z => by
          have z1 := hsub a z
          rcases p.own a z1 with w | w
          · exact absurd w (p.good.ownTrk z1).nn
          · exact I.own a w
        have ownW : ∀ a, OwnAt (wipeE S4 vs) (wipeG σ2 vs) a → OwnAt S4 σ2 a := fun a ⟨i, t, g, e1, e2, e3⟩ => ⟨i, t, g, (wipeE_in e1).1, e2, (wipeG_some e3).1⟩
        have q2 := p0.trans (p.trans q)
        refine ⟨?_, fun b o e n => ?_, fun a z => ?_, upd_same, ?_⟩
        · rw [← hw]; exact (q.good.updB (.inr rfl) (by intro _ z; cases z)).wipe'
        · have hb : b ≠ D := fun z => by subst z; rw [hD] at e; cases e
          rw [upd_ne hb]
          exact q2.keep b o (I.keep b o e n) fun z => n (I.own b z)
        · rw [← hw] at z; exact own4 a (ownW a z)
        · rw [← hw]
          exact (hd _ rfl).less fun b z => z.imp id (ownW b)
      have atD : ∀ {H4 : Hp} {S4 : En}, PostS κ (fun b => B b ∨ b = D) (fxv vs) σ2 H' T1 σ2 H4 S4 → H4 D = some (.lst av) := fun q => (p0.trans (p.trans q)).keep D _ I.at_ (I.good.dis D (.inr rfl))
      have dvs4 : ∀ {H4 : Hp} {S4 : En}, PostS κ (fun b => B b ∨ b = D) (fxv vs) σ2 H' T1 σ2 H4 S4 → DVs κ H4 (AvS (fun b => B b ∨ b = D) S4 σ2) av ai := fun q => DVs.later (B' := B) (p0.trans (p.trans q)) I.dvs
      split at eD
      case h_2 => cases eD
      rename_i b T2 ec
      rw [ec]
      intro H3 pb
      split at eD
      · rename_i hb
        subst hb
        rw [if_pos rfl]
        split at eD
        case h_2 => cases eD
        rename_i r T3 ee
        refine tE_iff.mpr ⟨_, T2, σ2, rfl, pb.good, ?_⟩
        rw [ee]
        intro y H4 pe
        split at eD
        case h_2 => cases eD
        rename_i yd T4 ef
        split at eD
        case isFalse => cases eD
        rename_i hz
        obtain ⟨ch, dy⟩ := pe.frz pb.good ef
        have q : PostS κ (fun b => B b ∨ b = D) (fxv vs) σ2 H' T1 σ2 H4 T4 := pb.toS.trans ch.toS
        refine ⟨av, atD q, by rw [I.dvs.length]; exact hz, wipeE T4 vs, av ++ [y.1], ai ++ [yd], fin q (fun a z => pb.sub a (ch.sub a z)) fun o _ => ((dvs4 q).app (.cons dy .nil)).upd (.inl (.inr rfl)), eD⟩
      · rename_i hb
        have hb : b = false := by simpa using hb
        subst hb
        rw [if_neg (by decide)]
        have q : PostS κ (fun b => B b ∨ b = D) (fxv vs) σ2 H' T1 σ2 H3 T2 := pb.toS
        have := fin q (fun a z => pb.sub a z) (av' := av) (ai' := ai) fun o _ => (dvs4 q).upd (.inl (.inr rfl))
        have eH : upd H3 D (.lst av) = H3 := by
          funext b
          by_cases hb : b = D
          · subst hb; rw [upd_same, atD q]
          · rw [upd_ne hb]
        rw [eH] at this
        exact ⟨wipeE T2 vs, av, ai, this, eD⟩
    · have e3 : i = ds.length := by omega
      subst e3
      rw [List.drop_length] at eD
      unfold compD at eD
      cases eD
      obtain ⟨g2, own2⟩ := P.good.rest ho I.good (rel I)
      have tm : ∀ b, TmpAt (.tmp (.lst acc)) (V.ref D, []) b → b = D := fun b ⟨u, e1, e2⟩ => by cases e1; cases e2.plain rfl; rfl
      have ch : Chain κ B σ H S B H1 S1 := ⟨P.keep, P.sub, fun _ z => z, P.good⟩
      refine .inl ⟨w2, o (.ref D, []) Hi ⟨fun b u e n => I.keep b u (P.keep b u e n) fun z => n (P.sub b z), fun a z => P.sub a (I.own a (own2 a z)), fun a z => ?_, g2.weaken fun b z => z.imp id (tm b), ⟨D, av, rfl, I.at_, I.dvs.less fun b z => ?_⟩, True.intro⟩⟩
      · rw [tm a z]
        exact (ch.newer hD).imp id fun q => ⟨q.1, fun w => q.2 (I.own D (own2 D w))⟩
      · rcases z with (z | z) | z
        · exact .inl (.inl z)
        · exact .inl (.inr (tm b z))
        · exact .inr (own2 b z)
end
section
variable {X : Cx} {κ : Kt} {W : WX} {fi : M (List D)} {gt : TG} {gd : D → En → Option En} {fc : M Bool} {fe : M Rv} {elt tg iter : Expr} {ifs : List Expr} {scope : Scope} {own : List (Str × Nat)} {pos spos py : Pos} {fx : Nat → Bool} {i : Nat} {y : Str}
def bYes : M Bool := M.ret true
theorem dts_nil : PTs X [] (tT κ W bYes) := ⟨fun pins s σ H Q I ⟨B, S, τ, ec, g, o⟩ => by subst ec; exact pts_nil.run pins s _ H Q I (o H ((Chain.refl g).postB))⟩
theorem dts_one {c : Expr} (h : PT X c (tT κ W fc)) : PTs X [c] (tT κ W fc) := pts_one h
theorem de_lc (hc : X.calm = true) (hN : X.N.Nodup) (hi : PI X tg iter (tI κ W fi)) (ok : BlkOk X.N X.env.scope scope own)
    (hg : ∀ (s : Shared) (H : Hp) (C : Addr) (cl : List (Str × Addr)) (fp : List Addr), PG (X.blk s H scope (compEnvC scope cl C X.env) fp) tg gt) (htg : TgOk κ (fxv (own.map (·.2))) X.N.length gt gd) (ht : ∀ (s : Shared) (H : Hp) (C : Addr) (cl : List (Str × Addr)) (fp : List Addr), PTs (X.blk s H scope (compEnvC scope cl C X.env) fp) ifs (tT κ W0 fc))
    (he : ∀ (s : Shared) (H : Hp) (C : Addr) (cl : List (Str × Addr)) (fp : List Addr), PE (X.blk s H scope (compEnvC scope cl C X.env) fp) elt (tE κ W0 fe)) (hs : ∀ x, foldedSetIterable iter X.env x = pure x := by intro _; rfl) :
    PE X (.ListComp elt [⟨tg, iter, ifs, 0⟩] scope pos) (tE κ W (eComp (own.map (·.2)) fi gd fc fe)) :=
  ⟨fun pins s σ H Q I h => (pe_lc hc hN hi ok hg ht he hs).run pins s σ H Q I (lc_red I.len htg h)⟩
theorem ds_setLc (hc : X.calm = true) (hN : X.N.Nodup) (hy : X.N[i]? = some y) (hyl : X.env.scope.names.lookup y = some .local) (hsw : swapsWith (.ListComp elt [⟨tg, iter, ifs, 0⟩] scope pos) (some (.Name y py)) spos.line X.env = pure true)
    (hi : PI X tg iter (tI κ W fi)) (ok : BlkOk X.N X.env.scope scope own)
    (hg : ∀ (s : Shared) (H : Hp) (C : Addr) (cl : List (Str × Addr)) (fp : List Addr), PG (X.blk s H scope (compEnvC scope cl C X.env) fp) tg gt) (htg : TgOk κ (fxv (own.map (·.2))) X.N.length gt gd) (ht : ∀ (s : Shared) (H : Hp) (C : Addr) (cl : List (Str × Addr)) (fp : List Addr), PTs (X.blk s H scope (compEnvC scope cl C X.env) fp) ifs (tT κ W0 fc))
    (he : ∀ (s : Shared) (H : Hp) (C : Addr) (cl : List (Str × Addr)) (fp : List Addr), PE (X.blk s H scope (compEnvC scope cl C X.env) fp) elt (tE κ W0 fe)) (hf : fx i = false := by rfl) (hs : ∀ x, foldedSetIterable iter X.env x = pure x := by intro _; rfl) :
    PS X (.Assign [.Name y py] (.ListComp elt [⟨tg, iter, ifs, 0⟩] scope pos) spos) (tS κ W fx (sAsg i (eComp (own.map (·.2)) fi gd fc fe))) := ⟨fun pins s σ H D I ⟨B, S, τ, ec, g, o⟩ => by
  subst ec
  have hl : i < X.N.length := (List.getElem?_eq_some_iff.mp hy).1
  refine (ps_setLc hc hN hy hyl hsw hi ok hg ht he hs).run pins s _ H D I (lc_red (Q := fun x H1 => gName i x (unG τ) H1 D.nx) I.len htg ?_)
  refine tE_rest (k := fun r S' => match mvR r S' with | some (t, S2) => .nx (S2.set i (some t)) | none => .stuck) g o fun v H' r S' p o => ?_
  split at o
  · rename_i t S2 e1
    obtain ⟨c, h, tn⟩ := p.mv g e1
    have q := o _ _ (c.putS g h (fun a z => (tn a z).imp id fun q => q.1) (by rw [c.good.len, ← unG_len, I.len]; exact hl) hf)
    rw [unG_set] at q
    exact q
  · exact o.elim⟩
end
end DL

set_option Elab.async false
set_option linter.all false
namespace DL
open PySem PySem.Spec PyProof.Rows L2
section
variable {X : Cx} {κ : Kt} {W : WX} {x : Str} {pos : Pos}
theorem de_globI {i : Int} (hm : ∃ t, X.mg x = some (.int i t)) (hg : Gl X x := by rfl) (hd : (x == ("__debug__" : Str)) = false := by decide) : PE X (.Name x pos) (tE κ W (eC (.int i))) := by
  obtain ⟨t, hm⟩ := hm
  exact de_C (pe_glob hg hm (v := .int i) ⟨t, rfl⟩ hd) fun _ _ => .int i
theorem dvs_strs {H : Hp} {Av : Addr → Prop} : ∀ zs : List Str, DVs κ H Av (zs.map V.str) (zs.map D.str)
  | [] => .nil
  | z :: zs => .cons (.str z) (dvs_strs zs)
theorem de_globT {a : Addr} {zs : List Str} {K : PySem.W.Frag} (hm : X.mg x = some (.ref a) ∧ WrT K a (zs.map V.str)) (hk : K = κ.K) (hg : Gl X x := by rfl) (hd : (x == ("__debug__" : Str)) = false := by decide) : PE X (.Name x pos) (tE κ W (eC (.ktup (zs.map D.str)))) := by
  subst hk
  exact de_C (pe_glob hg hm.1 (v := .ref a) rfl hd) fun H Av => .ktup hm.2 (dvs_strs zs)
theorem de_globC {c : Nat} (hm : X.mg x = some (.ref (κ.cA c))) (hg : Gl X x := by rfl) (hd : (x == ("__debug__" : Str)) = false := by decide) : PE X (.Name x pos) (tE κ W (eC (.cls c))) :=
  de_C (pe_glob hg hm (v := .ref (κ.cA c)) rfl hd) fun _ _ => .cls c
theorem de_bty {n : String} (hm : X.mg x = none) (hv : bootBuiltins x = some (.type n)) (hg : Gl X x := by rfl) (hn : x ≠ "__name__" := by decide) (hd : (x == ("__debug__" : Str)) = false := by decide) : PE X (.Name x pos) (tE κ W (eC (.ty n))) :=
  de_C (pe_bltn hg hm hv (v := .ty n) rfl hn hd) fun _ _ => .ty n
end
def eChain (g g' : D → D → Option T) (fa fb fc : M Rv) : M Rv := M.bind fa fun ra => M.bind fb fun rb => fun S => match viewR ra S, viewR rb S with
  | some da, some db => match g da db with
    | some (.fr (.bl k)) => if k = true then M.bind fc (fun rc S' => match viewR rb S', viewR rc S' with
        | some db, some dc => match g' db dc with
          | some t => .ok (.tmp t) S'
          | none => .stuck
        | _, _ => .stuck) S
      else .ok (.tmp (.fr (.bl false))) S
    | _ => .stuck
  | _, _ => .stuck
section
variable {κ : Kt} {W : WX} {B B1 : Addr → Prop} {σ : Sg} {H H1 H2 : Hp} {S S1 : En} {v : G} {r : Rv} {Q : VK} {fa fb fc : M Rv} {g g' : D → D → Option T} {r1 r2 : R2}
theorem Chain.same (c : Chain κ B σ H S B1 H1 S1) (s : Same H1 H2) : Chain κ B σ H S B1 H2 S1 := ⟨fun b o e n => s b o (c.keep b o e n), c.sub, c.le, c.good.same s⟩
theorem RvR.same {A : Addr → Prop} (h : RvR κ H1 A σ v r) (s : Same H1 H2) : RvR κ H2 A σ v r := by
  cases r with
  | slot i => exact h
  | sub i k => exact h
  | tmp t => exact TRG.mono h (fun a o _ z => s a o z) (fun b o z _ => s b o z) fun _ _ n => n
theorem chain_red {ς : L2.St} (hv : VOp2 κ r1 g) (hv' : VOp2 κ r2 g') (h : tE κ W (eChain g g' fa fb fc) ς H Q) :
    tE κ W fa ς H fun x H1 => tE κ W fb ς H1 fun y H2 => r1 x y H2 fun z H3 => ∃ k, z = .bl k ∧ (if k = true then tE κ W fc ς H3 fun w' H4 => r2 y w' H4 Q else Q (.bl false) H3) := by
  obtain ⟨B, S, σ, rfl, g0, o⟩ := tE_iff.mp h
  refine (Chain.refl g0).bind o fun S1 H1 v1 q1 p1 o1 => ?_
  have c1 := (Chain.refl g0).step p1
  refine c1.bind o1 fun S2 H2 v2 q2 p2 o2 => ?_
  have c2 := c1.step p2
  have w1 := Chain.later p1 p2
  split at o2
  · rename_i da db e1 e2
    split at o2
    · rename_i k e3
      obtain ⟨t1, h1, u1⟩ := RvR.view c2.good w1 e1
      obtain ⟨t2, h2, u2⟩ := RvR.view c2.good p2.rv e2
      refine hv H2 _ _ v1.1 v2.1 t1 t2 (.fr (.bl k)) (fun p hp => c2.good.avTrk hp) h1 h2 (by rw [u1, u2]; exact e3) fun v H3 f => ?_
      have ev : v = .bl k := (show DV κ H3 _ v (.bl k) from f.tr).bl_inv
      have c3 := c2.same f.same
      refine ⟨k, ev, ?_⟩
      cases k with
      | false => exact o2 (.bl false, []) _ (c3.fin (.here (.bl false)))
      | true =>
        rw [if_pos rfl]
        rw [if_pos rfl] at o2
        refine c3.bind o2 fun S4 H4 v4 q4 p4 o4 => ?_
        have c4 := c3.step p4
        have w2 : RvR κ H4 (AvS (Bx (Bx (Bx B q1 v1) q2 v2) q4 v4) S4 σ) σ v2 q2 := (p2.rv.same f.same).later (fun a z => .inr z) c3.good p4
        split at o4
        · rename_i db' dc e4 e5
          split at o4
          · rename_i t e6
            obtain ⟨t4, h4, u4⟩ := RvR.view c4.good w2 e4
            obtain ⟨t5, h5, u5⟩ := RvR.view c4.good p4.rv e5
            exact hv' H4 Q _ v2.1 v4.1 t4 t5 t (fun p hp => c4.good.avTrk hp) h4 h5 (by rw [u4, u5]; exact e6) fun v H5 f => o4 (v, []) H5 (c4.fin f)
          · exact o4.elim
        · exact o4.elim
    · exact o2.elim
  · exact o2.elim
end
section
variable {X : Cx} {κ : Kt} {W : WX} {a b c : Expr} {fa fb fc : M Rv} {pos : Pos} {op op' : CmpOp} {r r' : R2} {g g' : D → D → Option T}
theorem de_chain (ho : OpR X (compareOp op) r) (hv : VOp2 κ r g) (ho' : OpR X (compareOp op') r') (hv' : VOp2 κ r' g') (ha : PE X a (tE κ W fa)) (hb : PE X b (tE κ W fb)) (hc : PE X c (tE κ W fc))
    (hm : lastMarks [op, op'] [b, c] = false := by with_unfolding_all rfl) : PE X (.Compare a [op, op'] [b, c] pos) (tE κ W (eChain g g' fa fb fc)) := (pe_chain ho ho' ha hb hc hm).weak fun σ H Q h => chain_red hv hv' h
theorem dt_chain (ho : OpR X (compareOp op) r) (hv : VOp2 κ r g) (ho' : OpR X (compareOp op') r') (hv' : VOp2 κ r' g') (ha : PE X a (tE κ W fa)) (hb : PE X b (tE κ W fb)) (hc : PE X c (tE κ W fc))
    (hm : lastMarks [op, op'] [b, c] = false := by with_unfolding_all rfl) : PT X (.Compare a [op, op'] [b, c] pos) (tT κ W (bOf (eChain g g' fa fb fc))) := (pt_chain ho ho' ha hb hc hm).weak fun σ H Q h => chain_red hv hv' (bOf_red h)
end
def OutO (κ : Kt) (W : WX) (B : Addr → Prop) (σ : Sg) (H : Hp) (S : En) (Q : Option Int → Hp → Prop) : Res (Option Int) → Prop
  | .ok o S' => ∀ H', PostB κ B σ H S H' S' → Q o H'
  | .exc x S' => ∀ d H', PostX κ B σ H S H' S' x d → W (.ref (κ.cA x.c)) (some d) (unG σ) H'
  | .stuck => False
def tO (κ : Kt) (W : WX) (f : M (Option Int)) : TO := fun σ H Q => ∃ (B : Addr → Prop) (S : En) (τ : Sg), unG τ = σ ∧ Good κ B H τ S ∧ OutO κ W B τ H S Q (f S)
theorem _root_.L2.PO.weak {X : Cx} {e : Option Expr} {t t' : TO} (h : PO X e t) (k : ∀ σ H Q, t' σ H Q → t σ H Q) : PO X e t' := ⟨fun pins s σ H Q I q => h.run pins s σ H Q I (k σ H Q q)⟩
def partOf : Option (M Rv) → M (Option Int)
  | none => M.ret none
  | some f => M.bind f fun r S => match viewR r S with
    | some (.int i) => .ok (some i) S
    | _ => .stuck
theorem do_none {X : Cx} {κ : Kt} {W : WX} : PO X none (tO κ W (partOf none)) := po_none.weak fun σ H Q ⟨B, S, τ, ec, g, o⟩ => ec ▸ o H ((Chain.refl g).postB)
theorem do_some {X : Cx} {κ : Kt} {W : WX} {e : Expr} {f : M Rv} (he : PE X e (tE κ W f)) : PO X (some e) (tO κ W (partOf (some f))) := (po_some he).weak fun σ H Q ⟨B, S, τ, ec, g, o⟩ => by
  subst ec
  refine tE_iff.mpr ⟨B, S, τ, rfl, g, ?_⟩
  cases e : f S with
  | ok r S1 =>
    intro v H1 p
    cases ev : viewR r S1 with
    | none => simp only [partOf, M.bind, e, ev, OutO] at o
    | some d =>
      cases d with
      | int i =>
        simp only [partOf, M.bind, e, ev, OutO] at o
        obtain ⟨t, h1, h2⟩ := RvR.view p.good p.rv ev
        exact ⟨i, h1.int h2, o H1 ((Chain.refl g).step p).postB⟩
      | _ => simp only [partOf, M.bind, e, ev, OutO] at o
  | exc x S1 => simp only [partOf, M.bind, e, OutO] at o ⊢; exact o
  | stuck => exact (show OutO κ W B τ H S Q .stuck by simpa only [partOf, M.bind, e] using o).elim
def cutD {α : Type} (xs : List α) (lo hi : Option Int) : List α := (xs.drop (HT.sIx xs.length 0 lo)).take (HT.sIx xs.length xs.length hi - HT.sIx xs.length 0 lo)
def sliceD (lo hi : Option Int) : D → Option T
  | .lst ds => some (.lst (cutD ds lo hi))
  | .scr ds => some (.lst (cutD ds lo hi))
  | .tup ds => some (.fr (.tup (cutD ds lo hi)))
  | .ktup ds => if HT.sIx ds.length 0 lo = 0 ∧ HT.sIx ds.length ds.length hi = ds.length then some (.fr (.ktup ds)) else some (.fr (.tup (cutD ds lo hi)))
  | .str z => if z.length ≤ sizeLine then some (.fr (.str (cutS z lo hi))) else none
  | _ => none
def eSl (fa : M Rv) (lo hi : Option (M Rv)) : M Rv := M.bind fa fun ra => M.bind (partOf lo) fun l => M.bind (partOf hi) fun u S => match viewR ra S with
  | some d => match sliceD l u d with
    | some t => .ok (.tmp t) S
    | none => .stuck
  | none => .stuck
def rSlD (K : PySem.W.Frag) : V → Option Int → Option Int → Hp → VK → Prop := fun x lo hi H Q => rSlL K x lo hi H Q ∨ rSlA K x lo hi H Q ∨ rSlS x lo hi H Q
theorem sl_D {X : Cx} : SlR X (rSlD X.K) := sl_list.or (sl_tupA.or sl_str)
section
variable {κ : Kt} {W : WX} {B B1 : Addr → Prop} {σ : Sg} {H H1 H2 : Hp} {S S1 : En} {v : G} {r : Rv} {Q : VK} {fa : M Rv} {lo hi : Option (M Rv)} {vs : List V} {ds : List D} {Av : Addr → Prop}
theorem DVs.cut (h : DVs κ H Av vs ds) (l u : Option Int) : DVs κ H Av (cutV vs l u) (cutD ds l u) := by
  unfold cutV cutD
  rw [h.length]
  exact (h.drop _).take _
theorem cut_whole {α : Type} {xs : List α} {l u : Option Int} (h : HT.sIx xs.length 0 l = 0 ∧ HT.sIx xs.length xs.length u = xs.length) : cutD xs l u = xs := by
  unfold cutD
  rw [h.1, h.2]
  simp
theorem v_slice {x : V} {tx t : T} {l u : Option Int} (hA : ∀ p, H p = none → ¬ Av p) (h : TR κ H Av x tx) (e : sliceD l u tx.view = some t) (k : ∀ v H', Fresh κ Av H H' v t → Q v H') : rSlD κ.K x l u H Q := by
  cases ev : tx.view with
  | lst ds =>
    rw [ev] at e; cases e
    obtain ⟨a, xs, rfl, h1, h2⟩ := h.lst ev
    exact .inl ⟨a, xs, rfl, .of h1, fun p hp => k _ _ (.lst hp (h2.cut l u))⟩
  | scr ds =>
    rw [ev] at e; cases e
    obtain ⟨a, o, xs, rfl, h1, h2⟩ := h.scr ev
    exact .inl ⟨a, xs, rfl, .inl (.inr ⟨o, h1⟩), fun p hp => k _ _ (.lst hp (h2.cut l u))⟩
  | tup ds =>
    rw [ev] at e; cases e
    obtain ⟨a, xs, rfl, h1, h2, h3⟩ := h.tup ev
    refine .inr (.inl ⟨a, xs, rfl, h1, fun w => ?_, fun w p hp => k _ _ (.tup hp (hA p hp) (h2.cut l u))⟩)
    rw [h2.length] at w
    rw [cut_whole w] at k
    exact k _ H (.here h3)
  | ktup ds =>
    rw [ev] at e
    cases tx with
    | fr d =>
      cases ev
      cases (show DV κ H Av x (.ktup ds) from h) with
      | ktup h1 h2 =>
        unfold sliceD at e
        dsimp only [T.view] at e
        split at e
        · rename_i w
          cases e
          refine .inr (.inl ⟨_, _, rfl, h1.sq, fun _ => k _ H (.here (.ktup h1 h2)), fun w' => ?_⟩)
          rw [h2.length] at w'
          exact absurd w w'
        · rename_i w
          cases e
          refine .inr (.inl ⟨_, _, rfl, h1.sq, fun w' => ?_, fun w' p hp => k _ _ (.tup hp (hA p hp) (h2.cut l u))⟩)
          rw [h2.length] at w'
          exact absurd w' w
    | _ => cases ev
  | str z =>
    rw [ev] at e
    unfold sliceD at e
    dsimp only at e
    split at e
    · rename_i hz
      cases e
      exact .inr (.inr ⟨z, h.str ev, hz, k _ H (.here (.str _))⟩)
    · cases e
  | _ => rw [ev] at e; cases e
theorem Chain.bindO {QO : Option Int → Hp → Prop} {f : M (Option Int)} {k : Option Int → M Rv} (c : Chain κ B σ H S B1 H1 S1) (o : Out κ W B σ H S Q (M.bind f k S1))
    (hk : ∀ S2 H2 l, PostB κ B1 σ H1 S1 H2 S2 → Out κ W B σ H S Q (k l S2) → QO l H2) : tO κ W f (unG σ) H1 QO := by
  refine ⟨B1, S1, σ, rfl, c.good, ?_⟩
  unfold M.bind at o
  cases e : f S1 with
  | ok l S2 => rw [e] at o; exact fun H2 p => hk S2 H2 l p o
  | exc x S2 => rw [e] at o; exact fun d H2 p => o d H2 (c.postX p)
  | stuck => rw [e] at o; exact o
theorem PostB.rv {A : Addr → Prop} {S2 : En} (p : PostB κ B1 σ H1 S1 H2 S2) (g : Good κ B1 H1 σ S1) (h : RvR κ H1 (AvS B1 S1 σ) σ v r) (hB : ∀ a, TmpAt r v a → B1 a) : RvR κ H2 (AvS B1 S2 σ) σ v r :=
  RvR.later' h hB g p.keep p.sub fun b z => .inl z
theorem slice_red {ς : L2.St} (h : tE κ W (eSl fa lo hi) ς H Q) : tE κ W fa ς H fun x H1 => tO κ W (partOf lo) ς H1 fun l H2 => tO κ W (partOf hi) ς H2 fun u H3 => rSlD κ.K x l u H3 Q := by
  obtain ⟨B, S, τ, rfl, g0, o⟩ := tE_iff.mp h
  refine (Chain.refl g0).bind o fun S1 H1 v1 q1 p1 o1 => ?_
  have c1 := (Chain.refl g0).step p1
  refine c1.bindO o1 fun S2 H2 l p2 o2 => ?_
  have c2 := c1.stepB p2
  refine c2.bindO o2 fun S3 H3 u p3 o3 => ?_
  have c3 := c2.stepB p3
  have w1 := p2.rv (A := B) p1.good p1.rv fun a z => .inr z
  have w2 := p3.rv (A := B) c2.good w1 fun a z => .inr z
  split at o3
  · rename_i d e1
    split at o3
    · rename_i t e2
      obtain ⟨t1, h1, u1⟩ := RvR.view c3.good w2 e1
      exact v_slice (fun p hp => c3.good.avTrk hp) h1 (by rw [u1]; exact e2) fun v H4 f => o3 (v, []) H4 (c3.fin f)
    · exact o3.elim
  · exact o3.elim
end
theorem de_sl {X : Cx} {κ : Kt} {W : WX} {e : Expr} {fa : M Rv} {lo hi : Option Expr} {fl fh : Option (M Rv)} {pos p2 : Pos} (hk : X.K = κ.K) (he : PE X e (tE κ W fa)) (hl : PO X lo (tO κ W (partOf fl))) (hh : PO X hi (tO κ W (partOf fh))) :
    PE X (.Subscript e (.Slice lo hi none p2) pos) (tE κ W (eSl fa fl fh)) := (pe_slice sl_D he hl hh).weak fun σ H Q h => by rw [hk]; exact slice_red h
def noX (F : FD) : FD := fun ts => match F ts with
  | .exc _ _ => .stuck
  | r => r
theorem spD_noX {κ : Kt} {F : FD} {vs : List V} {H : Hp} {Q : VK} {E E' : XK} (h : spD κ (noX F) vs H Q E) : spD κ F vs H Q E' := by
  obtain ⟨B, ts, gs, ev, g, o⟩ := h
  refine ⟨B, ts, gs, ev, g, ?_⟩
  unfold noX at o
  cases e : F ts with
  | ret t us => rw [e] at o; exact o
  | exc x us => rw [e] at o; exact o.elim
  | stuck => rw [e] at o; exact o
structure PropOk (P : Program) (w : World) (K : PySem.W.Frag) (mg : Str → Option Value) (base : Heap) (CX : CXT) (k : Nat) (κ : Kt) (c : Nat) (m : Str) (F : FD) : Prop where
  ex : ∃ (p g : Addr) (fd : FuncData) (ps : List Str), PropOf K (κ.cA c) m p g ∧ Binds K fd ps [] ∧ FnOk P w K mg base CX k g fd ps (spD κ F)
end DL

set_option Elab.async false
set_option linter.all false
namespace DL
open PySem L2
section
variable {κ : Kt} {W : WX} {B B' : Addr → Prop} {σ : Sg} {H H1 Hi H' : Hp} {Q : VK} {S1 Si S2 : En} {vs : List Nat} {fi : M (List D)} {gt : TG} {gd : D → En → Option En} {c : M Bool} {e : M Rv} {n : Nat} {x : V} {d : D} {ds ai acc : List D} {av : List V} {D : Addr}
structure CompJ (κ : Kt) (B' : Addr → Prop) (σ : Sg) (H1 : Hp) (S1 : En) (vs : List Nat) (D : Addr) (Hi : Hp) (Si : En) (av : List V) (ai : List DL.D) : Prop where
  good : Good κ B' Hi (wipeG σ vs) Si
  keep : ∀ b o, b ≠ D → H1 b = some o → ¬ OwnAt S1 σ b → Hi b = some o
  own : ∀ a, OwnAt Si (wipeG σ vs) a → OwnAt S1 σ a
  at_ : Hi D = some (.lst av)
  dvs : DVs κ Hi (AvS B' Si (wipeG σ vs)) av ai
end
section
variable {κ : Kt} {W : WX} {B B' : Addr → Prop} {σ : Sg} {H : Hp} {Q : VK} {vs vs1 : List Nat} {fi fi1 : M (List D)} {gt gt1 : TG} {gd gd1 : D → En → Option En} {c c1 : M Bool} {e : M Rv} {n : Nat}
end
section
variable {X : Cx} {κ : Kt} {W : WX} {fi fi1 : M (List D)} {gt gt1 : TG} {gd gd1 : D → En → Option En} {fc fc1 : M Bool} {fe : M Rv} {elt tg iter tg1 iter1 : Expr} {ifs ifs1 : List Expr} {scope : Scope} {own : List (Str × Nat)} {pos spos py : Pos} {fx : Nat → Bool} {i : Nat} {y : Str} {vs1 : List Nat}
end
def setAll : List Nat → List T → En → Option En
  | [], [], S => some S
  | i :: is, t :: ts, S => setAll is ts (S.set i (some t))
  | _, _, _ => none
def sParN (is : List Nat) (fs : M (List Rv)) : MS := eParts fs fun ts S => if ts.length ≤ sizeLine then match setAll is ts S with
  | some S' => .nx S'
  | none => .stuck
  else .stuck
def gNames : List Nat → TGs
  | [] => gNil
  | i :: is => gCons (gName i) (gNames is)
section
variable {κ : Kt} {B : Addr → Prop} {fx : Nat → Bool} {σ σ1 : Sg} {H H1 : Hp} {S S1 S2 : En}
theorem setAll_ok : ∀ {is : List Nat} {ts : List T} {vs : List G} {σ1 : Sg} {S1 S2 : En} {Q : L2.St → Hp → Prop}, (∀ i ∈ is, fx i = false ∧ i < σ1.length) → Stored κ B fx σ H S H1 σ1 S1 vs (ts.map .tmp) → setAll is ts S1 = some S2 →
    (∀ σ', PostS κ B fx σ H S σ' H1 S2 → Q (unG σ') H1) → gNames is (vsV vs) (unG σ1) H1 Q
  | [], [], vs, σ1, S1, S2, Q, _, p, e, k => by
    cases e
    have hl : vs.length = 0 := by simpa using Paired.lenR p.rv
    have : vs = [] := List.length_eq_zero_iff.mp hl
    subst this
    exact ⟨rfl, k _ p.fin⟩
  | i :: is, t :: ts, vs, σ1, S1, S2, Q, hi, p, e, k => by
    cases vs with
    | nil => have := Paired.lenR p.rv; simp at this
    | cons v vs =>
      refine ⟨v.1, vsV vs, rfl, ?_⟩
      have h1 := hi i (by simp)
      show gNames is (vsV vs) ((unG σ1).set i (some v.1)) H1 Q
      rw [← unG_set]
      exact setAll_ok (fun j hj => by rw [List.length_set]; exact hi j (by simp [hj])) (p.put (i := i) (by rw [p.good.len]; exact h1.2) h1.1) e k
  | [], _ :: _, _, _, _, _, _, _, _, e, _ => by cases e
  | _ :: _, [], _, _, _, _, _, _, _, e, _ => by cases e
theorem Stored.same {vs : List G} {rs : List Rv} {H2 : Hp} (p : Stored κ B fx σ H S H1 σ1 S1 vs rs) (s : Same H1 H2) : Stored κ B fx σ H S H2 σ1 S1 vs rs :=
  ⟨p.slen, fun b o e n => s b o (p.keep b o e n), p.own, p.fix, p.tnew, p.tB, p.dist, p.good.same s, Paired.mapP p.rv fun v r h => h.same s⟩
end
theorem ds_parN {X : Cx} {κ : Kt} {W : WX} {fx : Nat → Bool} {es tgs : List Expr} {fs : M (List Rv)} {is : List Nat} {pos pt p2 : Pos} {kt k2 : Nat} (ha : PA X es (tA κ W fs)) (hc : X.calm = true) (hg : PGs X tgs (gNames is)) (hi : ∀ i ∈ is, fx i = false ∧ i < X.N.length)
    (hn : (assignEach tgs X.env).length = is.length := by rfl) (hst : (assignEach tgs X.env).findIdx? (·.1) = none := by rfl)
    (hs : swapsWithSole [.Tuple tgs kt pt] (.Tuple es k2 p2) pos.line X.env = pure false := by rfl) (hw : swappedStores [.Tuple tgs kt pt] (.Tuple es k2 p2) X.env = pure none := by rfl)
    (h1 : (assignEach [.Tuple tgs kt pt] X.env).map (·.2) = [assign (.Tuple tgs kt pt) X.env] := by rfl) : PS X (.Assign [.Tuple tgs kt pt] (.Tuple es k2 p2) pos) (tS κ W fx (sParN is fs)) := ⟨fun pins s σ H D I ⟨B, S, τ, ec, g, o⟩ => by
  subst ec
  refine (ps_asg (pe_tup ha) (pg_tup (n := is.length) hc hg hn hst) hs hw h1).run pins s _ H D I (tA_rest g o fun vs H' ts S' p o => ?_)
  split at o
  · rename_i hz
    split at o
    · rename_i S2 e2
      have hl := p.lens
      rw [List.length_map] at hl
      refine ⟨by rw [vsV_len, hl]; exact hz, fun q hq => ?_⟩
      have len : ∀ {is : List Nat} {ts : List T} {S S2 : En}, setAll is ts S = some S2 → is.length = ts.length := by
        intro is
        induction is with
        | nil => intro ts S S2 e; cases ts with
          | nil => rfl
          | cons _ _ => cases e
        | cons i is ih => intro ts S S2 e; cases ts with
          | nil => cases e
          | cons t ts => exact congrArg (· + 1) (ih e)
      refine ⟨q, vsV vs, rfl, .of upd_same, by rw [vsV_len, hl, len e2], ?_⟩
      exact setAll_ok (fun i h => ⟨(hi i h).1, by rw [← unG_len, I.len]; exact (hi i h).2⟩) ((p.stored (fx := fx)).same (Same.upd hq)) e2 fun σ' pp => o σ' _ pp
    · exact o.elim
  · exact o.elim⟩
end DL

set_option Elab.async false
set_option linter.all false
set_option maxRecDepth 100000
namespace L2
open PySem PySem.Spec PyProof.Rows
section
variable {prog : Program} {w : World} {A : Around} {R : Result → Shared → Prop} {s : Shared} {kx vx t0 i0 t1 i1 : Expr} {ifs0 ifs1 : List Expr} {scope : Scope} {pos : Pos} {it : Value} {acc : Addr} {env : Env}
end
section
variable {X : Cx}
end
end L2

set_option Elab.async false
set_option linter.all false
namespace DL
open PySem L2
section
variable {κ : Kt} {W : WX} {B B' : Addr → Prop} {σ : Sg} {H H1 Hi H' : Hp} {Q : VK} {S1 Si S2 : En} {vs : List Nat} {fi : M (List D)} {gt : TG} {gd : D → En → Option En} {c : M Bool} {ek e : M Rv} {n : Nat} {x : V} {d : D} {ds : List D} {ai acc : List Kx × List D} {av : List (Key × V)} {D : Addr}
structure CompK (κ : Kt) (B' : Addr → Prop) (σ : Sg) (H1 : Hp) (S1 : En) (vs : List Nat) (D : Addr) (Hi : Hp) (Si : En) (av : List (Key × V)) (ai : List Kx × List DL.D) : Prop where
  good : Good κ B' Hi (wipeG σ vs) Si
  keep : ∀ b o, b ≠ D → H1 b = some o → ¬ OwnAt S1 σ b → Hi b = some o
  own : ∀ a, OwnAt Si (wipeG σ vs) a → OwnAt S1 σ a
  at_ : Hi D = some (.dK av)
  ks : ai.1 = av.map fun p => Kx.k p.1
  dvs : DVs κ Hi (AvS B' Si (wipeG σ vs)) (av.map (·.2)) ai.2
end
section
variable {κ : Kt} {W : WX} {B B' : Addr → Prop} {σ : Sg} {H : Hp} {Q : VK} {vs vs1 : List Nat} {fi fi1 : M (List D)} {gt gt1 : TG} {gd gd1 : D → En → Option En} {c c1 : M Bool} {ek e : M Rv} {n : Nat}
end
section
variable {X : Cx} {κ : Kt} {W : WX} {fi fi1 : M (List D)} {gt gt1 : TG} {gd gd1 : D → En → Option En} {fc fc1 : M Bool} {fk fe : M Rv} {kx vx tg iter tg1 iter1 : Expr} {ifs ifs1 : List Expr} {scope : Scope} {own : List (Str × Nat)} {pos spos py : Pos} {fx : Nat → Bool} {i : Nat} {y : Str} {vs1 : List Nat}
end
end DL

set_option Elab.async false
set_option linter.all false
set_option maxRecDepth 100000
set_option maxHeartbeats 4000000
namespace L2
open PySem PySem.Spec PyProof.Rows
theorem tuple_mulS (l : Addr) (items : Array Value) (n : Nat) (sl : Array (Option Value)) (dd : Option Addr) (x : Int) (u : Tok) (c0 : (decide (x < -(2 ^ 63)) || decide (x ≥ 2 ^ 63)) = false) (c1 : (items.isEmpty || x == 1) = true) :
    Meets (Builtin.«tuple.__mul__» ⟨[.ref l, .int x u], []⟩) (fun _ R s => s.heap.get? l = some { cls := .type "tuple", dict := dd, data := .seq items n, slots := sl } ∧ R (.ok (.ret (Value.ref l))) s) :=
  .of_wp fun prog w A R s h => by
    obtain ⟨hp, g, d, tk, os⟩ := s
    obtain ⟨hl, h⟩ := h
    have f1 := AutoSeq1.idx_int
    wp_walk using wpAny_loadPart' hl
    repeat (first
      | (refine wpAny_ite_false (decide_eq_false (by rw [c0]; exact Bool.false_ne_true)) ?_; wp_walk using wpAny_loadPart' hl)
      | (refine wpAny_ite_true (decide_eq_true c1) ?_; wp_walk using wpAny_loadPart' hl))
    exact ⟨_, rfl, h⟩
theorem tuple_mul0 (l : Addr) (items : Array Value) (n : Nat) (sl : Array (Option Value)) (dd : Option Addr) (x : Int) (u : Tok) (c0 : (decide (x < -(2 ^ 63)) || decide (x ≥ 2 ^ 63)) = false) (c1 : (items.isEmpty || x == 1) = false) (c2 : (decide (x ≤ 0) || items.isEmpty) = true) :
    Meets (Builtin.«tuple.__mul__» ⟨[.ref l, .int x u], []⟩) (fun _ R s => s.heap.get? l = some { cls := .type "tuple", dict := dd, data := .seq items n, slots := sl } ∧
      R (.ok (.ret (Value.ref s.heap.objs.size))) { s with heap := s.heap.push { cls := Value.type "tuple", data := Data.seq #[] }, toks := s.toks }) :=
  .of_wp fun prog w A R s h => by
    obtain ⟨hp, g, d, tk, os⟩ := s
    obtain ⟨hl, h⟩ := h
    have f1 := AutoSeq1.idx_int
    wp_walk using wpAny_loadPart' hl
    repeat (first
      | (refine wpAny_ite_false (decide_eq_false (by rw [c0]; exact Bool.false_ne_true)) ?_; wp_walk using wpAny_loadPart' hl)
      | (refine wpAny_ite_false (decide_eq_false (by rw [c1]; exact Bool.false_ne_true)) ?_; wp_walk using wpAny_loadPart' hl)
      | (refine wpAny_ite_true (decide_eq_true c2) ?_; wp_walk using wpAny_loadPart' hl))
    exact ⟨_, rfl, h⟩
def rRepA (K : PySem.W.Frag) : R2 := fun x y H Q => ∃ l k xs, x = .ref l ∧ y = .int k ∧ SqT K H l xs ∧ -(2 ^ 63) ≤ k ∧ k < 2 ^ 63 ∧ (xs = [] ∨ k = 1 → Q (.ref l) H) ∧ (¬ (xs = [] ∨ k = 1) → k ≤ 0 → ∀ p, H p = none → Q (.ref p) (upd H p (.tup []))) ∧
  (¬ (xs = [] ∨ k = 1) → ¬ k ≤ 0 → k ≤ 1000 ∧ xs.length ≤ 1000 ∧ ∀ p, H p = none → Q (.ref p) (upd H p (.tup (List.replicate k.toNat xs).flatten)))
section
variable {X : Cx}
theorem op_repA : OpR X (binaryOp .Mult) (rRepA X.K) := by
  intro pins s σ H x y v u Q I rx ry h
  obtain ⟨l, k, xs, rfl, rfl, hT, h1, h2, q1, q0, qn⟩ := h
  by_cases hw : xs = [] ∨ k = 1
  · cases rx
    obtain ⟨t, rfl⟩ := ry
    obtain ⟨its, r, ⟨⟨cls, dd, data, sl⟩, ho, hc, n, hd⟩, hs⟩ := I.tuple hT
    simp only at hc hd
    subst hc hd
    have c0 : (decide (k < -(2 ^ 63)) || decide (k ≥ 2 ^ 63)) = false := by
      rw [decide_eq_false (by omega), decide_eq_false (by omega)] <;> rfl
    have c1 : (its.toArray.isEmpty || k == 1) = true := by
      rcases hw with e | e
      · subst e
        cases r
        rfl
      · subst e; simp
    exact wpAny_binaryOp_repeat_ref (T := "tuple") (U := "int") (by decide) ⟨_, ho, rfl⟩ (fun s' => typeIs_int s' k t) noFill_tuple_mul F.fills_int_mul F.slot_int_rmul repeat_tuple F.slot_int_index.lookup
      (call_meets F.slot_int_rmul (typeIs_int s k t) F.entry_int_rmul (F.args_int_rmul_2 _ _) (int_rmul_tuple k t l its.toArray n dd sl)
        ⟨ho, rfl, ⟨_, ho, rfl⟩, call_meets F.slot_tuple_mul ⟨_, ho, rfl⟩ F.entry_tuple_mul (F.args_tuple_mul_2 _ _) (tuple_mulS l its.toArray n sl dd k t c0 c1) ⟨ho, ⟨.ref l, H, I, rfl, q1 hw⟩⟩⟩)
  · by_cases hk : k ≤ 0
    · cases rx
      obtain ⟨t, rfl⟩ := ry
      obtain ⟨its, r, ⟨⟨cls, dd, data, sl⟩, ho, hc, n, hd⟩, hs⟩ := I.tuple hT
      simp only at hc hd
      subst hc hd
      have c0 : (decide (k < -(2 ^ 63)) || decide (k ≥ 2 ^ 63)) = false := by
        rw [decide_eq_false (by omega), decide_eq_false (by omega)] <;> rfl
      have hi : its.toArray.isEmpty = false := by
        cases its with
        | nil => cases r; exact absurd (.inl rfl) hw
        | cons a b => rfl
      have c1 : (its.toArray.isEmpty || k == 1) = false := by
        rw [hi, Bool.false_or]
        exact beq_eq_false_iff_ne.mpr fun e => hw (.inr e)
      have c2 : (decide (k ≤ 0) || its.toArray.isEmpty) = true := by
        rw [decide_eq_true hk]; rfl
      refine wpAny_binaryOp_repeat_ref (T := "tuple") (U := "int") (by decide) ⟨_, ho, rfl⟩ (fun s' => typeIs_int s' k t) noFill_tuple_mul F.fills_int_mul F.slot_int_rmul repeat_tuple F.slot_int_index.lookup
        (call_meets F.slot_int_rmul (typeIs_int s k t) F.entry_int_rmul (F.args_int_rmul_2 _ _) (int_rmul_tuple k t l its.toArray n dd sl)
          ⟨ho, rfl, ⟨_, ho, rfl⟩, call_meets F.slot_tuple_mul ⟨_, ho, rfl⟩ F.entry_tuple_mul (F.args_tuple_mul_2 _ _) (tuple_mul0 l its.toArray n sl dd k t c0 c1 c2) ⟨ho, ?_⟩⟩)
      refine ⟨.ref s.heap.objs.size, _, I.laid (t' := s.toks) (o := .tup []) (fun b ob q => Heap.get?_push_of_some _ q) (Nat.le_refl _) ?_, rfl, q0 hw hk _ (I.hok.fresh (Nat.le_refl _))⟩
      exact ⟨Nat.zero_le _, [], .nil, IsTup.new _ _⟩
    · obtain ⟨z1, z2, z3⟩ := qn hw hk
      exact op_repT pins s σ H _ _ v u Q I rx ry ⟨l, k, xs, rfl, rfl, hT, fun e => hw (.inl e), by have : k ≠ 1 := fun e => hw (.inr e); omega, z1, z2, z3⟩
end
end L2
namespace DL
open PySem L2
def mul2D : D → D → Option T
  | .tup ds, .int k => if -(2 ^ 63) ≤ k ∧ k < 2 ^ 63 then
      if ds.isEmpty = true ∨ k = 1 then some (.fr (.tup ds)) else if k ≤ 0 then some (.fr (.tup [])) else if k ≤ 1000 ∧ ds.length ≤ 1000 then some (.fr (.tup (List.replicate k.toNat ds).flatten)) else none
    else none
  | x, y => mulD x y
def rMul2 (K : PySem.W.Frag) : R2 := fun x y H Q => rMulD x y H Q ∨ rRepA K x y H Q
theorem op_mul2 {X : Cx} : OpR X (binaryOp .Mult) (rMul2 X.K) := OpR.or op_mulD op_repA
theorem DVs.rep {κ : Kt} {H : Hp} {Av : Addr → Prop} {vs : List V} {ds : List D} (h : DVs κ H Av vs ds) : ∀ n : Nat, DVs κ H Av (List.replicate n vs).flatten (List.replicate n ds).flatten
  | 0 => .nil
  | n + 1 => by
    rw [List.replicate_succ, List.replicate_succ, List.flatten_cons, List.flatten_cons]
    exact h.app (DVs.rep h n)
theorem v_mul2 {κ : Kt} : VOp2 κ (rMul2 κ.K) mul2D := by
  intro H Q Av x y tx ty t hA hx hy e k
  unfold mul2D at e
  split at e
  · rename_i ds n e1 e2
    have ey := hy.int e2
    obtain ⟨a, xs, rfl, h1, h2, h3⟩ := hx.tup e1
    have hl := h2.length
    have hem : ds.isEmpty = true ↔ xs = [] := by
      rw [List.isEmpty_iff]
      constructor
      · intro z; subst z; cases h2; rfl
      · intro z; subst z; cases h2; rfl
    split at e
    · rename_i hb
      refine .inr ⟨a, n, xs, rfl, ey, h1, hb.1, hb.2, fun w => ?_, fun w w2 p hp => ?_, fun w w2 => ?_⟩
      · rw [if_pos (w.imp hem.mpr id)] at e
        cases e
        exact k _ H (.here h3)
      · rw [if_neg (fun z => w (z.imp hem.mp id)), if_pos w2] at e
        cases e
        exact k _ _ (.tup hp (hA p hp) .nil)
      · rw [if_neg (fun z => w (z.imp hem.mp id)), if_neg w2] at e
        split at e
        · rename_i hz
          cases e
          exact ⟨hz.1, by rw [hl]; exact hz.2, fun p hp => k _ _ (.tup hp (hA p hp) (h2.rep _))⟩
        · cases e
    · cases e
  · exact .inl (v_mul H Q Av x y tx ty t hA hx hy e k)
section
variable {κ : Kt} {W : WX} {B : Addr → Prop} {σ : Sg} {H H1 H2 : Hp} {S S1 S2 : En} {vs ws : List G} {rs : List Rv} {ds : List D} {f : M Rv} {fs : M (List Rv)}
end
end DL

set_option Elab.async false
set_option linter.all false
set_option maxRecDepth 100000
set_option maxHeartbeats 3200000
namespace L2
open PySem PySem.Spec PyProof.Rows
open DL (hasK)
section
variable {prog : Program} {w : World} {A : Around} {E : Value → Shared → Prop} {s : Shared}
end
end L2

set_option Elab.async false
set_option linter.all false
namespace DL
open PySem PySem.Spec PyProof.Rows L2
def rLenS (P : Program) (w : World) : List V → Hp → VK → Prop := fun xs H Q => ∃ a S n, xs = [.ref a] ∧ H a = some (SetK P w a S n) ∧ n ≤ 4000 ∧ Q (.int (n : Nat)) H
theorem cr_lenS {X : Cx} : CallR X (.builtin "len") (rLenS X.prog X.w) := by
  intro pins s σ H xs us Q I r h
  obtain ⟨a, S, n, rfl, ha, hn, q⟩ := h
  obtain ⟨u, rfl, ru⟩ := vals1 r
  cases ru
  obtain ⟨o, es, ep, t, ho, hex, hd, _, _, _, hf, hl⟩ := setK_get I ha
  exact call_len_set ho hex hd hf (by rw [hl]; omega) ⟨.int (n : Nat), H, I.tok _, ⟨_, by rw [hl]⟩, q⟩
def len2D : List D → Option T
  | [.set ks] => if ks.length ≤ 4000 then some (.fr (.int ks.length)) else none
  | ds => lenD ds
theorem TR.setv {κ : Kt} {H : Hp} {Av : Addr → Prop} {v : V} {t : T} {ks : List Key} (h : TR κ H Av v t) (e : t.view = .set ks) : ∃ a, v = .ref a ∧ H a = some (SetK κ.P κ.w a (hasK ks) ks.length) := by
  cases t with
  | fr d =>
    cases e
    cases (show DV κ H Av v (.set ks) from h) with
    | set h1 h2 => exact ⟨_, rfl, h1⟩
  | _ => cases e
theorem v_len2 {κ : Kt} : VOpL κ (fun xs H Q => rLenD κ.K xs H Q ∨ rLenS κ.P κ.w xs H Q) len2D := by
  intro H Q Av vs ts t hA h e k
  unfold len2D at e
  split at e
  · rename_i ks e1
    split at e
    · rename_i hl
      cases e
      obtain ⟨v, t1, rfl, h1, h2⟩ := one_arg h e1
      obtain ⟨a, rfl, g1⟩ := h1.setv h2
      exact .inr ⟨a, _, _, rfl, g1, hl, k _ H (.here (.int _))⟩
    · cases e
  · exact .inl (v_len H Q Av vs ts t hA h e k)
theorem c_len2 {X : Cx} : CallR X (.builtin "len") (fun xs H Q => rLenD X.K xs H Q ∨ rLenS X.prog X.w xs H Q) := c_len.or cr_lenS
def leS (x y : Str) : Bool := !ltCps y.cps.toList x.cps.toList
theorem lt_irr : ∀ a : List Nat, ltCps a a = false
  | [] => rfl
  | x :: r => by unfold ltCps; simp [lt_irr r]
theorem lt_tri : ∀ a b : List Nat, ltCps a b = false → ltCps b a = false → a = b
  | [], [], _, _ => rfl
  | [], _ :: _, h, _ => by cases h
  | _ :: _, [], _, h => by cases h
  | x :: r, y :: t, h1, h2 => by
    unfold ltCps at h1 h2
    simp only [Bool.or_eq_false_iff, Bool.and_eq_false_iff, decide_eq_false_iff_not, beq_eq_false_iff_ne, ne_eq] at h1 h2
    have e : x = y := by omega
    subst e
    have h3 : ltCps r t = false := h1.2.resolve_left fun z => z rfl
    have h4 : ltCps t r = false := h2.2.resolve_left fun z => z rfl
    rw [lt_tri r t h3 h4]
theorem lt_tr : ∀ a b c : List Nat, ltCps a b = true → ltCps b c = true → ltCps a c = true
  | [], [], _, h, _ => by cases h
  | [], _ :: _, [], _, h => by cases h
  | [], _ :: _, _ :: _, _, _ => rfl
  | _ :: _, [], _, h, _ => by cases h
  | _ :: _, _ :: _, [], _, h => by cases h
  | x :: r, y :: t, z :: u, h1, h2 => by
    unfold ltCps at h1 h2 ⊢
    simp only [Bool.or_eq_true, Bool.and_eq_true, decide_eq_true_eq, beq_iff_eq] at h1 h2 ⊢
    rcases h1 with h1 | ⟨rfl, h1⟩
    · rcases h2 with h2 | ⟨rfl, h2⟩
      · exact .inl (by omega)
      · exact .inl h1
    · rcases h2 with h2 | ⟨rfl, h2⟩
      · exact .inl h2
      · exact .inr ⟨rfl, lt_tr r t u h1 h2⟩
theorem leS_anti {x y : Str} (h1 : leS x y = true) (h2 : leS y x = true) : x = y := by
  unfold leS at h1 h2
  have := lt_tri x.cps.toList y.cps.toList (by simpa using h2) (by simpa using h1)
  cases x; cases y
  simp only at this
  congr
  exact Array.toList_inj.mp this
theorem leS_trans {x y z : Str} (h1 : leS x y = true) (h2 : leS y z = true) : leS x z = true := by
  unfold leS at *
  simp only [Bool.not_eq_true'] at *
  cases e : ltCps z.cps.toList x.cps.toList with
  | false => rfl
  | true =>
    by_cases q : ltCps x.cps.toList y.cps.toList = true
    · have := lt_tr _ _ _ e q; rw [h2] at this; cases this
    · have e2 := lt_tri _ _ (by simpa using q) h1
      rw [← e2] at h2
      rw [e] at h2; cases h2
theorem leS_total (x y : Str) : leS x y = true ∨ leS y x = true := by
  unfold leS
  cases e : ltCps y.cps.toList x.cps.toList with
  | false => exact .inl rfl
  | true =>
    refine .inr ?_
    cases q : ltCps x.cps.toList y.cps.toList with
    | false => rfl
    | true => have := lt_tr _ _ _ e q; rw [lt_irr] at this; cases this
def insS (x : Str) : List Str → List Str
  | [] => [x]
  | y :: ys => if leS x y = true then x :: y :: ys else y :: insS x ys
def srtS : List Str → List Str
  | [] => []
  | x :: xs => insS x (srtS xs)
theorem insS_perm (x : Str) : ∀ ys, (insS x ys).Perm (x :: ys)
  | [] => .refl _
  | y :: ys => by
    unfold insS
    split
    · exact .refl _
    · exact ((insS_perm x ys).cons y).trans (.swap x y ys)
theorem srtS_perm : ∀ xs, (srtS xs).Perm xs
  | [] => .refl _
  | x :: xs => (insS_perm x (srtS xs)).trans ((srtS_perm xs).cons x)
theorem insS_sorted (x : Str) : ∀ ys, ys.Pairwise (fun a b => leS a b = true) → (insS x ys).Pairwise fun a b => leS a b = true
  | [], _ => List.pairwise_singleton _ _
  | y :: ys, h => by
    unfold insS
    obtain ⟨h1, h2⟩ := List.pairwise_cons.mp h
    split
    · rename_i hxy
      exact List.pairwise_cons.mpr ⟨fun z hz => (List.mem_cons.mp hz).elim (fun e => e ▸ hxy) fun hz => leS_trans hxy (h1 z hz), h⟩
    · rename_i hxy
      have hyx := (leS_total x y).resolve_left hxy
      refine List.pairwise_cons.mpr ⟨fun z hz => ?_, insS_sorted x ys h2⟩
      rcases List.mem_cons.mp ((insS_perm x ys).mem_iff.mp hz) with e | e
      · exact e ▸ hyx
      · exact h1 z e
theorem srtS_sorted : ∀ xs, (srtS xs).Pairwise fun a b => leS a b = true
  | [] => .nil
  | x :: xs => insS_sorted x _ (srtS_sorted xs)
theorem sorted_unique : ∀ {ys zs : List Str}, ys.Perm zs → ys.Pairwise (fun a b => leS a b = true) → zs.Pairwise (fun a b => leS a b = true) → ys = zs
  | [], zs, h, _, _ => (List.nil_perm.mp h).symm ▸ rfl
  | y :: ys, [], h, _, _ => absurd (List.perm_nil.mp h) (by simp)
  | y :: ys, z :: zs, h, h1, h2 => by
    obtain ⟨a1, a2⟩ := List.pairwise_cons.mp h1
    obtain ⟨b1, b2⟩ := List.pairwise_cons.mp h2
    have e : y = z := by
      rcases List.mem_cons.mp (h.mem_iff.mp List.mem_cons_self) with q | q
      · exact q
      · rcases List.mem_cons.mp (h.mem_iff.mpr (List.mem_cons_self (a := z))) with q' | q'
        · exact q'.symm
        · exact leS_anti (a1 z q') (b1 y q)
    subst e
    rw [sorted_unique (List.perm_cons y |>.mp h) a2 b2]
theorem rising_pw : ∀ (p : Str) (l : List Str), risingS p l = true → (p :: l).Pairwise fun a b => leS a b = true
  | p, [], _ => List.pairwise_singleton _ _
  | p, x :: r, h => by
    unfold risingS at h
    rw [Bool.and_eq_true] at h
    have h1 : leS p x = true := h.1
    have h2 := rising_pw x r h.2
    refine List.pairwise_cons.mpr ⟨fun z hz => ?_, h2⟩
    rcases List.mem_cons.mp hz with e | e
    · exact e ▸ h1
    · exact leS_trans h1 ((List.pairwise_cons.mp h2).1 z e)
theorem sortedS_pw : ∀ l : List Str, sortedS l = true → l.Pairwise fun a b => leS a b = true
  | [], _ => .nil
  | x :: r, h => rising_pw x r h
theorem sorted_is {ys xs : List Str} (hp : ys.Perm xs) (hs : sortedS ys = true) : ys = srtS xs := sorted_unique (hp.trans (srtS_perm xs).symm) (sortedS_pw ys hs) (srtS_sorted xs)
def strsD : List D → Option (List Str)
  | [] => some []
  | .str x :: ds => (strsD ds).map (x :: ·)
  | _ => none
def strKs : List Kx → Option (List Str)
  | [] => some []
  | .k (.inr x) :: ks => (strKs ks).map (x :: ·)
  | _ => none
def sortedD : List D → Option T
  | [.lst ds] => match strsD ds with
    | some xs => if xs.length < 64 then some (.lst ((srtS xs).map .str)) else none
    | none => none
  | [.dct ks _] => match strKs ks with
    | some xs => if xs.length < 64 then some (.lst ((srtS xs).map .str)) else none
    | none => none
  | _ => none
theorem strsD_v {κ : Kt} {H : Hp} {Av : Addr → Prop} : ∀ {ds : List D} {vs : List V} {xs : List Str}, DVs κ H Av vs ds → strsD ds = some xs → vs = xs.map V.str
  | [], _, xs, .nil, e => by cases e; rfl
  | d :: ds, _, xs, .cons h hs, e => by
    cases d with
    | str x =>
      obtain ⟨ys, e2, rfl⟩ := Option.map_eq_some_iff.mp e
      rw [List.map_cons, strsD_v hs e2, h.str_inv]
    | _ => cases e
theorem strKs_k : ∀ {kvs : List (Key × V)} {xs : List Str}, strKs (kvs.map fun p => Kx.k p.1) = some xs → kvs.map (·.1) = xs.map Sum.inr
  | [], xs, e => by cases e; rfl
  | (.inl i, v) :: kvs, xs, e => by cases e
  | (.inr x, v) :: kvs, xs, e => by
    obtain ⟨ys, e2, rfl⟩ := Option.map_eq_some_iff.mp e
    rw [List.map_cons, List.map_cons, strKs_k e2]
def rSortDD (K : PySem.W.Frag) : List V → Hp → VK → Prop := fun xs H Q => rSortedS K xs H Q ∨ (∃ (a : Addr) (kvs : List (Key × V)) (ks : List Str), xs = [.ref a] ∧ Rd H a (.dK kvs) ∧ kvs.map (·.1) = ks.map Sum.inr ∧ ks.length < 64 ∧
    ∀ ys p, ys.Perm ks → sortedS ys = true → H p = none → Q (.ref p) (upd H p (.lst (ys.map V.str))))
theorem c_sorted {X : Cx} (hc : X.calm = true) : CallR X (.builtin "sorted") (rSortDD X.K) := cr_sortedS.or (call_sortedD hc)
theorem dvs_strsD {κ : Kt} {H : Hp} {Av : Addr → Prop} : ∀ zs : List Str, DVs κ H Av (zs.map V.str) (zs.map D.str)
  | [] => .nil
  | z :: zs => .cons (.str z) (dvs_strsD zs)
theorem v_sorted {κ : Kt} : VOpL κ (rSortDD κ.K) sortedD := by
  intro H Q Av vs ts t hA h e k
  unfold sortedD at e
  split at e
  · rename_i ds e1
    obtain ⟨v, t1, rfl, h1, h2⟩ := one_arg h e1
    split at e
    · rename_i xs e2
      split at e
      · rename_i hl
        cases e
        obtain ⟨a, ys, rfl, g1, g2⟩ := h1.lst h2
        have := strsD_v g2 e2
        subst this
        refine .inl ⟨a, xs, rfl, .of g1, hl, fun zs p hp hs hn => ?_⟩
        rw [sorted_is hp hs]
        exact k _ _ (.lst hn (dvs_strsD _))
      · cases e
    · cases e
  · rename_i ks ws e1
    obtain ⟨v, t1, rfl, h1, h2⟩ := one_arg h e1
    split at e
    · rename_i xs e2
      split at e
      · rename_i hl
        cases e
        obtain ⟨a, rfl, ⟨kvs, g1, rfl, g3⟩ | ⟨kvs, hne, g1, rfl, g3⟩⟩ := h1.dct h2
        · refine .inr ⟨a, kvs, xs, rfl, g1, strKs_k e2, hl, fun zs p hp hs hn => ?_⟩
          rw [sorted_is hp hs]
          exact k _ _ (.lst hn (dvs_strsD _))
        · cases kvs with
          | nil => exact absurd rfl hne
          | cons p r => cases e2
      · cases e
    · cases e
  · cases e
end DL

set_option Elab.async false
set_option linter.all false
set_option maxRecDepth 100000
namespace L2
open PySem PySem.Spec PyProof.Rows
end L2
namespace DL
open PySem L2
section
variable {X : Cx} {κ : Kt} {W : WX} {e : Expr} {fs : M (List Rv)} {p pos tpos : Pos} {elts : List Expr} {kk : Nat}
end
end DL

set_option Elab.async false
set_option linter.all false
namespace DL
open PySem L2
mutual
def imm : D → Bool
  | .non => true
  | .bl _ => true
  | .int _ => true
  | .str _ => true
  | .ty _ => true
  | .cls _ => true
  | .tup ds => imms ds
  | .ktup ds => imms ds
  | _ => false
def imms : List D → Bool
  | [] => true
  | d :: ds => imm d && imms ds
end
def immT : T → Bool
  | .fr d => imm d
  | .lst ds => imms ds
  | .dct _ vs => imms vs
  | _ => false
def frzA (S : En) : En := S.map (Option.map fun t => T.fr t.frz)
def eBor (f : M Rv) : M Rv := fun S => match f (frzA S) with
  | .ok (.tmp t) _ => if immT t = true then .ok (.tmp t) S else .stuck
  | _ => .stuck
def bBor (f : M Bool) : M Bool := fun S => match f (frzA S) with
  | .ok b _ => .ok b S
  | _ => .stuck
section
variable {κ : Kt} {W : WX} {B B' : Addr → Prop} {H H' : Hp} {σ : Sg} {S S' : En} {Av Av' : Addr → Prop}
theorem DVs.imm_cons {v : V} {vs : List V} {d : D} {ds : List D} (h1 : imm d = true → DV κ H Av' v d) (h2 : imms ds = true → DVs κ H Av' vs ds) (e : imms (d :: ds) = true) : DVs κ H Av' (v :: vs) (d :: ds) := by
  unfold imms at e
  rw [Bool.and_eq_true] at e
  exact .cons (h1 e.1) (h2 e.2)
theorem DV.ofImm (k : ∀ a xs, H a = some (.tup xs) → Av' a → Av a) {v : V} {d : D} (h : DV κ H Av v d) : imm d = true → DV κ H Av' v d := by
  refine DV.rec (motive_1 := fun v d _ => imm d = true → DV κ H Av' v d) (motive_2 := fun vs ds _ => imms ds = true → DVs κ H Av' vs ds) ?_ ?_ ?_ ?_ ?_ ?_ ?_ ?_ ?_ ?_ ?_ ?_ ?_ ?_ ?_ ?_ ?_ ?_ ?_ h
  · exact fun _ => .non
  · exact fun b _ => .bl b
  · exact fun b _ => .int b
  · exact fun b _ => .str b
  · exact fun b _ => .ty b
  · exact fun b _ => .cls b
  · exact fun r na h ih e => .tup r (fun z => na (k _ _ r z)) (ih e)
  · exact fun r _ => .tup0 r
  · exact fun r h ih e => .ktup r (ih e)
  · exact fun _ _ _ _ e => nomatch e
  · exact fun _ _ _ _ e => nomatch e
  · exact fun _ _ _ _ e => nomatch e
  · exact fun _ _ _ _ _ e => nomatch e
  · exact fun _ _ _ _ e => nomatch e
  · exact fun _ _ e => nomatch e
  · exact fun _ _ e => nomatch e
  · exact fun _ _ e => nomatch e
  · exact fun _ => .nil
  · exact fun _ _ h1 h2 e => DVs.imm_cons h1 h2 e
theorem DVs.ofImm (k : ∀ a xs, H a = some (.tup xs) → Av' a → Av a) : ∀ {vs : List V} {ds : List D}, DVs κ H Av vs ds → imms ds = true → DVs κ H Av' vs ds := by
  intro vs ds h
  induction vs generalizing ds with
  | nil => cases h; exact fun _ => .nil
  | cons v vs ih => cases h with | cons h t => exact fun e => DVs.imm_cons (DV.ofImm k h) (ih t) e
theorem TRG.ofImm {g : G} {t : T} (k : ∀ a xs, H a = some (.tup xs) → Av' a → Av a) (h : TRG κ H Av g t) (e : immT t = true) : TRG κ H Av' g t := by
  obtain ⟨h, z⟩ := h
  cases t with
  | fr d => exact ⟨DV.ofImm k h e, True.intro⟩
  | lst ds => obtain ⟨a, xs, e1, h, r⟩ := h; exact ⟨⟨a, xs, e1, h, r.ofImm k e⟩, True.intro⟩
  | dct ks vs =>
    obtain ⟨a, e1, ⟨kvs, h, q, r⟩ | ⟨kvs, y, h, q, r⟩⟩ := h
    · exact ⟨⟨a, e1, .inl ⟨kvs, h, q, r.ofImm k e⟩⟩, True.intro⟩
    · exact ⟨⟨a, e1, .inr ⟨kvs, y, h, q, r.ofImm k e⟩⟩, True.intro⟩
  | _ => cases e
theorem frzA_get {i : Nat} {t : T} (e : (frzA S)[i]? = some (some t)) : ∃ u, S[i]? = some (some u) ∧ t = .fr u.frz := by
  unfold frzA at e
  rw [List.getElem?_map] at e
  obtain ⟨o, e1, e2⟩ := Option.map_eq_some_iff.mp e
  obtain ⟨u, rfl, e3⟩ := Option.map_eq_some_iff.mp e2
  exact ⟨u, e1, e3.symm⟩
theorem frzA_own {a : Addr} : ¬ OwnAt (frzA S) σ a := fun ⟨i, t, g, e, f, _⟩ => by
  obtain ⟨u, _, rfl⟩ := frzA_get e
  exact frno f.own
theorem Good.frzA (g : Good κ B H σ S) : Good κ B H σ (DL.frzA S) := by
  refine ⟨by unfold DL.frzA; rw [List.length_map]; exact g.len, g.trk, fun b _ z => frzA_own z, fun i j a t u g1 g2 e f => ?_, fun i t e => ?_⟩
  · obtain ⟨w, _, rfl⟩ := frzA_get e
    exact frno f.own
  · obtain ⟨u, e1, rfl⟩ := frzA_get e
    obtain ⟨v, v1, v2⟩ := g.slot i u e1
    refine ⟨v, v1, v2.freeze (fun b z => z.imp id fun z => (frzA_own z).elim) fun a f z => ?_, True.intro⟩
    exact z.elim (fun z => g.dis a z ⟨i, u, v, e1, f, v1⟩) frzA_own
theorem de_bor {X : Cx} {e : Expr} {f : M Rv} (h : PE X e (tE κ W f)) : PE X e (tE κ W (eBor f)) := h.weak fun ς H Q q => by
  obtain ⟨B, S, σ, rfl, g, o⟩ := tE_iff.mp q
  refine tE_iff.mpr ⟨B, DL.frzA S, σ, rfl, g.frzA, ?_⟩
  unfold eBor at o
  split at o
  · rename_i t S' e1
    split at o
    · rename_i hi
      rw [e1]
      intro v H' p
      have same : Same H H' := fun b u e => p.keep b u e frzA_own
      have tn : ∀ a, TmpAt (.tmp t) v a → H a = none := fun a z => (p.tnew a z).resolve_right fun y => frzA_own y.1
      have g2 : Good κ (Bx B (.tmp t) v) H' σ S := g.more (fun b z => z.imp id fun z => ⟨p.good.trk b (.inr z), tn b z⟩) same
      refine o v H' ⟨fun b u e _ => same b u e, fun a z => z, fun a z => .inl (tn a z), g2, ?_⟩
      refine TRG.ofImm (fun a xs ea z => ?_) (p.rv : TRG κ H' _ v t) hi
      rcases z with z | z
      · exact .inl z
      · exact ((g2.ownTrk z).nt xs ea).elim
    · exact o.elim
  · exact o.elim
theorem db_red {f : M Bool} {ς : L2.St} {Q : Bool → Hp → Prop} (q : tT κ W (bBor f) ς H Q) : tT κ W f ς H Q := by
  obtain ⟨B, S, σ, rfl, g, o⟩ := q
  refine ⟨B, DL.frzA S, σ, rfl, g.frzA, ?_⟩
  unfold bBor at o
  split at o
  · rename_i b S' e1
    rw [e1]
    intro H' p
    have same : Same H H' := fun b u e => p.keep b u e frzA_own
    exact o H' ⟨fun b u e _ => same b u e, fun a z => z, g.same same⟩
  · exact o.elim
theorem dt_bor {X : Cx} {e : Expr} {f : M Bool} (h : PT X e (tT κ W f)) : PT X e (tT κ W (bBor f)) := h.weak fun ς H Q q => db_red q
end
end DL

set_option Elab.async false
set_option linter.all false
namespace DL
open PySem L2
def keyDs : List Kx → List D
  | [] => []
  | .k (.inl i) :: ks => .int i :: keyDs ks
  | .k (.inr x) :: ks => .str x :: keyDs ks
  | .t k :: ks => .tup (k.map fun | .inl i => .int i | .inr x => .str x) :: keyDs ks
def IsDct (u : HO) : Prop := (∃ kvs, u = .dK kvs) ∨ ∃ kvs, u = .dT kvs
def LkR (H H' : Hp) : Prop := ∀ b, H b = H' b ∨ ∃ od u, IsDct u ∧ ((H b = some u ∧ H' b = some (.frz od u)) ∨ (H b = some (.frz od u) ∧ H' b = some u))
theorem LkR.lock {H : Hp} {d : Addr} {od : Obj} {u : HO} (h : H d = some u) (i : IsDct u) : LkR H (upd H d (.frz od u)) := fun b => by
  by_cases e : b = d
  · subst e; exact .inr ⟨od, u, i, .inl ⟨h, upd_same⟩⟩
  · exact .inl (upd_ne e).symm
theorem LkR.unlock {H : Hp} {d : Addr} {od : Obj} {u : HO} (h : H d = some (.frz od u)) (i : IsDct u) : LkR H (upd H d u) := fun b => by
  by_cases e : b = d
  · subst e; exact .inr ⟨od, u, i, .inr ⟨h, upd_same⟩⟩
  · exact .inl (upd_ne e).symm
def noDct : HO → Prop
  | .dK _ => False
  | .dT _ => False
  | .frz _ (.dK _) => False
  | .frz _ (.dT _) => False
  | _ => True
theorem LkR.same {H H' : Hp} (k : LkR H H') {a : Addr} {o : HO} (e : H a = some o) (n : noDct o) : H' a = some o := by
  rcases k a with q | ⟨od, u, i, ⟨q, _⟩ | ⟨q, _⟩⟩
  · rw [← q]; exact e
  · rw [e] at q; cases q
    rcases i with ⟨_, rfl⟩ | ⟨_, rfl⟩ <;> exact n.elim
  · rw [e] at q; cases q
    rcases i with ⟨_, rfl⟩ | ⟨_, rfl⟩ <;> exact n.elim
theorem LkR.rd {H H' : Hp} (k : LkR H H') {a : Addr} {u : HO} (e : Rd H a u) (i : IsDct u) : Rd H' a u := by
  rcases k a with q | ⟨od, w, j, ⟨q1, q2⟩ | ⟨q1, q2⟩⟩
  · unfold Rd; rw [← q]; exact e
  · rcases e with e | ⟨o, e⟩
    · rw [e] at q1; cases q1; exact .inr ⟨_, q2⟩
    · rw [e] at q1; cases q1; rcases j with ⟨_, z⟩ | ⟨_, z⟩ <;> cases z
  · rcases e with e | ⟨o, e⟩
    · rw [e] at q1; cases q1; rcases i with ⟨_, z⟩ | ⟨_, z⟩ <;> cases z
    · rw [e] at q1; cases q1; exact .inl q2
section
variable {κ : Kt} {W : WX} {B B' : Addr → Prop} {H H' : Hp} {σ : Sg} {S S' : En} {Av Av' : Addr → Prop} {g v : G} {t : T} {r : Rv}
theorem DV.lk (k : LkR H H') {v : V} {d : D} (h : DV κ H Av v d) : DV κ H' Av v d := by
  refine DV.rec (motive_1 := fun v d _ => DV κ H' Av v d) (motive_2 := fun vs ds _ => DVs κ H' Av vs ds) ?_ ?_ ?_ ?_ ?_ ?_ ?_ ?_ ?_ ?_ ?_ ?_ ?_ ?_ ?_ ?_ ?_ ?_ ?_ h
  · exact .non
  · exact fun b => .bl b
  · exact fun b => .int b
  · exact fun b => .str b
  · exact fun b => .ty b
  · exact fun b => .cls b
  · exact fun r na _ ih => .tup (k.same r True.intro) na ih
  · exact fun r => .tup0 r
  · exact fun r _ ih => .ktup r ih
  · exact fun r na _ ih => .lst (k.same r True.intro) na ih
  · exact fun r na _ ih => .scr (k.same r True.intro) na ih
  · exact fun r na _ ih => .dK (k.rd r (.inl ⟨_, rfl⟩)) na ih
  · exact fun z r na _ ih => .dT z (k.rd r (.inr ⟨_, rfl⟩)) na ih
  · exact fun r na _ ih => .ins (k.same r True.intro) na ih
  · exact fun r na => .set (k.same r True.intro) na
  · exact fun r na => .insN (k.same r True.intro) na
  · exact fun r na => .dctN (k.rd r (.inl ⟨_, rfl⟩)) na
  · exact .nil
  · exact fun _ _ h1 h2 => .cons h1 h2
theorem DVs.lk (k : LkR H H') : ∀ {vs : List V} {ds : List D}, DVs κ H Av vs ds → DVs κ H' Av vs ds
  | _, _, .nil => .nil
  | _, _, .cons h t => .cons (h.lk k) (DVs.lk k t)
theorem PR.lk (k : LkR H H') {v : V} {u : U} (ko : u.own = true → ∀ a, v = .ref a → H' a = H a) (h : PR κ H Av v u) : PR κ H' Av v u := by
  cases u with
  | fr d => exact DV.lk k h
  | lst ds => obtain ⟨a, xs, e, h, r⟩ := h; exact ⟨a, xs, e, (ko rfl a e).trans h, r.lk k⟩
  | dct ks vs =>
    obtain ⟨a, e, ⟨kvs, h, q, r⟩ | ⟨kvs, z, h, q, r⟩⟩ := h
    · exact ⟨a, e, .inl ⟨kvs, (ko rfl a e).trans h, q, r.lk k⟩⟩
    · exact ⟨a, e, .inr ⟨kvs, z, (ko rfl a e).trans h, q, r.lk k⟩⟩
theorem PRs.lk (k : LkR H H') : ∀ {ws : List V} {us : List U}, Paired (PR κ H Av) ws us → (∀ (i : Nat) (u : U) (a : Addr), us[i]? = some u → u.own = true → ws[i]? = some (.ref a) → H' a = H a) → Paired (PR κ H' Av) ws us
  | _, _, .nil, _ => .nil
  | _, _, .cons h t, ko => .cons (h.lk k fun o a e => ko 0 _ a rfl o (by rw [← e]; rfl)) (PRs.lk k t fun i u a e1 e2 e3 => ko (i + 1) u a e1 e2 e3)
theorem TRG.lk (k : LkR H H') (ko : ∀ a, Fp t g a → H' a = H a) (h : TRG κ H Av g t) : TRG κ H' Av g t := by
  obtain ⟨h, z⟩ := h
  have kr : t.own = true → ∀ a, g.1 = .ref a → H' a = H a := fun o a e => ko a ⟨o, .inl e⟩
  cases t with
  | fr d => exact ⟨DV.lk k h, True.intro⟩
  | lst ds => obtain ⟨a, xs, e, h, r⟩ := h; exact ⟨⟨a, xs, e, (kr rfl a e).trans h, r.lk k⟩, True.intro⟩
  | dct ks vs =>
    obtain ⟨a, e, ⟨kvs, h, q, r⟩ | ⟨kvs, z, h, q, r⟩⟩ := h
    · exact ⟨⟨a, e, .inl ⟨kvs, (kr rfl a e).trans h, q, r.lk k⟩⟩, True.intro⟩
    · exact ⟨⟨a, e, .inr ⟨kvs, z, (kr rfl a e).trans h, q, r.lk k⟩⟩, True.intro⟩
  | ins c ns vs => obtain ⟨a, dx, fs, e, h, q, r⟩ := h; exact ⟨⟨a, dx, fs, e, (kr rfl a e).trans h, q, r.lk k⟩, True.intro⟩
  | insN c ns us =>
    obtain ⟨a, dx, fs, e, h, q, r, d⟩ := h
    have eg := z a _ dx fs e h
    have h' := (kr rfl a e).trans h
    refine ⟨⟨a, dx, fs, e, h', q, PRs.lk k r fun i u b e1 e2 e3 => ko b ⟨rfl, .inr ⟨i, u, e1, e2, by rw [eg]; exact e3⟩⟩, d⟩, fun b C dx2 fs2 e2 h2 => ?_⟩
    rw [e] at e2; cases e2
    rw [h'] at h2; cases h2
    exact eg
  | dctN ks us =>
    obtain ⟨a, kvs, e, h, q, r, d⟩ := h
    have eg := z a kvs e h
    have h' := (kr rfl a e).trans h
    refine ⟨⟨a, kvs, e, h', q, PRs.lk k r fun i u b e1 e2 e3 => ko b ⟨rfl, .inr ⟨i, u, e1, e2, by rw [eg]; exact e3⟩⟩, d⟩, fun b kvs2 e2 h2 => ?_⟩
    rw [e] at e2; cases e2
    rw [h'] at h2; cases h2
    exact eg
theorem Ntp.lk (k : LkR H H') {b : Addr} (h : Ntp H b) : Ntp H' b := by
  rcases k b with q | ⟨od, u, i, ⟨q1, q2⟩ | ⟨q1, q2⟩⟩
  · exact ⟨by rw [← q]; exact h.nn, by rw [← q]; exact h.nt⟩
  · exact .of q2 fun _ z => nomatch z
  · refine .of q2 fun _ z => ?_
    subst z
    rcases i with ⟨_, z⟩ | ⟨_, z⟩ <;> cases z
theorem Good.lk (k : LkR H H') (g : Good κ B H σ S) (ko : ∀ a, OwnAt S σ a → H' a = H a) : Good κ B H' σ S :=
  ⟨g.len, fun b z => (g.trk b z).lk k, g.dis, g.inj, fun i t e => by
    obtain ⟨v, e1, e2⟩ := g.slot i t e
    exact ⟨v, e1, e2.lk k fun a f => ko a ⟨i, t, v, e, f, e1⟩⟩⟩
theorem RvR.lk (k : LkR H H') (ko : ∀ a, TmpAt r v a → H' a = H a) (h : RvR κ H Av σ v r) : RvR κ H' Av σ v r := by
  cases r with
  | tmp t => exact TRG.lk k (fun a f => ko a ⟨t, rfl, f⟩) h
  | slot i => exact h
  | sub i k => exact h
end
section
variable {κ : Kt} {W : WX} {fx : Nat → Bool} {gt : TG} {gd : D → En → Option En} {b : MS} {n : Nat} {B : Addr → Prop} {τ : Sg} {H1 : Hp} {S1 : En} {ds : List D} {D0 : Ends} {J : It}
theorem for_loop (hlen : τ.length = n) (ht : TgOk κ fx n gt gd) (g : Good κ B H1 τ S1) (w : WalkD κ H1 (AvS B S1 τ) J ds) (o : OutS κ W B fx τ H1 S1 D0 (forD gd b ds S1)) :
    ∃ Wd : Nat → Nat → St → Hp → Prop, (∃ m, Wd 0 m (unG τ) H1) ∧ ∀ i m σ H, Wd i m σ H →
  (J.stop i H ∧ D0.nx σ H) ∨ (J.go i H ∧ ∃ N : St → Hp → Prop, (∀ σ' H', N σ' H' → ∃ m', m' < m ∧ Wd (i + 1) m' σ' H') ∧ ∀ x H', J.yld i H x H' → gt x σ H' fun σ2 H2 => tS κ W fx b { D0 with nx := N, ct := N, bk := D0.nx } σ2 H2) := by
  refine ⟨fun i m σ' Hi => m = ds.length - i ∧ i ≤ ds.length ∧ ∃ Si σi, unG σi = σ' ∧ σi.length = n ∧ PostS κ B fx τ H1 S1 σi Hi Si ∧ OutS κ W B fx σi Hi Si D0 (forD gd b (ds.drop i) Si), ⟨_, rfl, Nat.zero_le _, S1, τ, rfl, hlen, .refl g, o⟩, ?_⟩
  rintro i m _ Hi ⟨rfl, hi, Si, σi, rfl, hli, pi, oi⟩
  obtain ⟨w1, w2, w3⟩ := w Hi _ (Rel.of pi)
  by_cases hlt : i < ds.length
  · refine .inr ⟨w1 i hlt, fun σ' H' => ∃ S' τ', unG τ' = σ' ∧ τ'.length = n ∧ PostS κ B fx τ H1 S1 τ' H' S' ∧ OutS κ W B fx τ' H' S' D0 (forD gd b (ds.drop (i + 1)) S'), fun σ' H' ⟨S', τ', h0, h1, h2, h3⟩ => ⟨ds.length - (i + 1), by omega, rfl, hlt, S', τ', h0, h1, h2, h3⟩, fun x H' y => ?_⟩
    obtain ⟨hS, dv⟩ := w3 i x H' ds[i] y (List.getElem?_eq_getElem hlt)
    rw [List.drop_eq_getElem_cons hlt] at oi
    unfold forD at oi
    split at oi
    · rename_i S2 e2
      have pS : PostS κ B fx σi Hi Si σi H' Si := ⟨fun b o e _ => hS b o e, fun a z => .inr z, fun _ _ => rfl, pi.good.same hS, rfl⟩
      refine ht B σi H' Si S2 x _ _ hli pS.good dv e2 fun σ2 p2 => ⟨B, S2, σ2, rfl, p2.good, ?_⟩
      refine OutS.turn (oi.rest (pS.trans p2)) fun σ3 H3 S3 p3 o3 => ⟨S3, σ3, rfl, by rw [p3.slen, p2.slen]; exact hli, pi.trans (pS.trans (p2.trans p3)), o3.rest p3⟩
    · exact oi.elim
  · have e3 : i = ds.length := by omega
    subst e3
    rw [List.drop_length] at oi
    exact .inl ⟨w2, oi σi Hi (.refl pi.good)⟩
end
section
variable {κ : Kt} {W : WX} {σ : Sg} {H H1 : Hp} {S S1 S2 : En} {Q : VK} {vs : List Nat} {gt : TG} {gd : D → En → Option En} {c : M Bool} {e : M Rv} {n : Nat} {B : Addr → Prop} {J : It} {ds acc : List D}
theorem lc_loop (hn : σ.length = n) (ht : TgOk κ (fxv vs) n gt gd) (P : PostI κ B σ H S H1 S1 J ds) (ho : okv S1 vs = true) (eC : compD vs gd c e ds [] (wipeE S1 vs) = .ok acc S2)
    (o : ∀ (v : G) H', Post κ B σ H S H' (restE S1 (wipeE S2 vs) vs) v (.tmp (.lst acc)) → Q v.1 H') : ∀ D, H1 D = none → ∃ W : Nat → Nat → Hp → Prop, (∃ m, W 0 m (upd H1 D (.lst []))) ∧ ∀ i m H, W i m H →
  (J.stop i H ∧ Q (.ref D) H) ∨ (J.go i H ∧ ∃ Nx : Hp → Prop, (∀ H', Nx H' → ∃ m', m' < m ∧ W (i + 1) m' H') ∧ ∀ x H', J.yld i H x H' → gt x (wipe (unG σ) vs) H' fun σ2 H2 => wipe σ2 vs = wipe (unG σ) vs ∧ tT κ W0 c σ2 H2 fun b H3 =>
    if b = true then tE κ W0 e σ2 H3 fun y H4 => ∃ acc, H4 D = some (.lst acc) ∧ acc.length < sizeLine ∧ Nx (upd H4 D (.lst (acc ++ [y]))) else Nx H3) := by
  intro D hD
  have nD : ¬ AvS B S1 σ D := P.good.avTrk hD
  have start : CompI κ B σ H1 S1 vs D (upd H1 D (.lst [])) (wipeE S1 vs) [] [] := by
    refine ⟨(P.good.wipe ho).more (fun b z => z.imp id fun z => ?_) (Same.upd hD), fun b o e _ => Same.upd hD b o e, fun a z => (own_wipe ho).mp z, upd_same, .nil⟩
    subst z
    exact ⟨.of upd_same fun _ => nofun, hD⟩
  have rel : ∀ {Hi Si av ai}, CompI κ B σ H1 S1 vs D Hi Si av ai → Rel H1 (AvS B S1 σ) Hi (AvS (fun b => B b ∨ b = D) Si (wipeG σ vs)) := fun {Hi Si av ai} I =>
    ⟨fun b o e n => I.keep b o e fun z => n (.inr z), fun b e n z => by
      rcases z with (z | z) | z
      · exact n (.inl z)
      · subst z; exact e hD
      · exact n (.inr (I.own b z)), fun b e => I.good.avOk e⟩
  refine ⟨fun i m Hi => m = ds.length - i ∧ i ≤ ds.length ∧ ∃ Si av ai, CompI κ B σ H1 S1 vs D Hi Si av ai ∧ compD vs gd c e (ds.drop i) ai Si = .ok acc S2, ⟨_, rfl, Nat.zero_le _, _, _, _, start, eC⟩, ?_⟩
  rintro i m Hi ⟨rfl, hi, Si, av, ai, I, eD⟩
  obtain ⟨w1, w2, w3⟩ := P.walk Hi _ (rel I)
  by_cases hlt : i < ds.length
  · refine .inr ⟨w1 i hlt, fun H' => ∃ Si av ai, CompI κ B σ H1 S1 vs D H' Si av ai ∧ compD vs gd c e (ds.drop (i + 1)) ai Si = .ok acc S2, fun H' h => ⟨ds.length - (i + 1), by omega, rfl, hlt, h⟩, fun x H' y => ?_⟩
    obtain ⟨hS, dv⟩ := w3 i x H' ds[i] y (List.getElem?_eq_getElem hlt)
    rw [List.drop_eq_getElem_cons hlt] at eD
    unfold compD at eD
    split at eD
    case h_2 => cases eD
    rename_i T1 eg
    have p0 : PostS κ (fun b => B b ∨ b = D) (fxv vs) (wipeG σ vs) Hi Si (wipeG σ vs) H' Si := ⟨fun b o e _ => hS b o e, fun a z => .inr z, fun _ _ => rfl, I.good.same hS, rfl⟩
    rw [← unG_wipe]
    refine ht (fun b => B b ∨ b = D) (wipeG σ vs) H' Si T1 x _ _ (by rw [wipeG_length]; exact hn) p0.good dv eg fun σ2 p => ?_
    have hw : wipeG σ2 vs = wipeG σ vs := by
      have := wipe_eq (σ := wipeG σ vs) (σ' := σ2) (vs := vs) p.slen fun q hq => p.fix q (by simp [fxv, hq])
      rw [this, wipe_wipe]
    refine ⟨by rw [← unG_wipe, hw], _, T1, σ2, rfl, p.good, ?_⟩
    -- the turn's end
    have fin : ∀ {H4 : Hp} {S4 : En} {av' : List V} {ai' : List DL.D}, PostS κ (fun b => B b ∨ b = D) (fxv vs) σ2 H' T1 σ2 H4 S4 → (∀ a, OwnAt S4 σ2 a → OwnAt T1 σ2 a) → (∀ (o : HO), (o = .lst av' → DVs κ (upd H4 D o) (AvS (fun b => B b ∨ b = D) S4 σ2) av' ai')) → 
        CompI κ B σ H1 S1 vs D (upd H4 D (.lst av')) (wipeE S4 vs) av' ai' := fun {H4 S4 av' ai'} q hsub hd => by
      have own4 : ∀ a, OwnAt S4 σ2 a → OwnAt S1 σ a := fun a z => by
        have z1 := hsub a z
        rcases p.own a z1 with w | w
        · exact absurd w (p.good.ownTrk z1).nn
        · exact I.own a w
      have ownW : ∀ a, OwnAt (wipeE S4 vs) (wipeG σ2 vs) a → OwnAt S4 σ2 a := fun a ⟨i, t, g, e1, e2, e3⟩ => ⟨i, t, g, (wipeE_in e1).1, e2, (wipeG_some e3).1⟩
      have q2 := p0.trans (p.trans q)
      refine ⟨?_, fun b o e n => ?_, fun a z => ?_, upd_same, ?_⟩
      · rw [← hw]; exact (q.good.updB (.inr rfl) (by intro _ z; cases z)).wipe'
      · have hb : b ≠ D := fun z => by subst z; rw [hD] at e; cases e
        rw [upd_ne hb]
        exact q2.keep b o (I.keep b o e n) fun z => n (I.own b z)
      · rw [← hw] at z; exact own4 a (ownW a z)
      · rw [← hw]
        exact (hd _ rfl).less fun b z => z.imp id (ownW b)
    have atD : ∀ {H4 : Hp} {S4 : En}, PostS κ (fun b => B b ∨ b = D) (fxv vs) σ2 H' T1 σ2 H4 S4 → H4 D = some (.lst av) := fun q => (p0.trans (p.trans q)).keep D _ I.at_ (I.good.dis D (.inr rfl))
    have dvs4 : ∀ {H4 : Hp} {S4 : En}, PostS κ (fun b => B b ∨ b = D) (fxv vs) σ2 H' T1 σ2 H4 S4 → DVs κ H4 (AvS (fun b => B b ∨ b = D) S4 σ2) av ai := fun q => DVs.later (B' := B) (p0.trans (p.trans q)) I.dvs
    split at eD
    case h_2 => cases eD
    rename_i b T2 ec
    rw [ec]
    intro H3 pb
    split at eD
    · rename_i hb
      subst hb
      rw [if_pos rfl]
      split at eD
      case h_2 => cases eD
      rename_i r T3 ee
      refine tE_iff.mpr ⟨_, T2, σ2, rfl, pb.good, ?_⟩
      rw [ee]
      intro y H4 pe
      split at eD
      case h_2 => cases eD
      rename_i yd T4 ef
      split at eD
      case isFalse => cases eD
      rename_i hz
      obtain ⟨ch, dy⟩ := pe.frz pb.good ef
      have q : PostS κ (fun b => B b ∨ b = D) (fxv vs) σ2 H' T1 σ2 H4 T4 := pb.toS.trans ch.toS
      refine ⟨av, atD q, by rw [I.dvs.length]; exact hz, wipeE T4 vs, av ++ [y.1], ai ++ [yd], fin q (fun a z => pb.sub a (ch.sub a z)) fun o _ => ((dvs4 q).app (.cons dy .nil)).upd (.inl (.inr rfl)), eD⟩
    · rename_i hb
      have hb : b = false := by simpa using hb
      subst hb
      rw [if_neg (by decide)]
      have q : PostS κ (fun b => B b ∨ b = D) (fxv vs) σ2 H' T1 σ2 H3 T2 := pb.toS
      have := fin q (fun a z => pb.sub a z) (av' := av) (ai' := ai) fun o _ => (dvs4 q).upd (.inl (.inr rfl))
      have eH : upd H3 D (.lst av) = H3 := by
        funext b
        by_cases hb : b = D
        · subst hb; rw [upd_same, atD q]
        · rw [upd_ne hb]
      rw [eH] at this
      exact ⟨wipeE T2 vs, av, ai, this, eD⟩
  · have e3 : i = ds.length := by omega
    subst e3
    rw [List.drop_length] at eD
    unfold compD at eD
    cases eD
    obtain ⟨g2, own2⟩ := P.good.rest ho I.good (rel I)
    have tm : ∀ b, TmpAt (.tmp (.lst acc)) (V.ref D, []) b → b = D := fun b ⟨u, e1, e2⟩ => by cases e1; cases e2.plain rfl; rfl
    have ch : Chain κ B σ H S B H1 S1 := ⟨P.keep, P.sub, fun _ z => z, P.good⟩
    refine .inl ⟨w2, o (.ref D, []) Hi ⟨fun b u e n => I.keep b u (P.keep b u e n) fun z => n (P.sub b z), fun a z => P.sub a (I.own a (own2 a z)), fun a z => ?_, g2.weaken fun b z => z.imp id (tm b), ⟨D, av, rfl, I.at_, I.dvs.less fun b z => ?_⟩, True.intro⟩⟩
    · rw [tm a z]
      exact (ch.newer hD).imp id fun q => ⟨q.1, fun w => q.2 (I.own D (own2 D w))⟩
    · rcases z with (z | z) | z
      · exact .inl (.inl z)
      · exact .inl (.inr (tm b z))
      · exact .inr (own2 b z)
end
def pathT (i : Nat) (ko : Option Str) (S : En) : Option (List Kx × En) := match S[i]? with
  | some (some t) => match ko, t.frz with
    | none, .dct ks _ => some (ks, S.set i (some (.fr t.frz)))
    | some k, .dct ks vs => match atX ks vs (.k (.inr k)) with
      | some (.dct ks' _) => some (ks', S.set i (some (.fr t.frz)))
      | _ => none
    | _, _ => none
  | _ => none
def tPath (i : Nat) : Option Str → TE
  | none => fun σ H Q => ∃ v, σ[i]? = some (some v) ∧ Q v H
  | some k => fun σ H Q => ∃ a v, σ[i]? = some (some (.ref a)) ∧ DGet H a (.str k) (some v) ∧ Q v H
def keysOf (u : HO) (ks : List Kx) : Prop := (∃ kvs : List (Key × V), u = .dK kvs ∧ ks = kvs.map fun p => Kx.k p.1) ∨ ∃ kvs : List (List Key × V), u = .dT kvs ∧ ks = kvs.map fun p => Kx.t p.1
section
variable {κ : Kt} {B : Addr → Prop} {H H' : Hp} {σ : Sg} {S S1 : En} {Av : Addr → Prop} {v : V} {ks : List Kx} {vs : List D} {i : Nat} {ko : Option Str}
theorem DV.dct_inv (h : DV κ H Av v (.dct ks vs)) : ∃ d u, v = .ref d ∧ Rd H d u ∧ IsDct u ∧ ¬ Av d ∧ keysOf u ks := by
  cases h with
  | dK h1 h2 h3 => exact ⟨_, _, rfl, h1, .inl ⟨_, rfl⟩, h2, .inl ⟨_, rfl, rfl⟩⟩
  | dT z h1 h2 h3 => exact ⟨_, _, rfl, h1, .inr ⟨_, rfl⟩, h2, .inr ⟨_, rfl, rfl⟩⟩
theorem DGet.lk {a : Addr} {y : V} {r : Option V} (k : LkR H H') (h : DGet H a y r) : DGet H' a y r := by
  rcases h with ⟨kvs, x, h1, h2⟩ | ⟨kvs, x, b, h1, h2, h3, h4⟩
  · exact .inl ⟨kvs, x, k.rd h1 (.inl ⟨_, rfl⟩), h2⟩
  · exact .inr ⟨kvs, x, b, k.rd h1 (.inr ⟨_, rfl⟩), h2, k.same h3 True.intro, h4⟩
theorem path_ok (g : Good κ B H σ S) (e : pathT i ko S = some (ks, S1)) : Good κ B H σ S1 ∧ (∀ a, OwnAt S1 σ a → OwnAt S σ a) ∧ ∃ d u, Rd H d u ∧ IsDct u ∧ ¬ AvS B S1 σ d ∧ keysOf u ks ∧
    ∀ H', LkR H H' → ∀ Q : VK, Q (.ref d) H' → tPath i ko (unG σ) H' Q := by
  unfold pathT at e
  split at e
  case h_2 => cases e
  rename_i t et
  obtain ⟨w, w1, w2⟩ := g.slot i t et
  obtain ⟨g1, dv⟩ := g.freeze et w1
  have own : ∀ a, OwnAt (S.set i (some (.fr t.frz))) σ a → OwnAt S σ a := fun a z => (own_set rfl z).1
  split at e
  · rename_i ks' vs' q
    cases e
    rw [q] at dv ⊢
    rw [q] at g1 own
    obtain ⟨d, u, e1, e2, e3, e4, e5⟩ := dv.dct_inv
    exact ⟨g1, own, d, u, e2, e3, e4, e5, fun H' _ Q z => ⟨w.1, unG_get w1, by rw [e1]; exact z⟩⟩
  · rename_i k ks0 vs0 q
    split at e
    case h_2 => cases e
    rename_i ks' vs' q2
    cases e
    rw [q] at dv ⊢
    rw [q] at g1 own
    obtain ⟨a, y, e1, e2, e3⟩ := dget_of (t := .fr (.dct ks0 vs0)) (ty := .fr (.str k)) (y := .str k) (k := .k (.inr k)) dv rfl (DV.str k) rfl q2
    obtain ⟨d, u, f1, f2, f3, f4, f5⟩ := e3.dct_inv
    subst f1
    exact ⟨g1, own, d, u, f2, f3, f4, f5, fun H' lk Q z => ⟨a, _, by have := unG_get w1; rw [e1] at this; exact this, DGet.lk lk e2, z⟩⟩
  · cases e
theorem kd_at : ∀ {kvs : List (Key × V)} {i : Nat} {k : Key} {v : V} {d : D}, kvs[i]? = some (k, v) → (keyDs (kvs.map fun p => Kx.k p.1))[i]? = some d → DV κ H Av (kV k) d
  | [], i, k, v, d, e, _ => by simp at e
  | (.inl j, w) :: r, 0, k, v, d, e, f => by cases e; cases f; exact .int j
  | (.inr j, w) :: r, 0, k, v, d, e, f => by cases e; cases f; exact .str j
  | (.inl j, w) :: r, i + 1, k, v, d, e, f => kd_at (kvs := r) (i := i) (by simpa using e) (by simpa [keyDs] using f)
  | (.inr j, w) :: r, i + 1, k, v, d, e, f => kd_at (kvs := r) (i := i) (by simpa using e) (by simpa [keyDs] using f)
theorem kds_len : ∀ {ks : List Kx}, (keyDs ks).length = ks.length
  | [] => rfl
  | .k (.inl _) :: ks => congrArg (· + 1) kds_len
  | .k (.inr _) :: ks => congrArg (· + 1) kds_len
  | .t _ :: ks => congrArg (· + 1) kds_len
theorem dvs_kD : ∀ {k : List Key}, DVs κ H Av (k.map kV) (k.map fun | .inl i => .int i | .inr x => .str x)
  | [] => .nil
  | .inl i :: k => .cons (.int i) dvs_kD
  | .inr x :: k => .cons (.str x) dvs_kD
theorem kt_at : ∀ {kvs : List (List Key × V)} {i : Nat} {k : List Key} {v : V} {d : D}, kvs[i]? = some (k, v) → (keyDs (kvs.map fun p => Kx.t p.1))[i]? = some d → d = .tup (k.map fun | .inl i => .int i | .inr x => .str x)
  | [], i, k, v, d, e, _ => by simp at e
  | (j, w) :: r, 0, k, v, d, e, f => by cases e; cases f; rfl
  | (j, w) :: r, i + 1, k, v, d, e, f => kt_at (kvs := r) (i := i) (by simpa using e) (by simpa [keyDs] using f)
theorem walkD_keys {d : Addr} {od : Obj} {kvs : List (Key × V)} (h : H d = some (.frz od (.dK kvs))) (na : ¬ Av d) : WalkD κ H Av (Itk d od kvs) (keyDs (kvs.map fun p => Kx.k p.1)) := fun H1 Av1 q => by
  have h1 := q.keep d _ h na
  have hl : (keyDs (kvs.map fun p => Kx.k p.1)).length = kvs.length := by rw [kds_len, List.length_map]
  refine ⟨fun i hi => ⟨h1, by rw [hl] at hi; exact hi⟩, ⟨h1, Nat.le_of_eq hl.symm⟩, fun i x H2 e y f => ?_⟩
  obtain ⟨rfl, k, v, y1, rfl⟩ := y
  exact ⟨fun _ _ e => e, kd_at y1 f⟩
theorem walkD_keysT {d : Addr} {od : Obj} {kvs : List (List Key × V)} (h : H d = some (.frz od (.dT kvs))) (na : ¬ Av d) : WalkD κ H Av (Itkt d od kvs) (keyDs (kvs.map fun p => Kx.t p.1)) := fun H1 Av1 q => by
  have h1 := q.keep d _ h na
  have hl : (keyDs (kvs.map fun p => Kx.t p.1)).length = kvs.length := by rw [kds_len, List.length_map]
  refine ⟨fun i hi => ⟨h1, by rw [hl] at hi; exact hi⟩, ⟨h1, Nat.le_of_eq hl.symm⟩, fun i x H2 e y f => ?_⟩
  obtain ⟨rfl, k, v, p, y1, rfl, y2⟩ := y
  have := kt_at y1 f
  subst this
  exact ⟨fun _ _ e => e, .tup y2 (q.trk p (.inr ⟨_, y2⟩)) dvs_kD⟩
end
def sForP (i : Nat) (ko : Option Str) (gd : D → En → Option En) (b : MS) : MS := fun S => match pathT i ko S with
  | some (ks, S1) => match forD gd b (keyDs ks) S1 with
    | .exc _ _ => .stuck
    | o => o
  | none => .stuck
def eCompP (vs : List Nat) (i : Nat) (ko : Option Str) (gd : D → En → Option En) (c : M Bool) (e : M Rv) : M Rv := fun S => match pathT i ko S with
  | some (ks, S1) => if okv S1 vs = true then match compD vs gd c e (keyDs ks) [] (wipeE S1 vs) with
      | .ok acc S2 => .ok (.tmp (.lst acc)) (restE S1 (wipeE S2 vs) vs)
      | _ => .stuck
    else .stuck
  | none => .stuck
theorem mut_dct {u : HO} (i : IsDct u) : Mut (some u) := by rcases i with ⟨_, rfl⟩ | ⟨_, rfl⟩ <;> exact True.intro
section
variable {κ : Kt} {W : WX} {B : Addr → Prop} {fx : Nat → Bool} {H H1 H2 : Hp} {σ σ2 : Sg} {S S1 S2 : En} {d : Addr} {od : Obj} {u : HO} {v : G} {r : Rv}
theorem PostS.atD (hd : H d = some u) (iu : IsDct u) (na : ¬ AvS B S1 σ d) (p : PostS κ B fx σ (upd H d (.frz od u)) S1 σ2 H2 S2) : H2 d = some (.frz od u) := p.keep d _ upd_same fun z => na (.inr z)
theorem PostS.unl (own : ∀ a, OwnAt S1 σ a → OwnAt S σ a) (hd : H d = some u) (iu : IsDct u) (na : ¬ AvS B S1 σ d) (p : PostS κ B fx σ (upd H d (.frz od u)) S1 σ2 H2 S2) : PostS κ B fx σ H S σ2 (upd H2 d u) S2 := by
  have a2 := p.atD hd iu na
  have n2 : ¬ OwnAt S2 σ2 d := p.old upd_same fun z => na (.inr z)
  refine ⟨fun b o e n => ?_, fun a z => ?_, p.fix, p.good.lk (.unlock a2 iu) fun a z => upd_ne fun q => n2 (q ▸ z), p.slen⟩
  · by_cases hb : b = d
    · subst hb; rw [upd_same, ← hd, e]
    · rw [upd_ne hb]; exact p.keep b o (by rw [upd_ne hb]; exact e) fun z => n (own b z)
  · rcases p.own a z with q | q
    · have ha : a ≠ d := fun e => by subst e; rw [upd_same] at q; cases q
      rw [upd_ne ha] at q; exact .inl q
    · exact .inr (own a q)
theorem PostR.unl (own : ∀ a, OwnAt S1 σ a → OwnAt S σ a) (hd : H d = some u) (iu : IsDct u) (na : ¬ AvS B S1 σ d) (p : PostR κ B fx σ (upd H d (.frz od u)) S1 σ2 H2 S2 v r) : H2 d = some (.frz od u) ∧ PostR κ B fx σ H S σ2 (upd H2 d u) S2 v r := by
  have nd : ∀ a, (upd H d (.frz od u)) a = none ∨ OwnAt S1 σ a → a ≠ d ∧ (H a = none ∨ OwnAt S σ a) := fun a q => by
    rcases q with q | q
    · have ha : a ≠ d := fun e => by subst e; rw [upd_same] at q; cases q
      rw [upd_ne ha] at q; exact ⟨ha, .inl q⟩
    · exact ⟨fun e => na (.inr (e ▸ q)), .inr (own a q)⟩
  have a2 : H2 d = some (.frz od u) := p.keep d _ upd_same fun z => na (.inr z)
  refine ⟨a2, fun b o e n => ?_, fun a z => (nd a (p.own a z)).2, p.fix, fun a z => (nd a (p.tnew a z)).2, p.good.lk (.unlock a2 iu) fun a z => upd_ne (nd a (p.own a z)).1, p.rv.lk (.unlock a2 iu) fun a z => upd_ne (nd a (p.tnew a z)).1⟩
  by_cases hb : b = d
  · subst hb; rw [upd_same, ← hd, e]
  · rw [upd_ne hb]; exact p.keep b o (by rw [upd_ne hb]; exact e) fun z => n (own b z)
theorem Post.unl (own : ∀ a, OwnAt S1 σ a → OwnAt S σ a) (hd : H d = some u) (iu : IsDct u) (na : ¬ AvS B S1 σ d) (p : Post κ B σ (upd H d (.frz od u)) S1 H2 S2 v r) : H2 d = some (.frz od u) ∧ Post κ B σ H S (upd H2 d u) S2 v r := by
  have a2 : H2 d = some (.frz od u) := p.keep d _ upd_same fun z => na (.inr z)
  have nt : ∀ a, TmpAt r v a → a ≠ d ∧ (H a = none ∨ (OwnAt S σ a ∧ ¬ OwnAt S2 σ a)) := fun a z => by
    rcases p.tnew a z with q | q
    · have ha : a ≠ d := fun e => by subst e; rw [upd_same] at q; cases q
      rw [upd_ne ha] at q; exact ⟨ha, .inl q⟩
    · exact ⟨fun e => na (.inr (e ▸ q.1)), .inr ⟨own a q.1, q.2⟩⟩
  refine ⟨a2, fun b o e n => ?_, fun a z => own a (p.sub a z), fun a z => (nt a z).2, p.good.lk (.unlock a2 iu) fun a z => upd_ne fun q => na (.inr (q ▸ p.sub a z)), p.rv.lk (.unlock a2 iu) fun a z => upd_ne (nt a z).1⟩
  by_cases hb : b = d
  · subst hb; rw [upd_same, ← hd, e]
  · rw [upd_ne hb]; exact p.keep b o (by rw [upd_ne hb]; exact e) fun z => n (own b z)
end
section
variable {X : Cx} {κ : Kt} {W : WX} {fx : Nat → Bool} {tg iter : Expr} {body : List Stmt} {gt : TG} {gd : D → En → Option En} {b : MS} {pos : Pos} {i : Nat} {ko : Option Str}
theorem ds_forP (hp : PassesOwn (model X.prog X.w) X.A X.env X.xe) (hc : X.calm = true) (he : PE X iter (tPath i ko)) (hg : PG X tg gt) (ht : TgOk κ fx X.N.length gt gd) (hb : PSs X body (tS κ W fx b))
    (hs : ∀ x, foldedSetIterable iter X.env x = pure x := by intro _; rfl) : PS X (.For tg iter body [] pos) (tS κ W fx (sForP i ko gd b)) := ⟨fun pins s σ H D0 I ⟨B, S, τ, ec, g, o⟩ => by
  subst ec
  have hlen : τ.length = X.N.length := by rw [← unG_len]; exact I.len
  have ps0 := ps_for (pos := pos) hp hc (pi_keys (tg := tg) he) hg hb hs
  unfold sForP at o
  split at o
  case h_2 => exact o.elim
  rename_i ks S1 e1
  obtain ⟨g1, own, d, u, rd, iu, na, sh, pth⟩ := path_ok g e1
  have core : ∀ (H' : Hp) (od : Obj) (D1 : Ends), H' d = some (.frz od u) → LkR H H' → Good κ B H' τ S1 → OutS κ W B fx τ H' S1 D1 (forD gd b (keyDs ks) S1) → tFor (iKeys (tPath i ko)) gt (tS κ W fx b) D1 (unG τ) H' := fun H' od D1 hd lk g2 o2 => by
    refine pth H' lk _ ⟨d, od, rfl, ?_⟩
    rcases sh with ⟨kvs, rfl, rfl⟩ | ⟨kvs, rfl, rfl⟩
    · exact .inl ⟨kvs, hd, for_loop hlen ht g2 (walkD_keys hd na) o2⟩
    · exact .inr ⟨kvs, hd, for_loop hlen ht g2 (walkD_keysT hd na) o2⟩
  rcases rd with hd | ⟨od, hd⟩
  · refine (ps_lock ps0).run pins s _ H D0 I ⟨d, u, hd, mut_dct iu, fun od => core _ od _ upd_same (.lock hd iu) (g1.lk (.lock hd iu) fun a z => upd_ne fun q => na (.inr (q ▸ z))) ?_⟩
    cases ef : forD gd b (keyDs ks) S1 with
    | nx S2 => rw [ef] at o; exact fun σ' H' p => ⟨p.atD hd iu na, o σ' _ (p.unl own hd iu na)⟩
    | bk S2 => rw [ef] at o; exact fun σ' H' p => ⟨p.atD hd iu na, o σ' _ (p.unl own hd iu na)⟩
    | ct S2 => rw [ef] at o; exact fun σ' H' p => ⟨p.atD hd iu na, o σ' _ (p.unl own hd iu na)⟩
    | rt r S2 => rw [ef] at o; exact fun v σ' H' p => ⟨(p.unl own hd iu na).1, o v σ' _ (p.unl own hd iu na).2⟩
    | exc x S2 => rw [ef] at o; exact o.elim
    | stuck => rw [ef] at o; exact o
  · have p0 : PostS κ B fx τ H S τ H S1 := ⟨fun _ _ e _ => e, fun a z => .inr (own a z), fun _ _ => rfl, g1, rfl⟩
    refine ps0.run pins s _ H D0 I (core H od D0 hd (fun _ => .inl rfl) g1 ?_)
    cases ef : forD gd b (keyDs ks) S1 with
    | exc x S2 => rw [ef] at o; exact o.elim
    | stuck => rw [ef] at o; exact o
    | nx S2 => rw [ef] at o; exact OutS.rest p0 o
    | bk S2 => rw [ef] at o; exact OutS.rest p0 o
    | ct S2 => rw [ef] at o; exact OutS.rest p0 o
    | rt r S2 => rw [ef] at o; exact OutS.rest p0 o⟩
variable {elt : Expr} {ifs : List Expr} {scope : Scope} {own : List (Str × Nat)} {fc : M Bool} {fe : M Rv}
theorem de_lcP (hc : X.calm = true) (hN : X.N.Nodup) (hi : PE X iter (tPath i ko)) (ok : BlkOk X.N X.env.scope scope own)
    (hg : ∀ (s : Shared) (H : Hp) (C : Addr) (cl : List (Str × Addr)) (fp : List Addr), PG (X.blk s H scope (compEnvC scope cl C X.env) fp) tg gt) (htg : TgOk κ (fxv (own.map (·.2))) X.N.length gt gd) (ht : ∀ (s : Shared) (H : Hp) (C : Addr) (cl : List (Str × Addr)) (fp : List Addr), PTs (X.blk s H scope (compEnvC scope cl C X.env) fp) ifs (tT κ W0 fc))
    (he : ∀ (s : Shared) (H : Hp) (C : Addr) (cl : List (Str × Addr)) (fp : List Addr), PE (X.blk s H scope (compEnvC scope cl C X.env) fp) elt (tE κ W0 fe)) (hs : ∀ x, foldedSetIterable iter X.env x = pure x := by intro _; rfl) :
    PE X (.ListComp elt [⟨tg, iter, ifs, 0⟩] scope pos) (tE κ W (eCompP (own.map (·.2)) i ko gd fc fe)) := ⟨fun pins s σ H Q I ⟨B, S, τ, ec, g, o⟩ => by
  subst ec
  have hlen : τ.length = X.N.length := by rw [← unG_len]; exact I.len
  have ps0 := pe_lc (pos := pos) hc hN (pi_keys (tg := tg) hi) ok hg ht he hs
  unfold eCompP at o
  split at o
  case h_2 => exact o.elim
  rename_i ks S1 e1
  split at o
  case isFalse => exact o.elim
  rename_i ho
  split at o
  case h_2 => exact o.elim
  rename_i acc S2 eC
  obtain ⟨g1, own', d, u, rd, iu, na, sh, pth⟩ := path_ok g e1
  have core : ∀ (H' : Hp) (od : Obj) (Q' : VK), H' d = some (.frz od u) → LkR H H' → Good κ B H' τ S1 → (∀ (v : G) H2, Post κ B τ H' S1 H2 (restE S1 (wipeE S2 (own.map (·.2))) (own.map (·.2))) v (.tmp (.lst acc)) → Q' v.1 H2) →
      tLc (iKeys (tPath i ko)) gt (tT κ W0 fc) (tE κ W0 fe) (own.map (·.2)) (unG τ) H' Q' := fun H' od Q' hd lk g2 o2 => by
    refine pth H' lk _ ⟨d, od, rfl, ?_⟩
    have p0 : ∀ {J}, WalkD κ H' (AvS B S1 τ) J (keyDs ks) → PostI κ B τ H' S1 H' S1 J (keyDs ks) := fun w => ⟨fun _ _ e _ => e, fun _ z => z, g2, w⟩
    rcases sh with ⟨kvs, rfl, rfl⟩ | ⟨kvs, rfl, rfl⟩
    · exact .inl ⟨kvs, hd, lc_loop hlen htg (p0 (walkD_keys hd na)) ho eC o2⟩
    · exact .inr ⟨kvs, hd, lc_loop hlen htg (p0 (walkD_keysT hd na)) ho eC o2⟩
  rcases rd with hd | ⟨od, hd⟩
  · refine (pe_lock ps0).run pins s _ H Q I ⟨d, u, hd, mut_dct iu, fun od => core _ od _ upd_same (.lock hd iu) (g1.lk (.lock hd iu) fun a z => upd_ne fun q => na (.inr (q ▸ z))) fun v H2 p => ?_⟩
    obtain ⟨q1, q2⟩ := p.unl own' hd iu na
    exact ⟨q1, o v _ q2⟩
  · refine ps0.run pins s _ H Q I (core H od Q hd (fun _ => .inl rfl) g1 fun v H2 p => o v H2 ⟨fun b u e n => p.keep b u e fun z => n (own' b z), fun a z => own' a (p.sub a z), fun a z => (p.tnew a z).imp id fun q => ⟨own' a q.1, q.2⟩, p.good, p.rv⟩)⟩
end
section
variable {X : Cx} {κ : Kt} {i : Nat} {x k : Str} {pos p1 p2 : Pos} {j : Option Str}
theorem path_ix {j} (hk : X.K = κ.K) (hu : X.A.units + 64 < cLine) (h : PE X (.Name x pos) (tVar i)) (hs : PlainIx (.Constant (.str k) j p1)) : PE X (.Subscript (.Name x pos) (.Constant (.str k) j p1) p2) (tPath i (some k)) :=
  (pe_ix (ix_A (κ := κ) hk hu) h pe_str hs).weak fun σ H Q ⟨a, v, e, dg, q⟩ => ⟨.ref a, e, .inr ⟨a, v, rfl, dg, q⟩⟩
end
end DL

set_option Elab.async false
set_option linter.all false
namespace DL
open PySem PySem.Spec PyProof.Rows L2
theorem emptyT {P : Program} {w : World} {h : Heap} {a : Addr} (dd : h.DictOf (mixKind P w) a []) : h.DictOfH (tupleKind (mixKind P w)) a [] := by
  obtain ⟨o, es, ep, h1, h2, h3, _, h5, _⟩ := dd
  have e : es.toList = [] := by generalize es.toList = l at h5; cases h5; rfl
  exact ⟨o, es, ep, h1, h2, h3, (by rw [e]; rfl), (by intro x z; cases z), List.nodup_nil⟩
section
variable {X : Cx} {pins : List (Addr × Obj)} {σ : L2.St} {H : Hp} {s : Shared} {a : Addr}
theorem Inv.toDT (I : Inv X pins σ H s) (e : H a = some (.dK [])) : Inv X pins σ (upd H a (.dT [])) s := by
  obtain ⟨z, hd, vs, rel, dd⟩ := dk_of I.hok e
  cases vs with
  | cons _ _ => cases rel
  | nil =>
    obtain ⟨o, es, ep, h1, h2, h3, h4, _, h6⟩ := emptyT dd
    exact I.write (x := a) (e := a) (h' := s.heap) (t' := s.toks) (by rw [e]; exact True.intro) (.inl rfl) (fun _ _ _ q => q) ⟨o, h1⟩ ⟨Nat.zero_le _, hd, [], .nil, o, es, ep, h1, h2, h3, h4, h6⟩
theorem Inv.toDK (I : Inv X pins σ H s) (e : H a = some (.dT [])) : Inv X pins σ (upd H a (.dK [])) s := by
  obtain ⟨z, hd, xs, rel, o, es, ep, h1, h2, h3, h4, _, _⟩ := dt_of I.hok e
  cases xs with
  | cons _ _ => cases rel
  | nil =>
    have e0 : es.toList = [] := h4
    refine I.write (x := a) (e := a) (h' := s.heap) (t' := s.toks) (by rw [e]; exact True.intro) (.inl rfl) (fun _ _ _ q => q) ⟨o, h1⟩ ⟨Nat.zero_le _, hd, [], .nil, o, es, ep, h1, h2, h3, fun x hx => ?_, by rw [e0]; exact .nil, List.nodup_nil⟩
    have : x ∈ es.toList := by simpa using hx
    rw [e0] at this
    cases this
end
def tabT (kvs : List (List Key × V)) : HO := match kvs with
  | [] => .dK []
  | _ => .dT kvs
def rPop1 : V → List V → Hp → VK → Prop := fun x xs H Q => ∃ a, x = .ref a ∧ ((∃ kvs k v, xs = [kV k] ∧ H a = some (.dK kvs) ∧ valV kvs k = some v ∧ Q v (upd H a (.dK (dropK kvs k)))) ∨
  ∃ kvs k b v, xs = [.ref b] ∧ H a = some (.dT kvs) ∧ H b = some (.tup (k.map kV)) ∧ valV kvs k = some v ∧ Q v (upd H a (tabT (dropK kvs k))))
theorem mt_pop1 {X : Cx} (hu : X.A.units + 64 < cLine) : MtR X "dict.pop" rPop1 := by
  intro pins s σ H x xs v us Q I rx rxs h
  obtain ⟨a, rfl, h⟩ := h
  cases rx
  rcases h with ⟨kvs, k, w, rfl, ea, ew, q⟩ | ⟨kvs, k, b, w, rfl, ea, eb, ew, q⟩
  · obtain ⟨u, rfl, ru⟩ := vals1 rxs
    exact d_pop I ea ru ew (.inl rfl) fun w' s' I' rw' => ⟨w, _, I', rw', q⟩
  · obtain ⟨u, rfl, ru⟩ := vals1 rxs
    cases ru
    obtain ⟨z, hd, ys, rel, dd⟩ := dt_of I.hok ea
    obtain ⟨y, hy, ry⟩ := RelO.some_of (v := w) (o := (atKey ys k).map (·.2)) (by rw [← ew]; exact rel.val k)
    obtain ⟨p, hp, rfl⟩ := Option.map_eq_some_iff.mp hy
    refine call_pop_heap (.inl rfl) (PySem.F.args_dict_pop_2 _ _) (tupleKind_room_in1 (by omega)) (key_of I.hok eb) hd dd hp (fun h' dd' hs => ?_) (by rw [← Paired.length rel]; exact z)
    have fin : Inv X pins σ (upd H a (.dT (dropK kvs k))) { s with heap := h', toks := s.toks + (tupleKind (mixKind X.prog X.w)).draws k } := by
      obtain ⟨o, es, ep, g1, g2, g3, g4, _, g6⟩ := dd'
      refine d_write I (by rw [ea]; exact True.intro) hs ⟨o, g1⟩ ⟨Nat.le_trans (dropK_le kvs k) z, hd, _, ?_, o, es, ep, g1, g2, g3, g4, g6⟩
      have : withoutH ys k = DT.dropH ys k := rfl
      rw [this]
      exact (DX.KT_drop k rel).keeps fun c zs ec => by rw [upd_ne (ne_of ec ea (fun z => nomatch z))]; exact ec
    cases ed : dropK kvs k with
    | nil =>
      rw [ed] at q fin
      have fin2 := Inv.toDK fin upd_same
      rw [upd_upd] at fin2
      exact ⟨w, _, fin2, ry, q⟩
    | cons r rs =>
      rw [ed] at q fin
      exact ⟨w, _, fin, ry, q⟩
def dpop1G : T → List D → Option (T × D)
  | .dct ks vs, [y] => (keyX y).bind fun k => (atX ks vs k).map fun d => (.dct (dropX ks vs k).1 (dropX ks vs k).2, d)
  | _, _ => none
section
variable {κ : Kt} {H : Hp} {Av : Addr → Prop}
theorem key_v {z : V} {y : D} {k : Kx} (h : DV κ H Av z y) (e : keyX y = some k) : (∃ k0, k = .k k0 ∧ z = kV k0) ∨ ∃ k0 b, k = .t k0 ∧ z = .ref b ∧ H b = some (.tup (k0.map kV)) := by
  unfold keyX at e
  split at e
  · cases e; exact .inl ⟨_, rfl, h.int_inv⟩
  · cases e; exact .inl ⟨_, rfl, h.str_inv⟩
  · split at e
    · cases e
    · rename_i hn
      obtain ⟨k1, e1, rfl⟩ := Option.map_eq_some_iff.mp e
      cases h with
      | @tup b xs es r1 r2 r3 => exact .inr ⟨k1, b, rfl, rfl, by rw [← keysF_v r3 e1]; exact r1⟩
      | tup0 r1 => simp at hn
  · cases e
theorem m_pop1 : VMut κ rPop1 dpop1G := by
  intro H Q Av a t t' vs ds d ho ho' h hv ha e k
  unfold dpop1G at e
  split at e
  case h_2 => cases e
  rename_i ks ws y
  obtain ⟨k0, ek, e⟩ := Option.bind_eq_some_iff.mp e
  obtain ⟨d0, ed, e⟩ := Option.map_eq_some_iff.mp e
  cases e
  obtain ⟨z, rfl, hz⟩ := DVs.one hv
  obtain ⟨a', ea, hh⟩ := h
  cases ea
  rcases hh with ⟨kvs, g1, rfl, g3⟩ | ⟨kvs, hne, g1, rfl, g3⟩
  · rcases key_v hz ek with ⟨k1, rfl, rfl⟩ | ⟨k1, b, rfl, rfl, eb⟩
    · rcases atX_dk (k := k1) g3 with y | ⟨d1, w, y1, y2, y3⟩
      · rw [y.1] at ed; cases ed
      · rw [y1] at ed; cases ed
        obtain ⟨f1, f2⟩ := dropX_ok (kx := Kx.k) kxk_inj (k := k1) g3
        exact ⟨a, rfl, .inl ⟨kvs, k1, w, rfl, g1, y2, k w _ ⟨a, rfl, .inl ⟨_, upd_same, f2, f1.upd ha⟩⟩ (y3.upd ha)⟩⟩
    · rw [atX_kt] at ed; cases ed
  · rcases key_v hz ek with ⟨k1, rfl, rfl⟩ | ⟨k1, b, rfl, rfl, eb⟩
    · rw [atX_tk] at ed; cases ed
    · rcases atX_dt (k := k1) g3 with y | ⟨d1, w, y1, y2, y3⟩
      · rw [y.1] at ed; cases ed
      · rw [y1] at ed; cases ed
        obtain ⟨f1, f2⟩ := dropX_ok (kx := Kx.t) kxt_inj (k := k1) g3
        refine ⟨a, rfl, .inr ⟨kvs, k1, b, w, rfl, g1, eb, y2, k w _ ?_ (y3.upd ha)⟩⟩
        cases ex : dropK kvs k1 with
        | nil =>
          rw [ex] at f1 f2
          refine ⟨a, rfl, .inl ⟨[], upd_same, by rw [f2]; rfl, ?_⟩⟩
          exact f1.upd ha
        | cons r rs =>
          rw [ex] at f1 f2
          exact ⟨a, rfl, .inr ⟨r :: rs, List.cons_ne_nil _ _, upd_same, f2, f1.upd ha⟩⟩
end
def ownT (r : Rv) (S : En) : Option T := match r with
  | .tmp t => some t
  | .slot i => match S[i]? with
    | some (some t) => some t
    | _ => none
  | .sub i k => match S[i]? with
    | some (some t) => t.parts[k]?.map U.toT
    | _ => none
def eCkO (ck : T → Bool) (f : M Rv) : M Rv := M.bind f fun r S => match ownT r S with
  | some t => if ck t = true then .ok r S else .stuck
  | none => .stuck
def eMutO (ck : T → Bool) (g : T → List D → Option (T × D)) (f : M Rv) (fs : M (List Rv)) : M Rv := M.bind (eCkO ck f) fun r => M.bind fs fun rs S => match frzRs rs S with
  | some (ds, S1) => mutR g r ds S1
  | none => .stuck
def isDctT : T → Bool
  | .dct _ _ => true
  | _ => false
section
variable {κ : Kt} {W : WX} {B : Addr → Prop} {H : Hp} {σ : Sg} {S : En} {v : G} {r : Rv} {f : M Rv} {fs : M (List Rv)} {ς : L2.St} {Q : VK}
theorem RvR.own (g : Good κ B H σ S) (h : RvR κ H (AvS B S σ) σ v r) {t : T} (e : ownT r S = some t) : TR κ H (AvS B S σ) v.1 t := by
  cases r with
  | tmp u => cases e; exact h.tr
  | slot i =>
    unfold ownT at e
    dsimp only at e
    split at e
    · rename_i u q
      cases e
      obtain ⟨w, w1, w2⟩ := g.slot i _ q
      rw [show σ[i]? = some (some v) from h] at w1
      cases w1
      exact w2.tr
    · cases e
  | sub i k =>
    unfold ownT at e
    dsimp only at e
    split at e
    · rename_i u q
      obtain ⟨p, ep, rfl⟩ := Option.map_eq_some_iff.mp e
      obtain ⟨w, w1, w2⟩ := g.slot i _ q
      obtain ⟨g', e3, e4⟩ := h
      rw [w1] at e3; cases e3
      obtain ⟨y, y1, y2⟩ := w2.part ep
      rw [e4] at y1; cases y1
      exact y2.toT
    · cases e
theorem ckO_red {ck : T → Bool} {Tx : V → Hp → Prop} (hck : ∀ H Av x t, TR κ H Av x t → ck t = true → Tx x H) (h : tE κ W (eCkO ck f) ς H Q) : tE κ W f ς H fun x H1 => Tx x H1 ∧ Q x H1 := by
  obtain ⟨B, S, τ, rfl, g, o⟩ := tE_iff.mp h
  refine (Chain.refl g).bind o fun S1 H1 v r p o1 => ?_
  split at o1
  · rename_i t e
    split at o1
    · rename_i hc
      exact ⟨hck H1 _ v.1 t (RvR.own p.good p.rv e) hc, o1 v H1 p⟩
    · exact o1.elim
  · exact o1.elim
theorem mutO_red {ck : T → Bool} {Tx : V → Hp → Prop} {g : T → List D → Option (T × D)} {r' : V → List V → Hp → VK → Prop} (hck : ∀ H Av x t, TR κ H Av x t → ck t = true → Tx x H) (hv : VMut κ r' g) (h : tE κ W (eMutO ck g f fs) ς H Q) :
    tE κ W f ς H fun x H1 => Tx x H1 ∧ tA κ W fs ς H1 fun vs H2 => r' x vs H2 Q := ckO_red hck (mut0_red hv h)
theorem ck_dctT : ∀ H Av x t, TR κ H Av x t → isDctT t = true → tyV κ.K "dict" x H := fun H Av x t h e => by
  cases t with
  | dct ks vs =>
    obtain ⟨a, rfl, ⟨kvs, h1, _⟩ | ⟨kvs, _, h1, _⟩⟩ := h
    · exact .inr (.inr (.inl ⟨rfl, .inl ⟨_, h1⟩⟩))
    · exact .inr (.inr (.inl ⟨rfl, .inr ⟨_, h1⟩⟩))
  | _ => cases e
end
theorem de_dpop {X : Cx} {κ : Kt} {W : WX} {o e : Expr} {f : M Rv} {fs : M (List Rv)} {apos cpos : Pos} (hk : X.K = κ.K) (hu : X.A.units + 64 < cLine) (ho : PE X o (tE κ W f)) (ha : PA X [e] (tA κ W fs))
    (hbase : attributeBase o "pop" X.env (eval o X.env) = eval o X.env := by rfl) (hfew : ((backTo cpos (starEach [e] X.env)).all (fun x => !x.1) && (backToKw cpos (keywordEach [] X.env)).all (fun x => x.1.isSome)
      && decide (([e] : List Expr).length + ([] : List Keyword).length + (if ([] : List Keyword).isEmpty then 0 else 1) < 30)) = true := by rfl)
    (hline : (apos.endLine == cpos.line) = true := by rfl) (hs : starEach [e] X.env = (false, eval e X.env) :: starEach [] X.env := by rfl) (hplain : (backTo cpos (starEach [] X.env)).any (·.1) = false := by rfl) :
    PE X (.Call (.Attribute o "pop" apos) [e] [] cpos) (tE κ W (eMutO isDctT dpop1G f fs)) :=
  (pe_bm PySem.F.plainAttrs_dict PySem.F.slot_dict_pop PySem.F.type_dict_pop (mt_pop1 hu) ho ha hbase hfew hline hs hplain).weak fun σ H Q h => by rw [hk]; exact mutO_red ck_dctT m_pop1 h
def rSetE : TSet := fun o i v H Q => ∃ a k b, o = .ref a ∧ i = .ref b ∧ H a = some (.dK []) ∧ H b = some (.tup (k.map kV)) ∧ Q (upd H a (.dT [(k, v)]))
theorem set_E {X : Cx} (hu : X.A.units + 64 < cLine) : PSet X rSetE := by
  intro pins s σ H o i v ov iv u Q I ro ri rv h
  obtain ⟨a, k, b, rfl, rfl, ea, eb, q⟩ := h
  have hb : b ≠ a := fun z => by rw [z, ea] at eb; cases eb
  refine set_dict (by omega) pins s σ (upd H a (.dT [])) (.ref a) (.ref b) v ov iv u Q (Inv.toDT I ea) ro ri rv ⟨a, _, rfl, .inr ⟨[], k, b, upd_same, rfl, by rw [upd_ne hb]; exact eb, by decide, rfl⟩, ?_⟩
  rw [upd_upd]
  exact q
def setG2 (t : T) (ds : List D) : Option (T × D) := match setG t ds with
  | some r => some r
  | none => match t, ds with
    | .dct [] [], [d, y] => match keyX y with
      | some (.t k) => some (.dct [.t k] [d], .non)
      | _ => none
    | _, _ => none
def rSetA2 : TSet := fun o i v H Q => rSetA o i v H Q ∨ rSetE o i v H Q
theorem set_A2 {X : Cx} (hu : X.A.units + 64 < cLine) : PSet X rSetA2 := by
  intro pins s σ H o i v ov iv u Q I ro ri rv h
  rcases h with h | h
  · exact set_A hu pins s σ H o i v ov iv u Q I ro ri rv h
  · exact set_E hu pins s σ H o i v ov iv u Q I ro ri rv h
theorem m_set2 {κ : Kt} : VMut κ (fun x vs H Q => ∃ v i, vs = [v, i] ∧ rSetA2 x i v H fun H' => Q .non H') setG2 := by
  intro H Q Av a t t' vs ds d ho ho' h hv ha e k
  unfold setG2 at e
  split at e
  · rename_i r er
    cases e
    obtain ⟨v, i, q1, q2⟩ := m_set H Q Av a t t' vs ds d ho ho' h hv ha er k
    exact ⟨v, i, q1, .inl q2⟩
  · split at e
    · rename_i d0 y
      split at e
      · rename_i k0 ek
        cases e
        obtain ⟨x, z, rfl, hx, hz⟩ := DVs.two hv
        obtain ⟨a', ea, ⟨kvs, g1, g2, g3⟩ | ⟨kvs, hne, g1, g2, g3⟩⟩ := h
        · cases ea
          cases kvs with
          | cons _ _ => cases g2
          | nil =>
            rcases key_v hz ek with ⟨k1, q, _⟩ | ⟨k1, b, q, rfl, eb⟩
            · cases q
            · cases q
              exact ⟨x, _, rfl, .inr ⟨a, k0, b, rfl, rfl, g1, eb, k .non _ ⟨a, rfl, .inr ⟨[(k0, x)], List.cons_ne_nil _ _, upd_same, rfl, .cons (hx.upd ha) .nil⟩⟩ .non⟩⟩
        · cases kvs with
          | cons _ _ => cases g2
          | nil => exact (hne rfl).elim
      · cases e
    · cases e
theorem ds_sub2 {X : Cx} {κ : Kt} {W : WX} {fx : Nat → Bool} {o i value : Expr} {fo fi fv : M Rv} {tpos pos : Pos} (hu : X.A.units + 64 < cLine) (hv : PE X value (tE κ W fv)) (ho : PE X o (tE κ W fo)) (hi : PE X i (tE κ W fi))
    (ha : ∀ v, assign (.Subscript o i tpos) X.env v = (do
      let ov ← holding [v] (eval o X.env)
      let iv ← holding [v, ov] (eval i X.env)
      standAt tpos
      holding [v, ov, iv] (setItem ov iv v)
      release [v, ov, iv] []) := by intro _; rfl)
    (hs : swapsWithSole [.Subscript o i tpos] value pos.line X.env = pure false := by rfl) (hw : swappedStores [.Subscript o i tpos] value X.env = pure none := by rfl)
    (h1 : (assignEach [.Subscript o i tpos] X.env).map (·.2) = [assign (.Subscript o i tpos) X.env] := by rfl) : PS X (.Assign [.Subscript o i tpos] value pos) (tS κ W fx (sSto setG2 (eCons fv (eCons fo (eCons fi eNil))))) :=
  (ps_asg hv (pg_sub ho hi (set_A2 hu) ha) hs hw h1).weak fun D σ H h => by
    refine tE_mono (consA_red (sto_red m_set2 h)) fun v H1 h2 => ?_
    refine tE_mono (consA_red h2) fun x H2 h3 => ?_
    refine tE_mono (consA_red h3) fun y H3 h4 => ?_
    obtain ⟨v', x', ws, e, h5⟩ := nilA_red h4
    cases e
    obtain ⟨v', i', e, h6⟩ := h5
    cases e
    exact h6
def DGetX (H : Hp) (a : Addr) (y : V) (o : Option V) : Prop := DGet H a y o ∨ (o = none ∧ Rd H a (.dK []) ∧ ∃ (k : List Key) (b : Addr), y = .ref b ∧ H b = some (.tup (k.map kV)))
section
variable {X : Cx} {pins : List (Addr × Obj)} {σ : L2.St} {H : Hp} {s : Shared} {a : Addr} {y d : V} {u r : Value} {o : Option V} {A : Around} {E : Value → Shared → Prop}
theorem emptyD (I : Inv X pins σ H s) (e : Rd H a (.dK [])) : (a == sysModules) = false ∧ s.heap.DictOfH (tupleKind (mixKind X.prog X.w)) a [] := by
  obtain ⟨z, hd, vs, rel, dd⟩ := dk_rd I.hok e
  cases vs with
  | cons _ _ => cases rel
  | nil => exact ⟨hd, emptyT dd⟩
theorem dx_in {Q : Value → Shared → Prop} (hu : A.units + 1 < cLine) (I : Inv X pins σ H s) (g : DGetX H a y o) (ry : RelV y u) (h : ∀ s', Inv X pins σ H s' → Q (.bool o.isSome) s') : wpAny (model X.prog X.w) A (compareOp .In u (.ref a)) Q E s := by
  rcases g with g | ⟨rfl, e, k, b, rfl, eb⟩
  · exact d_in hu I g ry h
  · cases ry
    obtain ⟨hd, dd⟩ := emptyD I e
    exact wpAny_in_heap (tupleKind_room_in1 hu) (key_of I.hok eb) hd dd (h _ (I.tok _))
theorem dx_notIn {Q : Value → Shared → Prop} (hu : A.units + 1 < cLine) (I : Inv X pins σ H s) (g : DGetX H a y o) (ry : RelV y u) (h : ∀ s', Inv X pins σ H s' → Q (.bool (!o.isSome)) s') : wpAny (model X.prog X.w) A (compareOp .NotIn u (.ref a)) Q E s := by
  rcases g with g | ⟨rfl, e, k, b, rfl, eb⟩
  · exact d_notIn hu I g ry h
  · cases ry
    obtain ⟨hd, dd⟩ := emptyD I e
    exact wpAny_notIn_heap (tupleKind_room_in1 hu) (key_of I.hok eb) hd dd (h _ (I.tok _))
theorem dx_get2 {Q : Value → Shared → Prop} (hu : A.units + 1 < cLine) (I : Inv X pins σ H s) (g : DGetX H a y o) (ry : RelV y u) (rd : RelV d r) (h : ∀ w' s', Inv X pins σ H s' → RelV (o.getD d) w' → Q w' s') : wpAny (model X.prog X.w) A (call (.builtin "dict.get") [.ref a, u, r]) Q E s := by
  rcases g with g | ⟨rfl, e, k, b, rfl, eb⟩
  · exact d_get2 hu I g ry rd h
  · cases ry
    obtain ⟨hd, dd⟩ := emptyD I e
    exact call_meetsIn PySem.F.slot_dict_get dd.typeIs PySem.F.entry_dict_get (PySem.F.args_dict_get_3 _ _ _) (meetsH_dict_get_default (tupleKind (mixKind X.prog X.w)) a b hd r) ⟨tupleKind_room_in1 hu, k, [], key_of I.hok eb, dd, h _ _ (I.tok _) rd⟩
end
end DL

set_option Elab.async false
set_option linter.all false
namespace DL
open PySem L2
def tOfR (r : Rv) (S : En) : Option T := match r with
  | .tmp t => some t
  | .slot i => match S[i]? with
    | some (some t) => some t
    | _ => none
  | .sub _ _ => none
def kinds (ks : List Kx) : Kx → Bool
  | .k _ => ks.all Kx.isK
  | .t _ => !ks.isEmpty && ks.all Kx.isT
def kindX (ks : List Kx) (k : Kx) : Bool := ks.isEmpty || kinds ks k
def getD2 (d k : D) (z : T) : Option T := match d with
  | .dct ks vs => (keyX k).bind fun k => if kindX ks k = false then none else match atX ks vs k with
    | some d => some (.fr d)
    | none => match z with
      | .fr d => some (.fr d)
      | _ => none
  | _ => none
def eGet2 (f fk fz : M Rv) : M Rv := M.bind (eCk isDct f) fun r => M.bind fk fun rk => M.bind fz fun rz => fun S => match viewR r S, viewR rk S, tOfR rz S with
  | some d, some k, some z => match getD2 d k z with
    | some t => .ok (.tmp t) S
    | none => .stuck
  | _, _, _ => .stuck
section
variable {X : Cx} {κ : Kt} {W : WX} {σ : Sg} {H : Hp} {Q : VK} {f fk fz : M Rv}
theorem dget_any {H : Hp} {Av : Addr → Prop} {v y : V} {t ty : T} {ks : List Kx} {vs : List D} {k : Kx} (h : TR κ H Av v t) (e : t.view = .dct ks vs) (hy : TR κ H Av y ty) (ek : keyX ty.view = some k) (hk : kinds ks k = true) :
    ∃ a o, v = .ref a ∧ DGet H a y o ∧ ((atX ks vs k = none ∧ o = none) ∨ ∃ d w, atX ks vs k = some d ∧ o = some w ∧ DV κ H Av w d) := by
  cases ha : atX ks vs k with
  | some d =>
    obtain ⟨a, w, h1, h2, h3⟩ := dget_of h e hy ek ha
    exact ⟨a, some w, h1, h2, .inr ⟨d, w, rfl, rfl, h3⟩⟩
  | none =>
    obtain ⟨a, rfl, ⟨kvs, h1, rfl, h3⟩ | ⟨kvs, hne, h1, rfl, h3⟩⟩ := h.dct e
    · unfold keyX at ek
      split at ek
      · rename_i i e2
        cases ek
        rcases atX_dk (k := .inl i) h3 with z | ⟨d', w, z1, z2, z3⟩
        · exact ⟨a, none, rfl, .inl ⟨kvs, .inl i, h1, hy.int e2, z.2.symm⟩, .inl ⟨rfl, rfl⟩⟩
        · rw [z1] at ha; cases ha
      · rename_i x e2
        cases ek
        rcases atX_dk (k := .inr x) h3 with z | ⟨d', w, z1, z2, z3⟩
        · exact ⟨a, none, rfl, .inl ⟨kvs, .inr x, h1, hy.str e2, z.2.symm⟩, .inl ⟨rfl, rfl⟩⟩
        · rw [z1] at ha; cases ha
      · split at ek
        · cases ek
        · obtain ⟨ks', _, rfl⟩ := Option.map_eq_some_iff.mp ek
          unfold kinds at hk
          cases kvs with
          | nil => simp at hk
          | cons p r => simp [Kx.isT] at hk
      · cases ek
    · unfold keyX at ek
      split at ek
      · cases ek
        unfold kinds at hk
        cases kvs with
        | nil => exact absurd rfl hne
        | cons p r => simp [Kx.isK] at hk
      · cases ek
        unfold kinds at hk
        cases kvs with
        | nil => exact absurd rfl hne
        | cons p r => simp [Kx.isK] at hk
      · rename_i ds e2
        split at ek
        · cases ek
        · rename_i hn0
          obtain ⟨ks', e3, rfl⟩ := Option.map_eq_some_iff.mp ek
          rcases atX_dt (k := ks') h3 with z | ⟨d', w, z1, z2, z3⟩
          · obtain ⟨b, ys, rfl, _, g2, g3⟩ := hy.tup e2
            cases g3 with
            | @tup b xs es r1 r2 r3 =>
              have := keysF_v r3 e3
              subst this
              exact ⟨a, none, rfl, .inr ⟨kvs, ks', b, h1, rfl, r1, z.2.symm⟩, .inl ⟨rfl, rfl⟩⟩
            | tup0 r1 => simp at hn0
          · rw [z1] at ha; cases ha
      · cases ek
theorem dgetX_of {H : Hp} {Av : Addr → Prop} {v y : V} {t ty : T} {ks : List Kx} {vs : List D} {k : Kx} (h : TR κ H Av v t) (e : t.view = .dct ks vs) (hy : TR κ H Av y ty) (ek : keyX ty.view = some k) (hk : kindX ks k = true) :
    ∃ a o, v = .ref a ∧ DGetX H a y o ∧ ((atX ks vs k = none ∧ o = none) ∨ ∃ d w, atX ks vs k = some d ∧ o = some w ∧ DV κ H Av w d) := by
  by_cases hn : kinds ks k = true
  · obtain ⟨a, o, h1, h2, h3⟩ := dget_any h e hy ek hn
    exact ⟨a, o, h1, .inl h2, h3⟩
  · unfold kindX at hk
    have hz : ks.isEmpty = true := by
      cases q : ks.isEmpty with
      | true => rfl
      | false => rw [q, Bool.false_or] at hk; exact absurd hk hn
    have hks : ks = [] := List.isEmpty_iff.mp hz
    subst hks
    obtain ⟨a, rfl, ⟨kvs, h1, h2, h3⟩ | ⟨kvs, hne, h1, h2, h3⟩⟩ := h.dct e
    · cases kvs with
      | cons _ _ => cases h2
      | nil =>
        rcases key_v (hy.dv) ek with ⟨k0, rfl, _⟩ | ⟨k0, b, rfl, rfl, eb⟩
        · exact absurd rfl hn
        · exact ⟨a, none, rfl, .inr ⟨rfl, h1, k0, b, rfl, eb⟩, .inl ⟨rfl, rfl⟩⟩
    · cases kvs with
      | cons _ _ => cases h2
      | nil => exact (hne rfl).elim
def tDGetX (td ty tx : TE) : TE := fun σ H Q => td σ H fun x H1 => ∃ a, x = .ref a ∧ IsD H1 a ∧ ty σ H1 fun y H2 => tx σ H2 fun z H3 => ∃ o, DGetX H3 a y o ∧ Q (o.getD z) H3
theorem pe_dgetX {o e f : Expr} {apos cpos : Pos} {td ty tx : TE} (hu : X.A.units + 1 < cLine) (ho : PE X o td) (he : PE X e ty) (hf : PE X f tx) (m : M2 X o "get" apos e f cpos) : PE X (.Call (.Attribute o "get" apos) [e, f] [] cpos) (tDGetX td ty tx) := ⟨fun pins s σ H Q I h => by
  refine wpAny_Call_method m.base m.few m.line PySem.F.plainAttrs_dict PySem.F.slot_dict_get PySem.F.type_dict_get (thn (ho.run pins s σ H _ I h) fun uu s1 hh => ?_)
  obtain ⟨x, H1, I1, rx, a, ex, d, q1⟩ := hh
  subst ex
  cases rx
  refine ⟨(isD_at I1 d).1, (isD_at I1 d).2.1, ?_⟩
  rw [m.trees]
  refine Calls.callWith_builtin rfl (Calls.evalArgs_plain (Calls.spliced_cons (thn (he.run pins s1 σ H1 _ I1 q1) fun iv s2 h2 => ?_)))
  obtain ⟨y, H2, I2, ry, q2⟩ := h2
  refine Calls.spliced_cons (thn (hf.run pins s2 σ H2 _ I2 q2) fun fv s3 h3 => Calls.spliced_nil ?_)
  obtain ⟨z, H3, I3, rz, ov, g, q3⟩ := h3
  exact dx_get2 hu I3 g ry rz fun w' s4 I4 rw' => ⟨_, H3, I4, rw', q3⟩⟩
theorem get2_red {ς : L2.St} (h : tE κ W (eGet2 f fk fz) ς H Q) : tDGetX (tE κ W f) (tE κ W fk) (tE κ W fz) ς H Q := by
  have h1 := ck_red (κ := κ) (W := W) (ς := ς) (H := H) (f := f) (ck := isDct) (Tx := fun x H1 => ∃ a, x = .ref a ∧ IsD H1 a) (fun H Av x t tr e => by
    cases ev : t.view with
    | dct ks vs =>
      obtain ⟨a, rfl, ⟨kvs, h1, _⟩ | ⟨kvs, _, h1, _⟩⟩ := tr.dct ev
      · exact ⟨a, rfl, .inl ⟨kvs, h1⟩⟩
      · exact ⟨a, rfl, .inr ⟨kvs, h1⟩⟩
    | _ => rw [ev] at e; cases e) (Q := fun x H1 => tE κ W fk ς H1 fun y H2 => tE κ W fz ς H2 fun z H3 => ∀ a, x = .ref a → ∃ o, DGetX H3 a y o ∧ Q (o.getD z) H3) ?_
  · exact tE_mono h1 fun x H1 ⟨⟨a, e, d⟩, q⟩ => ⟨a, e, d, tE_mono q fun y H2 q2 => tE_mono q2 fun z H3 q3 => q3 a e⟩
  · obtain ⟨B, S, σ, rfl, g0, o⟩ := tE_iff.mp h
    refine (Chain.refl g0).bind o fun S1 H1 v1 q1 p1 o1 => ?_
    have c1 := (Chain.refl g0).step p1
    refine c1.bind o1 fun S2 H2 v2 q2 p2 o2 => ?_
    have c2 := c1.step p2
    have w1 := Chain.later p1 p2
    refine c2.bind o2 fun S3 H3 v3 q3 p3 o3 => ?_
    have c3 := c2.step p3
    have w2 := w1.later (fun a z => .inl (.inr z)) c2.good p3
    have w3 := p2.rv.later (fun a z => .inr z) c2.good p3
    intro a ea
    split at o3
    case h_2 => exact o3.elim
    rename_i d k z e1 e2 e3
    split at o3
    case h_2 => exact o3.elim
    rename_i t e4
    obtain ⟨t1, h1, u1⟩ := RvR.view c3.good w2 e1
    obtain ⟨t2, h2, u2⟩ := RvR.view c3.good w3 e2
    have h3 : TR κ H3 (AvS (Bx (Bx (Bx B q1 v1) q2 v2) q3 v3) S3 σ) v3.1 z := by
      cases q3 with
      | tmp t => cases e3; exact p3.rv.tr
      | sub i k => cases e3
      | slot i =>
        unfold tOfR at e3
        dsimp only at e3
        split at e3
        · rename_i t et
          cases e3
          obtain ⟨w, x1, x2⟩ := c3.good.slot i _ et
          have : σ[i]? = some (some v3) := p3.rv
          rw [this] at x1; cases x1
          exact x2.tr
        · cases e3
    unfold getD2 at e4
    split at e4
    · rename_i ks vs ed
      obtain ⟨kx, ek, e4⟩ := Option.bind_eq_some_iff.mp e4
      split at e4
      · cases e4
      · rename_i hkk
        obtain ⟨a', oo, ra, rg, rr⟩ := dgetX_of h1 (u1.trans rfl) h2 (by rw [u2]; exact ek) (by simpa using hkk)
        rw [ea] at ra; cases ra
        rcases rr with ⟨ra, rfl⟩ | ⟨dd, ww, ra, rfl, rd⟩
        · rw [ra] at e4
          dsimp only at e4
          split at e4
          · rename_i dz
            cases e4
            exact ⟨none, rg, o3 (v3.1, []) H3 (c3.fin (.here h3))⟩
          · cases e4
        · rw [ra] at e4
          cases e4
          exact ⟨some ww, rg, o3 (ww, []) H3 (c3.fin (.here rd))⟩
    · cases e4
theorem de_get2 {o e f' : Expr} {apos cpos : Pos} (hu : X.A.units + 64 < cLine) (ho : PE X o (tE κ W f)) (he : PE X e (tE κ W fk)) (hf : PE X f' (tE κ W fz)) (m : M2 X o "get" apos e f' cpos) : PE X (.Call (.Attribute o "get" apos) [e, f'] [] cpos) (tE κ W (eGet2 f fk fz)) :=
  (pe_dgetX (by omega) ho he hf m).weak fun σ H Q h => get2_red h
end
def indD (neg : Bool) (x y : D) : Option T := match y with
  | .dct ks vs => (keyX x).bind fun k => if kindX ks k = true then some (.fr (.bl ((atX ks vs k).isSome != neg))) else none
  | _ => (itemsD y).bind fun ds => (inF x ds).map fun b => .fr (.bl (b != neg))
def rInX (κ : Kt) (neg : Bool) : R2 := fun x y H Q => rInDD κ neg x y H Q ∨ ∃ a o, y = .ref a ∧ DGetX H a x o ∧ Q (.bl (o.isSome != neg)) H
theorem op_inX {κ : Kt} {X : Cx} (hk : X.K = κ.K) (hu : X.A.units + 64 < cLine) : OpR X (compareOp .In) (rInX κ false) := by
  intro pins s σ H x y v u Q I rx ry h
  rcases h with h | ⟨a, o, rfl, g, q⟩
  · exact op_inDD hk hu pins s σ H x y v u Q I rx ry h
  · cases ry
    exact dx_in (by omega) I g rx fun s' I' => ⟨.bl o.isSome, H, I', rfl, by simpa using q⟩
theorem op_notInX {κ : Kt} {X : Cx} (hk : X.K = κ.K) (hu : X.A.units + 64 < cLine) : OpR X (compareOp .NotIn) (rInX κ true) := by
  intro pins s σ H x y v u Q I rx ry h
  rcases h with h | ⟨a, o, rfl, g, q⟩
  · exact op_notInDD hk hu pins s σ H x y v u Q I rx ry h
  · cases ry
    exact dx_notIn (by omega) I g rx fun s' I' => ⟨.bl (!o.isSome), H, I', rfl, by simpa using q⟩
theorem v_inX {κ : Kt} (neg : Bool) : VOp2 κ (rInX κ neg) (indD neg) := by
  intro H Q Av x y tx ty t hA hx hy e k
  unfold indD at e
  split at e
  · rename_i ks vs ey
    obtain ⟨kx, ek, e⟩ := Option.bind_eq_some_iff.mp e
    split at e
    case isFalse => cases e
    rename_i hkk
    cases e
    obtain ⟨a, o, h1, h2, h3⟩ := dgetX_of hy ey hx ek hkk
    refine .inr ⟨a, o, h1, h2, ?_⟩
    have eo : o.isSome = (atX ks vs kx).isSome := by
      rcases h3 with ⟨z1, z2⟩ | ⟨d, w, z1, z2, _⟩ <;> rw [z1, z2] <;> rfl
    rw [eo]
    exact k _ H (.here (.bl _))
  · obtain ⟨ds, e1, e2⟩ := Option.bind_eq_some_iff.mp e
    obtain ⟨b, hb, rfl⟩ := Option.map_eq_some_iff.mp e2
    obtain ⟨a, xs, h1, h2, h3⟩ := hy.items rfl e1
    refine .inl ⟨_, a, xs, ds, b, _, _, h1, h2, h3, hx.dv, hb, ?_⟩
    have := k _ H (.here (.bl (b != neg)))
    cases neg <;> simpa using this
end DL

set_option Elab.async false
set_option linter.all false
namespace DL
open PySem PySem.Spec PyProof.Rows L2
abbrev SI := Str × Int
def ltSI (p q : SI) : Bool := ltCps p.1.cps.toList q.1.cps.toList || (p.1 == q.1 && decide (p.2 < q.2))
theorem str_tri {x y : Str} (h1 : ltCps x.cps.toList y.cps.toList = false) (h2 : ltCps y.cps.toList x.cps.toList = false) : x = y :=
  leS_anti (by unfold leS; rw [h2]; rfl) (by unfold leS; rw [h1]; rfl)
theorem ltSI_irr (p : SI) : ltSI p p = false := by unfold ltSI; rw [lt_irr]; simp
theorem ltSI_tri {p q : SI} (h1 : ltSI p q = false) (h2 : ltSI q p = false) : p = q := by
  unfold ltSI at h1 h2
  rw [Bool.or_eq_false_iff] at h1 h2
  have e := str_tri h1.1 h2.1
  obtain ⟨x, n⟩ := p
  obtain ⟨y, m⟩ := q
  dsimp only at e
  subst e
  have a := h1.2
  have b := h2.2
  simp at a b
  rw [Int.le_antisymm b a]
theorem ltSI_tr {p q r : SI} (h1 : ltSI p q = true) (h2 : ltSI q r = true) : ltSI p r = true := by
  obtain ⟨x, n⟩ := p
  obtain ⟨y, m⟩ := q
  obtain ⟨z, l⟩ := r
  unfold ltSI at *
  simp only [Bool.or_eq_true, Bool.and_eq_true, beq_iff_eq, decide_eq_true_eq] at *
  rcases h1 with h1 | ⟨rfl, h1⟩
  · rcases h2 with h2 | ⟨rfl, h2⟩
    · exact .inl (lt_tr _ _ _ h1 h2)
    · exact .inl h1
  · rcases h2 with h2 | ⟨rfl, h2⟩
    · exact .inl h2
    · exact .inr ⟨rfl, by omega⟩
def rkSI (L : List SI) (p : SI) : Int := (L.countP fun q => ltSI q p : Nat)
theorem count_lt {α : Type} {a b : α → Bool} : ∀ {L : List α} {x : α}, (∀ z, a z = true → b z = true) → x ∈ L → b x = true → a x = false → L.countP a < L.countP b
  | y :: L, x, h, hx, hb, ha => by
    rcases List.mem_cons.mp hx with e | e
    · subst e
      rw [List.countP_cons_of_pos hb, List.countP_cons_of_neg (by rw [ha]; decide)]
      exact Nat.lt_succ_of_le (List.countP_mono_left fun z _ => h z)
    · have ih := count_lt h e hb ha
      rw [List.countP_cons, List.countP_cons]
      cases ay : a y with
      | false => simp; omega
      | true => rw [h y ay]; simpa using ih
theorem rk_lt {L : List SI} {p q : SI} (hp : p ∈ L) : decide (rkSI L p < rkSI L q) = ltSI p q := by
  unfold rkSI
  cases e : ltSI p q with
  | true =>
    have := count_lt (a := fun z => ltSI z p) (b := fun z => ltSI z q) (fun z h => ltSI_tr h e) hp e (ltSI_irr p)
    exact decide_eq_true (by omega)
  | false =>
    have : L.countP (fun z => ltSI z q) ≤ L.countP fun z => ltSI z p := List.countP_mono_left fun z _ h => by
      cases e2 : ltSI q p with
      | true => exact ltSI_tr h e2
      | false => rw [ltSI_tri e e2]; exact h
    exact decide_eq_false (by omega)
def insI (x : SI) : List SI → List SI
  | [] => [x]
  | y :: ys => if ltSI y x = true then y :: insI x ys else x :: y :: ys
def srtI : List SI → List SI
  | [] => []
  | x :: xs => insI x (srtI xs)
theorem insI_perm (x : SI) : ∀ ys, (insI x ys).Perm (x :: ys)
  | [] => .refl _
  | y :: ys => by
    unfold insI
    split
    · exact ((insI_perm x ys).cons y).trans (.swap x y ys)
    · exact .refl _
theorem srtI_perm : ∀ xs, (srtI xs).Perm xs
  | [] => .refl _
  | x :: xs => (insI_perm x (srtI xs)).trans ((srtI_perm xs).cons x)
abbrev UpI (l : List SI) : Prop := l.Pairwise fun a b => ltSI b a = false
theorem insI_up (x : SI) : ∀ ys, UpI ys → UpI (insI x ys)
  | [], _ => List.pairwise_singleton _ _
  | y :: ys, h => by
    unfold insI
    obtain ⟨h1, h2⟩ := List.pairwise_cons.mp h
    split
    · rename_i hyx
      refine List.pairwise_cons.mpr ⟨fun z hz => ?_, insI_up x ys h2⟩
      rcases List.mem_cons.mp ((insI_perm x ys).mem_iff.mp hz) with e | e
      · subst e
        cases q : ltSI z y with
        | false => rfl
        | true => have := ltSI_tr hyx q; rw [ltSI_irr] at this; cases this
      · exact h1 z e
    · rename_i hyx
      have hyx : ltSI y x = false := by simpa using hyx
      refine List.pairwise_cons.mpr ⟨fun z hz => ?_, h⟩
      rcases List.mem_cons.mp hz with e | e
      · exact e ▸ hyx
      · cases q : ltSI z x with
        | false => rfl
        | true =>
          cases q2 : ltSI x y with
          | true => have := ltSI_tr q q2; rw [h1 z e] at this; cases this
          | false => have := ltSI_tri q2 hyx; subst this; rw [h1 z e] at q; cases q
theorem srtI_up : ∀ xs, UpI (srtI xs)
  | [] => .nil
  | x :: xs => insI_up x _ (srtI_up xs)
theorem upI_unique : ∀ {ys zs : List SI}, ys.Perm zs → UpI ys → UpI zs → ys = zs
  | [], zs, h, _, _ => (List.nil_perm.mp h).symm ▸ rfl
  | y :: ys, [], h, _, _ => absurd (List.perm_nil.mp h) (by simp)
  | y :: ys, z :: zs, h, h1, h2 => by
    obtain ⟨a1, a2⟩ := List.pairwise_cons.mp h1
    obtain ⟨b1, b2⟩ := List.pairwise_cons.mp h2
    have e : y = z := by
      rcases List.mem_cons.mp (h.mem_iff.mp List.mem_cons_self) with q | q
      · exact q
      · rcases List.mem_cons.mp (h.mem_iff.mpr (List.mem_cons_self (a := z))) with q' | q'
        · exact q'.symm
        · exact ltSI_tri (b1 y q) (a1 z q')
    subst e
    rw [upI_unique (List.perm_cons y |>.mp h) a2 b2]
def TupSI (h : Heap) (v : Value) (p : SI) : Prop := ∃ (a : Addr) (o : Obj) (t u : Tok) (m : Nat), v = .ref a ∧ h.get? a = some o ∧ o.cls = .type "tuple" ∧ o.data = .seq #[.str p.1 t, .int p.2 u] m
def siOf (h : Heap) : Value → SI
  | .ref a => match h.get? a with
    | some o => match o.data with
      | .seq its _ => match its.toList with
        | [.str x _, .int n _] => (x, n)
        | _ => (⟨#[]⟩, 0)
      | _ => (⟨#[]⟩, 0)
    | none => (⟨#[]⟩, 0)
  | _ => (⟨#[]⟩, 0)
theorem TupSI.si {h : Heap} {v : Value} {p : SI} (x : TupSI h v p) : siOf h v = p := by
  obtain ⟨a, o, t, u, m, rfl, ho, _, hd⟩ := x
  unfold siOf
  simp only [ho, hd]
theorem tups_firsts {h : Heap} : ∀ (vs : List Value), (∀ v ∈ vs, ∃ p, TupSI h v p) → ∃ fs, PySem.W.KatTups h vs fs ∧ fs.length = vs.length ∧ ∀ f ∈ fs, ∃ x t, f = Value.str x t
  | [], _ => ⟨[], .nil, rfl, fun f z => nomatch z⟩
  | v :: vs, hv => by
    obtain ⟨fs, k1, k2, k3⟩ := tups_firsts vs fun u z => hv u (List.mem_cons_of_mem _ z)
    obtain ⟨p, a, o, t, u, m, rfl, ho, hc, hd⟩ := hv v List.mem_cons_self
    refine ⟨.str p.1 t :: fs, .cons ho hc hd rfl k1, congrArg (· + 1) k2, fun f z => ?_⟩
    rcases List.mem_cons.mp z with e | e
    · exact ⟨_, _, e⟩
    · exact k3 f e
section
variable {prog : Program} {w : World} {A : Around} {E : Value → Shared → Prop} {s : Shared}
theorem kind_si {vs : List Value} {L : List SI} (h2 : 2 ≤ vs.length) (x : ∀ v ∈ vs, ∃ p, p ∈ L ∧ TupSI s.heap v p) (r : Value → Int) (hr : ∀ v ∈ vs, r v = rkSI L (siOf s.heap v)) (Q : SortKind → Shared → Prop)
    (h : ∀ κ, TS.Cmp prog w A s κ (pairsOf vs) r → Q κ s) : wpAny (model prog w) A (keyKind' vs.toArray) Q E s := by
  obtain ⟨fs, k1, k2, k3⟩ := tups_firsts vs fun v z => (x v z).imp fun p q => q.2
  refine PySem.W.kat_kind (T := Value.type "str") k1 (by omega) (fun f z => ?_) rfl (h _ ?_)
  · obtain ⟨y, t, rfl⟩ := k3 f z
    exact PySem.W.Looks.of_pure rfl
  · intro c d hc hd Q' E' hQ
    rw [pairsOf_toList] at hc hd
    have mc := (mem_zip_self hc).2
    have md := (mem_zip_self hd).2
    obtain ⟨p, pL, tp⟩ := x _ mc
    obtain ⟨q, qL, tq⟩ := x _ md
    have hQ' : Q' (ltSI p q) s := by
      rw [hr _ mc, hr _ md, tp.si, tq.si, rk_lt pL] at hQ
      exact hQ
    obtain ⟨a, o, t, u, m, e1, ho, _, hdt⟩ := tp
    obtain ⟨b, o', t', u', m', e2, ho', _, hdt'⟩ := tq
    rw [e1, e2]
    have go : PySem.W.KatLex prog w A true false Q' [(.str p.1 t, .str q.1 t'), (.int p.2 u, .int q.2 u')] 0 s := by
      refine PySem.W.kat_cons (SeqAt.EqAt.str_str (A := A) (s := s) p.1 t q.1 t' prog w _ _ (PySem.W.kat_go (fun e => PySem.W.kat_yes (PySem.W.kat_cons (SeqAt.EqAt.int_int (A := A) (s := s) p.2 u q.2 u' prog w _ _ (PySem.W.kat_go (fun e' => PySem.W.kat_yes (PySem.W.kat_nil ?_)) fun e' => PySem.W.kat_no ?_)))) fun e => PySem.W.kat_no ?_))
      · have : ltSI p q = false := by
          have e3 : p = q := Prod.ext (beq_iff_eq.mp e) (beq_iff_eq.mp e')
          rw [e3]; exact ltSI_irr q
        rw [this] at hQ'
        exact hQ'
      · refine PySem.W.kat_one _ _ (wpAny_lt_int ?_)
        have : ltSI p q = decide (p.2 < q.2) := by
          unfold ltSI
          rw [beq_iff_eq.mp e, lt_irr]
          simp
        rw [this] at hQ'
        exact hQ'
      · refine oneLt_str ?_
        have : ltSI p q = ltCps p.1.cps.toList q.1.cps.toList := by
          unfold ltSI
          rw [e]; simp
        rw [this, ltCps_eq] at hQ'
        exact hQ'
    exact PySem.W.kat_lt ho hdt ho' hdt' go
end
def siK (p : SI) : List Key := [.inr p.1, .inl p.2]
def rSortSI : List V → Hp → VK → Prop := fun xs H Q => ∃ (a : Addr) (kvs : List (List Key × V)) (ks : List SI), xs = [.ref a] ∧ Rd H a (.dT kvs) ∧ kvs.map (·.1) = ks.map siK ∧ ks.length < 64 ∧
  ∀ (zs : List Addr) (l : Addr), Paired (fun b p => H b = some (.tup ((siK p).map kV))) zs (srtI ks) → H l = none → Q (.ref l) (upd H l (.lst (zs.map V.ref)))
theorem paired_of {α β : Type} {F : α → β → Prop} : ∀ {l : List α} {m : List β}, l.length = m.length → (∀ (j : Nat) (a : α) (b : β), l[j]? = some a → m[j]? = some b → F a b) → Paired F l m
  | [], [], _, _ => .nil
  | a :: l, b :: m, hl, h => .cons (h 0 a b rfl rfl) (paired_of (by simpa using hl) fun j x y e1 e2 => h (j + 1) x y (by simpa using e1) (by simpa using e2))
  | [], _ :: _, hl, _ => by simp at hl
  | _ :: _, [], hl, _ => by simp at hl
theorem cr_sortSI {X : Cx} (hc : X.calm = true) : CallR X (.builtin "sorted") rSortSI := by
  intro pins s σ H xs us Q I r hh
  obtain ⟨a, kvs, ks, rfl, hd, hk, h64, q⟩ := hh
  obtain ⟨u, rfl, ru⟩ := vals1 r
  cases ru
  obtain ⟨z, hs, ys, pr, o, es, ep, ho, hx, hdt, he, hn⟩ := (show ObjOk X.prog X.w H s.heap a (.dT kvs) from hd.ok I.hok)
  have l1 : es.size = ys.length := size_of_entries he
  have l2 : kvs.length = ys.length := Paired.length pr
  have l3 : kvs.length = ks.length := by have := congrArg List.length hk; simpa using this
  have bits : ∀ (j : Nat) (p : SI), ks[j]? = some p → ∃ b : Addr, ys[j]?.map (fun y => y.2.1) = some b ∧ H b = some (.tup ((siK p).map kV)) := fun j p e => by
    have hj : j < ks.length := (List.getElem?_eq_some_iff.mp e).1
    obtain ⟨kv, ekv⟩ : ∃ kv, kvs[j]? = some kv := ⟨_, List.getElem?_eq_getElem (by omega)⟩
    obtain ⟨y, ey, y1, y2, _⟩ := paired_get pr ekv
    have ek : kv.1 = siK p := by
      have := congrArg (fun l => l[j]?) hk
      simp only [List.getElem?_map, ekv, e, Option.map_some, Option.some.injEq] at this
      exact this
    exact ⟨y.2.1, by rw [ey]; rfl, by rw [← ek]; exact y2⟩
  refine Calls.call_function_entry kind_sorted plain_sorted entry_sorted (args_sorted1 (.ref a)) ?_
  unfold Builtin.«sorted»; refine wpAny_bind (m := checkCount "sorted" 1 1 _) (wpAny_pure ?_)
  refine wpAny_bind (PySem.W.kdu_collect (A := X.A.in1) (kdl_raw hs hx hdt) (I.ok.hd hc) ho (by omega) fun h' tk acc kp it => ?_)
  have al : acc.toList.length = ks.length := by rw [Array.length_toList, it.1]; omega
  -- the j-th value collected
  have at' : ∀ (j : Nat) (v : Value), acc.toList[j]? = some v → ∃ p b, ks[j]? = some p ∧ v = Value.ref b ∧ H b = some (.tup ((siK p).map kV)) := fun j v e => by
    have hj : j < ks.length := by have := (List.getElem?_eq_some_iff.mp e).1; omega
    obtain ⟨p, ep'⟩ : ∃ p, ks[j]? = some p := ⟨_, List.getElem?_eq_getElem hj⟩
    obtain ⟨b, eb, hb⟩ := bits j p ep'
    obtain ⟨en, hen, hv⟩ := it.2 j v (by rw [← Array.getElem?_toList]; exact e)
    have qe := entry_at he j
    rw [hen] at qe
    obtain ⟨y, ey, rfl⟩ := Option.map_eq_some_iff.mp eb
    rw [ey] at qe
    have e2 := Option.some.inj qe
    exact ⟨p, y.2.1, ep', by rw [hv, e2]; rfl, hb⟩
  have I1 : Inv X pins σ H { s with heap := h', toks := tk } := I.kept kp
  have si' : ∀ (h2 : Heap) (b : Addr) (p : SI), (∀ o, h'.get? b = some o → h2.get? b = some o) → H b = some (.tup ((siK p).map kV)) → TupSI h2 (.ref b) p := fun h2 b p k hb => by
    obtain ⟨_, its, rv, ot, hot, hct, nt, hdt'⟩ := (show ObjOk X.prog X.w H h' b (.tup ((siK p).map kV)) from I1.hok b _ hb)
    cases rv with
    | cons r1 r2 =>
      cases r2 with
      | cons r3 r4 =>
        cases r4
        obtain ⟨t, rfl⟩ := r1
        obtain ⟨t', rfl⟩ := r3
        exact ⟨b, ot, t, t', nt, rfl, k _ hot, hct, hdt'⟩
  refine wpAny_bind (wpAny_newList ?_ (by rw [al, sizeLine_eq]; omega))
  have hoL : (h'.push (seqObj "list" acc.toList.toArray 0)).get? h'.objs.size = some (seqObj "list" acc.toList.toArray 0) := Heap.get?_push_size _ rfl
  generalize eh : h'.push (seqObj "list" acc.toList.toArray 0) = hL at hoL
  have kL : ∀ b ob, h'.get? b = some ob → hL.get? b = some ob := fun b ob e => by rw [← eh]; exact Heap.get?_push_of_some _ e
  have ne0 : ∀ b ob, h'.get? b = some ob → b ≠ h'.objs.size := fun b ob e => Nat.ne_of_lt (Heap.lt_size e)
  have kM : ∀ b ob, h'.get? b = some ob → (TS.midHeap hL h'.objs.size acc.toList).get? b = some ob := fun b ob e => TS.midHeap_old (ne0 b ob e) (kL b ob e)
  have mem : ∀ v ∈ acc.toList, ∃ p b, p ∈ ks ∧ v = Value.ref b ∧ H b = some (.tup ((siK p).map kV)) := fun v hv => by
    obtain ⟨j, hj⟩ := List.mem_iff_getElem?.mp hv
    obtain ⟨p, b, e1, e2, e3⟩ := at' j v hj
    exact ⟨p, b, List.mem_of_getElem? e1, e2, e3⟩
  let rk : Value → Int := fun v => rkSI ks (siOf (TS.midHeap hL h'.objs.size acc.toList) v)
  show wpAny (model X.prog X.w) _ _ _ _ { s with heap := hL, toks := tk }
  refine wpAny_bind (wpAny_holding (wpAny_call_entry slot_list_sort ⟨_, hoL, rfl⟩ entry_list_sort (SK.plain_sort (s := { s with heap := hL, toks := tk }) (r := rk) hoL (by rw [al]; exact h64) (fun h2 Qk hQk => ?_) fun ps out o1 o2 o3 => ⟨_, rfl, ?_⟩) (args_list_sort _)))
  · refine kind_si (s := { s with heap := TS.midHeap hL h'.objs.size acc.toList, toks := tk }) (L := ks) h2 (fun v hv => ?_) rk (fun v hv => rfl) Qk hQk
    obtain ⟨p, b, hp, rfl, hb⟩ := mem v hv
    exact ⟨p, hp, si' _ b p (fun ob e => kM b ob e) hb⟩
  · obtain ⟨c1, c2⟩ := TS.out_rank o1 o2 o3
    obtain ⟨eL, heL⟩ := sortedHeap_at (vs := acc.toList) (out := out) hoL
    have kF : ∀ b ob, h'.get? b = some ob → (sortedHeap hL h'.objs.size acc.toList out).get? b = some ob := fun b ob e => (sortedHeap_old (ne0 b ob e) (Heap.lt_size (kL b ob e))).trans (kL b ob e)
    obtain ⟨zs, hz⟩ : ∃ zs : List Addr, out.toList = zs.map Value.ref := by
      have : ∀ l : List Value, (∀ v ∈ l, ∃ b, v = Value.ref b) → ∃ zs : List Addr, l = zs.map Value.ref := by
        intro l
        induction l with
        | nil => exact fun _ => ⟨[], rfl⟩
        | cons v l ih =>
          intro hv
          obtain ⟨b, rfl⟩ := hv v List.mem_cons_self
          obtain ⟨zs, e⟩ := ih fun u hu => hv u (List.mem_cons_of_mem _ hu)
          exact ⟨b :: zs, by rw [e]; rfl⟩
      exact this _ fun v hv => by
        obtain ⟨p, b, _, e, _⟩ := mem v (c1.mem_iff.mp hv)
        exact ⟨b, e⟩
    have zl : zs.length = ks.length := by
      have := c1.length_eq
      rw [hz, List.length_map] at this
      omega
    -- the keys, in the new order
    have zk : ∀ b ∈ zs, ∃ p ∈ ks, siOf (TS.midHeap hL h'.objs.size acc.toList) (.ref b) = p ∧ H b = some (.tup ((siK p).map kV)) := fun b hb => by
      obtain ⟨p, b', hp, e, hb'⟩ := mem (.ref b) (c1.mem_iff.mp (by rw [hz]; exact List.mem_map.mpr ⟨b, hb, rfl⟩))
      cases e
      exact ⟨p, hp, (si' _ b p (fun ob e => kM b ob e) hb').si, hb'⟩
    have ak : acc.toList.map (siOf (TS.midHeap hL h'.objs.size acc.toList)) = ks := by
      refine List.ext_getElem? fun j => ?_
      rw [List.getElem?_map]
      cases e : acc.toList[j]? with
      | none => rw [List.getElem?_eq_none (by have := List.getElem?_eq_none_iff.mp e; omega)]; rfl
      | some v =>
        obtain ⟨p, b, e1, rfl, hb⟩ := at' j v e
        rw [e1, Option.map_some, (si' _ b p (fun ob e => kM b ob e) hb).si]
    have ez : (out.toList.map (siOf (TS.midHeap hL h'.objs.size acc.toList))) = srtI ks := by
      refine upI_unique ?_ ?_ (srtI_up ks)
      · have := c1.map (siOf (TS.midHeap hL h'.objs.size acc.toList))
        rw [ak] at this
        exact this.trans (srtI_perm ks).symm
      · show List.Pairwise _ _
        rw [List.pairwise_map]
        refine List.Pairwise.imp_of_mem (fun {v u} hv hu h => ?_) c2
        rw [hz] at hv hu
        obtain ⟨b, hb, rfl⟩ := List.mem_map.mp hv
        obtain ⟨c, hcc, rfl⟩ := List.mem_map.mp hu
        obtain ⟨p, hp, e1, _⟩ := zk b hb
        obtain ⟨p', hp', e2, _⟩ := zk c hcc
        have h : rkSI ks (siOf (TS.midHeap hL h'.objs.size acc.toList) (.ref b)) ≤ rkSI ks (siOf (TS.midHeap hL h'.objs.size acc.toList) (.ref c)) := h
        rw [e1, e2] at h ⊢
        rw [← rk_lt hp']
        exact decide_eq_false (by omega)
    have pz : Paired (fun b p => H b = some (.tup ((siK p).map kV))) zs (srtI ks) := by
      refine paired_of (by rw [(srtI_perm ks).length_eq]; exact zl) fun j b p e1 e2 => ?_
      obtain ⟨p', _, f1, f2⟩ := zk b (List.mem_of_getElem? e1)
      rw [← ez, hz, List.map_map, List.getElem?_map, e1] at e2
      cases e2
      rw [← f1] at f2
      exact f2
    have hn0 : H h'.objs.size = none := I1.hok.fresh (Nat.le_refl _)
    have rv : Vals (zs.map V.ref) out.toList := by rw [hz]; exact vals_refs zs
    refine wpAny_pure ⟨_, rfl, .ref h'.objs.size, _, I1.laid (t' := tk) (o := .lst (zs.map V.ref)) kF (Nat.le_refl _) ⟨by rw [List.length_map, sizeLine_eq]; omega, out.toList, eL, rv, ?_⟩, rfl, q zs _ pz hn0⟩
    rw [Array.toArray_toList]
    exact heL
end DL

set_option Elab.async false
set_option linter.all false
set_option maxRecDepth 100000
namespace DL
open PySem PySem.Calls PyProof.Rows PySem.SeqAt
section
variable {prog : Program} {w : World} {K : Type} [DecidableEq K] {knd : HeapKind prog w K} {A : Around} {E : Value → Shared → Prop} {s : Shared}
def HitH (prog : Program) (w : World) (A : Around) (s : Shared) (ys : List (K × Addr × Value)) (x : K × Addr × Value) (b : Bool) : Prop :=
  (atKey ys x.1 = none ∧ b = false) ∨ ∃ p, atKey ys x.1 = some p ∧ EqIn prog w A s x.2.2 p.2 b
theorem samePairsH {nm : String} {a b : Addr} {xs ys : List (K × Addr × Value)} {f : Nat → Bool} {Q : Bool → Shared → Prop} (hu : knd.room A) (na : (a == sysModules) = false) (nb : (b == sysModules) = false)
    (dx : s.heap.DictOfH knd a xs) (dy : s.heap.DictOfH knd b ys) (hit : xs.length = ys.length → ∀ (i : Nat) x, xs[i]? = some x → HitH prog w A s ys x (f i)) (h : Q (xs.length == ys.length && (List.range xs.length).all f) s) :
    wpAny (model prog w) A (Builtin.Dict.samePairs nm a b) Q E s := by
  obtain ⟨o1, e1, p1, ho1, _, hd1, he1, hi1, _⟩ := dx
  obtain ⟨o2, e2, p2, ho2, _, hd2, he2, hi2, hn2⟩ := dy
  have z1 : e1.size = xs.length := size_of_entries he1
  have z2 : e2.size = ys.length := size_of_entries he2
  rw [← z1, ← z2] at h
  unfold Builtin.Dict.samePairs Builtin.Dict.showsAll
  rw [if_neg (by rw [na]; decide), if_neg (by rw [nb]; decide)]
  refine wpAny_bind (wpAny_pure (wpAny_bind (wpAny_pure (wpAny_bind (wpAny_dictEntries ho1 hd1 ?_)))))
  refine wpAny_bind (wpAny_dictEntries ho2 hd2 ?_)
  by_cases hz : e1.size = e2.size
  case neg =>
    rw [if_pos (by simpa using hz)]
    rw [show (e1.size == e2.size) = false by simpa using hz, Bool.false_and] at h
    exact wpAny_bind (wpAny_rule (wpAny_pure h))
  case pos =>
    rw [show (e1.size == e2.size) = true by simpa using hz, Bool.true_and] at h
    have hit' := hit (by rw [← z1, ← z2]; exact hz)
    rw [if_neg (by simp [hz])]
    refine wpAny_bind (wpAny_dictEpoch ho1 hd1 (wpAny_bind ?_))
    rw [Std.Legacy.Range.forIn_eq_forIn_range']
    simp only [Std.Legacy.Range.size, Nat.sub_zero, Nat.add_sub_cancel, Nat.div_one]
    have split_ : ∀ i, i < e1.size → List.range' i (e1.size - i) = i :: List.range' (i + 1) (e1.size - (i + 1)) := fun i hi => by
      rw [show e1.size - i = (e1.size - (i + 1)) + 1 by omega, List.range'_succ]
    refine wpAny_forIn_list _ (fun rest q s' => s' = s ∧ q = (none, ()) ∧ ∃ i, rest = List.range' i (e1.size - i) ∧ i ≤ e1.size ∧ ((List.range e1.size).all f = ((List.range e1.size).drop i).all f)) _ ?_ ?_ _ _ ⟨rfl, rfl, 0, by simp, Nat.zero_le _, rfl⟩
    · rintro j rest q s' ⟨rfl, rfl, i, er, hi, hall⟩
      have hlt : i < e1.size := by
        refine Nat.lt_of_le_of_ne hi fun z => ?_
        rw [z, Nat.sub_self] at er
        cases er
      rw [split_ i hlt] at er
      obtain ⟨rfl, rfl⟩ := List.cons.inj er
      rw [List.drop_eq_getElem_cons (by simpa using hlt), List.all_cons, List.getElem_range] at hall
      obtain ⟨x, hx⟩ : ∃ x, xs[j]? = some x := ⟨_, List.getElem?_eq_getElem (by omega)⟩
      have hej : e1[j]? = some (entryOfKey knd x) := by rw [entry_at he1 j, hx]; rfl
      have hk : knd.is s'.heap x.1 x.2.1 := hi1 x (List.mem_of_getElem? hx)
      have hh := hit' j x hx
      refine wpAny_bind (wpAny_dictEntries ho1 hd1 ?_)
      rw [hej]
      have stop : f j = false → Q false s' := fun z => by rw [hall, z, Bool.false_and] at h; exact h
      show wpAny _ _ (holding [Value.ref x.2.1, x.2.2] _ >>= _) _ _ _
      refine wpAny_bind (wpAny_holding (wpAny_bind (wpAny_dictFind_heap hu hk ho2 hd2 he2 hi2 hn2 (fun no => ?_) fun m p em => ?_)))
      · rcases hh with ⟨_, ef⟩ | ⟨p, ep, _⟩
        · refine wpAny_pure (show wpAny _ _ (if (!false) = true then _ else _) _ _ _ from ?_)
          rw [if_pos (by decide)]; exact wpAny_pure (wpAny_pure (stop ef))
        · rw [atKey_none_of_get no] at ep; cases ep
      · have ek := atKey_of_get hn2 em
        rcases hh with ⟨ep, _⟩ | ⟨p', ep, he⟩
        · rw [ek] at ep; cases ep
        · rw [ek] at ep; cases ep
          refine wpAny_bind (wpAny_dictEntries ho2 hd2 ?_)
          rw [entry_at he2 m, em]
          refine wpAny_holding (he _ _ ?_)
          cases ef : f j with
          | false =>
            show wpAny _ _ (if (!false) = true then _ else _) _ _ _; rw [if_pos (by decide)]; exact wpAny_pure (wpAny_pure (stop ef))
          | true =>
            show wpAny _ _ (if (!true) = true then _ else _) _ _ _; rw [if_neg (by decide)]
            refine wpAny_bind (wpAny_dictEpoch ho1 hd1 ?_); rw [if_neg (by simp)]
            exact wpAny_pure ⟨rfl, rfl, j + 1, rfl, hlt, by rw [hall, ef, Bool.true_and]⟩
    · rintro q s' ⟨rfl, rfl, i, er, hi, hall⟩
      have : i = e1.size := by
        refine Nat.le_antisymm hi (Nat.le_of_not_lt fun z => ?_)
        rw [split_ i z] at er
        cases er
      subst this
      rw [List.drop_of_length_le (by simp)] at hall
      rw [hall] at h
      exact wpAny_pure h
theorem rcIn_dictsH {a b : Addr} {xs ys : List (K × Addr × Value)} {f : Nat → Bool} {Q : Value → Shared → Prop} (hu : A.units < cLine) (hr : knd.room A.in1) (na : (a == sysModules) = false) (nb : (b == sysModules) = false) (dx : s.heap.DictOfH knd a xs) (dy : s.heap.DictOfH knd b ys)
    (hit : xs.length = ys.length → ∀ (i : Nat) x, xs[i]? = some x → HitH prog w A.in1 s ys x (f i)) (h : Q (.bool (xs.length == ys.length && (List.range xs.length).all f)) s) : wpAny (model prog w) A (richCompare .Eq (.ref a) (.ref b)) Q E s := by
  refine wpAny_richCompare_same_room (op := .Eq) dx.typeIs dy.typeIs PySem.F.slot_dict_eq (wpAny_call_entry PySem.F.slot_dict_eq dx.typeIs PySem.F.entry_dict_eq (wpAny_bind ?_) (PySem.F.args_dict_eq_2 (.ref a) (.ref b))) hu
  unfold Builtin.Dict.dictSlotArgs
  refine wpAny_bind (wpAny_notOrdered_dict dx.typeIs (wpAny_pure (wpAny_bind (wpAny_isInstance (T := "dict") dy.typeIs PySem.F.sub_dict_dict ?_))))
  rw [if_neg (by decide)]
  refine wpAny_bind (wpAny_pure (wpAny_bind (wpAny_pure (wpAny_bind (samePairsH hr na nb dx dy hit (wpAny_pure ⟨_, rfl, (fun z => nomatch z), ?_⟩))))))
  simpa using h
end
end DL

set_option Elab.async false
set_option linter.all false
namespace DL
open PySem PySem.Spec PyProof.Rows L2
def eqP1 (n : Nat) (ks : List Kx) (vs : List D) (ks' : List Kx) (vs' : List D) : Option Bool := if ks.length = ks'.length then
  allO ((ks.zip vs).map fun p => match atX ks' vs' p.1 with
    | none => some false
    | some d => eqF n p.2 d) else some false
def eqU (d e : D) : Option Bool := match d, e with
  | .dct ks vs, .dct ks' vs' => if (ks.all Kx.isK = true ∧ ks'.all Kx.isK = true) ∨ (ks.all Kx.isT = true ∧ ks'.all Kx.isT = true) then eqP1 30 ks vs ks' vs' else none
  | _, _ => eqF 30 d e
def eqW (d e : D) : Option Bool := match eqF 40 d e with
  | some b => some b
  | none => match d, e with
    | .tup xs, .tup ys => if xs.length = ys.length then allO (List.zipWith eqU xs ys) else none
    | .dct _ _, .dct _ _ => eqU d e
    | _, _ => none
section
variable {κ : Kt} {X : Cx} {pins : List (Addr × Obj)} {σ : L2.St} {H : Hp} {s : Shared} {Av Av' : Addr → Prop} {γ : Type} [DecidableEq γ] {kx : γ → Kx} {n : Nat}
def Bit (κ : Kt) (H : Hp) (Av Av' : Addr → Prop) (n : Nat) (kvs' : List (γ × V)) (p : γ × V) (b : Bool) : Prop :=
  (valV kvs' p.1 = none ∧ b = false) ∨ ∃ w d e, valV kvs' p.1 = some w ∧ DV κ H Av p.2 d ∧ DV κ H Av' w e ∧ eqF n d e = some b
theorem bits_of {kvs kvs' : List (γ × V)} {vs vs' : List D} {bs : List Bool} (hat : ∀ k, (atX (kvs'.map fun p => kx p.1) vs' (kx k) = none ∧ valV kvs' k = none) ∨ ∃ d w, atX (kvs'.map fun p => kx p.1) vs' (kx k) = some d ∧ valV kvs' k = some w ∧ DV κ H Av' w d) :
    ∀ {kvs : List (γ × V)} {vs : List D} {bs : List Bool}, DVs κ H Av (kvs.map (·.2)) vs → (((kvs.map fun p => kx p.1).zip vs).map fun p => match atX (kvs'.map fun p => kx p.1) vs' p.1 with
    | none => some false
    | some d => eqF n p.2 d) = bs.map some → Paired (Bit κ H Av Av' n kvs') kvs bs
  | [], [], [], _, _ => .nil
  | p :: r, d :: ds, b :: bs, .cons h t, e => by
    simp only [List.map_cons, List.zip_cons_cons, List.cons.injEq] at e
    refine .cons ?_ (bits_of (kvs := kvs) (vs := vs) (bs := bs) hat t e.2)
    rcases hat p.1 with ⟨h1, h2⟩ | ⟨d', w, h1, h2, h3⟩
    · rw [h1] at e
      exact .inl ⟨h2, (Option.some.inj e.1).symm⟩
    · rw [h1] at e
      exact .inr ⟨w, d, d', h2, h, h3, e.1⟩
  | [], [], _ :: _, _, e => by cases e
  | _ :: _, _ :: _, [], _, e => by cases e
theorem hits_of (I : Inv X pins σ H s) (hk : X.K = κ.K) {A : Around} (hu : A.units + n < cLine) {K : Type} [DecidableEq K] {kvs' : List (K × V)} {vb : List (K × Value)} (rb : KV kvs' vb) : ∀ {kvs : List (K × V)} {va : List (K × Value)} {bs : List Bool},
    KV kvs va → Paired (Bit κ H Av Av' n kvs') kvs bs → PySem.W.KeqHitsP X.prog X.w A s vb va (bs.all id)
  | [], [], [], _, _ => .nil
  | p :: r, (k, v) :: va, b :: bs, .cons ⟨h1, h2⟩ t, .cons h tt => by
    have ih := hits_of I hk hu rb t tt
    have e1 : p.1 = k := h1
    have rv := rb.val p.1
    rw [e1] at rv
    rcases h with ⟨q1, rfl⟩ | ⟨w, d, e, q1, q2, q3, q4⟩
    · rw [e1] at q1
      rw [q1] at rv
      have : valueAt vb k = none := by
        cases z : valueAt vb k with
        | none => rfl
        | some y => rw [z] at rv; exact rv.elim
      show PySem.W.KeqHitsP X.prog X.w A s vb ((k, v) :: va) (false && bs.all id)
      rw [Bool.false_and]
      exact .miss this
    · rw [e1] at q1
      rw [q1] at rv
      obtain ⟨y, hy, ry⟩ := rv.some_of
      exact .hit hy ((eqF_at I hk n A hu q2 q3 h2 ry q4).1.eqP) ih
  | [], [], _ :: _, _, h => nomatch h
  | [], _ :: _, _, h, _ => nomatch h
  | _ :: _, [], _, h, _ => nomatch h
  | _ :: _, _ :: _, [], _, h => nomatch h
theorem hitsT (I : Inv X pins σ H s) (hk : X.K = κ.K) {A : Around} (hu : A.units + n < cLine) {kvs' : List (List Key × V)} {ys : List (List Key × Addr × Value)} (rb : KT H kvs' ys) {kvs : List (List Key × V)} {xs : List (List Key × Addr × Value)} {bs : List Bool}
    (ra : KT H kvs xs) (hb : Paired (Bit κ H Av Av' n kvs') kvs bs) (i : Nat) (x : List Key × Addr × Value) (ex : xs[i]? = some x) : HitH X.prog X.w A s ys x (bs.getD i true) := by
  obtain ⟨p, ep, h1, _, h2⟩ := DX.pget ra ex
  obtain ⟨b, eb, h⟩ := paired_get hb ep
  rw [List.getD_eq_getElem?_getD, eb]
  have rv := rb.val p.1
  rcases h with ⟨q1, rfl⟩ | ⟨w, d, e, q1, q2, q3, q4⟩
  · refine .inl ⟨?_, rfl⟩
    rw [q1] at rv
    rw [← h1]
    cases z : atKey ys p.1 with
    | none => rfl
    | some y => rw [z] at rv; exact rv.elim
  · rw [q1] at rv
    obtain ⟨y, hy, ry⟩ := rv.some_of
    obtain ⟨q, hq, rfl⟩ := Option.map_eq_some_iff.mp hy
    exact .inr ⟨q, by rw [← h1]; exact hq, ((eqF_at I hk n A hu q2 q3 h2 ry q4).1.inModel X.prog X.w)⟩
theorem valV_at {γ : Type} [DecidableEq γ] : ∀ {kvs : List (γ × V)} {p : γ × V}, (kvs.map (·.1)).Nodup → p ∈ kvs → valV kvs p.1 = some p.2
  | q :: r, p, hn, hp => by
    rw [List.map_cons, List.nodup_cons] at hn
    rcases List.mem_cons.mp hp with e | e
    · subst e; exact valV_pos rfl
    · rw [valV_neg fun z => hn.1 (z ▸ List.mem_map.mpr ⟨p, e, rfl⟩)]
      exact valV_at hn.2 e
theorem bits_same (I : Inv X pins σ H s) (hk : X.K = κ.K) {kvs kvs' : List (γ × V)} (hn : (kvs'.map (·.1)).Nodup) : ∀ {kvs : List (γ × V)} {bs : List Bool}, (∀ p ∈ kvs, p ∈ kvs') → Paired (Bit κ H Av Av' n kvs') kvs bs → bs.all id = true
  | [], [], _, _ => rfl
  | p :: r, b :: bs, hs, .cons h t => by
    have e := valV_at hn (hs p List.mem_cons_self)
    have ih := bits_same (kvs := kvs) (kvs' := kvs') I hk hn (fun q hq => hs q (List.mem_cons_of_mem _ hq)) t
    rcases h with ⟨q1, _⟩ | ⟨w, d, f, q1, q2, q3, q4⟩
    · rw [e] at q1; cases q1
    · rw [e] at q1; cases q1
      rw [List.all_cons, ih, show b = true from eqF_same I hk n q2 q3 q4]
      rfl
  | [], _ :: _, _, h => nomatch h
  | _ :: _, [], _, h => nomatch h
end
theorem Rd.fn {H : Hp} {a : Addr} {u u' : HO} (h : Rd H a u) (h' : Rd H a u') (i : IsDct u) (i' : IsDct u') : u = u' := by
  rcases h with h | ⟨o, h⟩ <;> rcases h' with h' | ⟨o', h'⟩ <;> rw [h] at h' <;> cases h'
  · rfl
  · rcases i with ⟨_, z⟩ | ⟨_, z⟩ <;> cases z
  · rcases i' with ⟨_, z⟩ | ⟨_, z⟩ <;> cases z
  · rfl
section
variable {κ : Kt} {X : Cx} {pins : List (Addr × Obj)} {σ : L2.St} {H : Hp} {s : Shared} {Av Av' : Addr → Prop}
theorem allK_t {kvs : List (List Key × V)} (h : (kvs.map fun p => Kx.t p.1).all Kx.isK = true) : kvs = [] := by
  cases kvs with
  | nil => rfl
  | cons p r => simp [Kx.isK] at h
theorem allT_k {kvs : List (Key × V)} (h : (kvs.map fun p => Kx.k p.1).all Kx.isT = true) : kvs = [] := by
  cases kvs with
  | nil => rfl
  | cons p r => simp [Kx.isT] at h
theorem dct_rc (I : Inv X pins σ H s) (hk : X.K = κ.K) {A : Around} (hu : A.units + 34 < cLine) {a a' : Addr} {ks ks' : List Kx} {vs vs' : List D} {b : Bool} (h1 : DV κ H Av (.ref a) (.dct ks vs)) (h2 : DV κ H Av' (.ref a') (.dct ks' vs')) (e : eqU (.dct ks vs) (.dct ks' vs') = some b) :
    (∀ (E Q : Value → Shared → Prop), Q (.bool b) s → wpAny (model X.prog X.w) A (richCompare .Eq (.ref a) (.ref a')) Q E s) ∧ (a = a' → b = true) := by
  unfold eqU at e
  dsimp only at e
  split at e
  case isFalse => cases e
  rename_i hkind
  unfold eqP1 at e
  have hu1 : A.in1.units + 30 < cLine := by show A.units + 1 + 30 < cLine; omega
  have hu0 : A.units < cLine := by omega
  have room1 : (tupleKind (mixKind X.prog X.w)).room A.in1 := by show A.units + 1 < cLine; omega
  cases h1 with
  | @dK _ kvs _ r1 _ d1 =>
    obtain ⟨z1, na, va, ra, da⟩ := dk_rd I.hok r1
    have la := KV.length ra
    cases h2 with
    | @dK _ kvs' _ r2 _ d2 =>
      obtain ⟨z2, nb, vb, rb, db⟩ := dk_rd I.hok r2
      have lb := KV.length rb
      rw [List.length_map, List.length_map] at e
      split at e
      · rename_i hl
        obtain ⟨bs, e1, e2⟩ := allO_some e
        have bits := bits_of (kx := Kx.k) (κ := κ) (H := H) (Av := Av) (Av' := Av') (n := 30) (kvs := kvs) (vs := vs) (bs := bs) (fun k => atX_dk (k := k) d2) d1 e1
        refine ⟨fun E Q q => ?_, fun z => ?_⟩
        · refine PySem.W.rcP_dicts (knd := mixKind X.prog X.w) na nb da db hu0 (fun _ => hits_of I hk hu1 rb ra bits) E Q ?_
          rw [show (va.length == vb.length) = true by simp; omega, Bool.true_and, ← e2]
          exact q
        · subst z
          have := Rd.fn r1 r2 (.inl ⟨_, rfl⟩) (.inl ⟨_, rfl⟩)
          cases this
          rw [e2]
          obtain ⟨_, _, _, _, _, _, _, _, nd⟩ := db
          exact bits_same I hk (kvs := kvs) (by rw [rb.keys]; exact nd) (fun _ h => h) bits
      · rename_i hl
        cases e
        refine ⟨fun E Q q => ?_, fun z => ?_⟩
        · refine PySem.W.rcP_dicts (knd := mixKind X.prog X.w) (r := true) na nb da db hu0 (fun z => absurd z (by omega)) E Q ?_
          rw [show (va.length == vb.length) = false by simp; omega, Bool.false_and]
          exact q
        · subst z
          have := Rd.fn r1 r2 (.inl ⟨_, rfl⟩) (.inl ⟨_, rfl⟩)
          cases this
          exact absurd rfl hl
    | @dT _ kvs' _ hne r2 _ d2 =>
      have h0 : kvs = [] := by
        rcases hkind with q | q
        · exact absurd (allK_t q.2) hne
        · exact allT_k q.1
      subst h0
      rw [List.length_map, List.length_map] at e
      have hp : 0 < kvs'.length := List.length_pos_iff.mpr hne
      rw [if_neg (by simp; omega)] at e
      cases e
      refine ⟨fun E Q q => ?_, fun z => ?_⟩
      · obtain ⟨_, nb, ys, rb, db⟩ := dt_rd I.hok r2
        have lb := Paired.length rb
        obtain ⟨na', da'⟩ := emptyD I r1
        refine rcIn_dictsH (f := fun _ => true) hu0 room1 na' nb da' db (fun z => absurd z (by simp; omega)) ?_
        rw [show (([] : List (List Key × Addr × Value)).length == ys.length) = false by simp; omega, Bool.false_and]
        exact q
      · subst z
        have := Rd.fn r1 r2 (.inl ⟨_, rfl⟩) (.inr ⟨_, rfl⟩)
        cases this
  | @dT _ kvs _ hne r1 _ d1 =>
    obtain ⟨z1, na, xs, ra, da⟩ := dt_rd I.hok r1
    have la := Paired.length ra
    have hp : 0 < kvs.length := List.length_pos_iff.mpr hne
    cases h2 with
    | @dK _ kvs' _ r2 _ d2 =>
      have h0 : kvs' = [] := by
        rcases hkind with q | q
        · exact absurd (allK_t q.1) hne
        · exact allT_k q.2
      subst h0
      rw [List.length_map, List.length_map] at e
      rw [if_neg (by simp; omega)] at e
      cases e
      refine ⟨fun E Q q => ?_, fun z => ?_⟩
      · obtain ⟨nb', db'⟩ := emptyD I r2
        refine rcIn_dictsH (f := fun _ => true) hu0 room1 na nb' da db' (fun z => by rw [List.length_nil] at z; omega) ?_
        rw [show (xs.length == ([] : List (List Key × Addr × Value)).length) = false by rw [List.length_nil, beq_eq_false_iff_ne]; omega, Bool.false_and]
        exact q
      · subst z
        have := Rd.fn r1 r2 (.inr ⟨_, rfl⟩) (.inl ⟨_, rfl⟩)
        cases this
    | @dT _ kvs' _ hne' r2 _ d2 =>
      obtain ⟨z2, nb, ys, rb, db⟩ := dt_rd I.hok r2
      have lb := Paired.length rb
      rw [List.length_map, List.length_map] at e
      split at e
      · rename_i hl
        obtain ⟨bs, e1, e2⟩ := allO_some e
        have bits := bits_of (kx := Kx.t) (κ := κ) (H := H) (Av := Av) (Av' := Av') (n := 30) (kvs := kvs) (vs := vs) (bs := bs) (fun k => atX_dt (k := k) d2) d1 e1
        have lbs : bs.length = xs.length := by rw [← la]; exact (Paired.length bits).symm
        refine ⟨fun E Q q => ?_, fun z => ?_⟩
        · refine rcIn_dictsH (f := fun i => bs.getD i true) hu0 room1 na nb da db (fun _ i x ex => hitsT I hk hu1 rb ra bits i x ex) ?_
          rw [show (xs.length == ys.length) = true by simp; omega, Bool.true_and, all_range lbs, ← e2]
          exact q
        · subst z
          have := Rd.fn r1 r2 (.inr ⟨_, rfl⟩) (.inr ⟨_, rfl⟩)
          cases this
          rw [e2]
          obtain ⟨_, _, _, _, _, _, _, _, nd⟩ := db
          have ek : kvs.map (·.1) = ys.map (·.1) := by
            refine List.ext_getElem? fun j => ?_
            rw [List.getElem?_map, List.getElem?_map]
            cases ej : ys[j]? with
            | none => rw [List.getElem?_eq_none (by have := List.getElem?_eq_none_iff.mp ej; omega)]; rfl
            | some y =>
              obtain ⟨p, ep, q1, _⟩ := DX.pget rb ej
              rw [ep, Option.map_some, Option.map_some, q1]
          exact bits_same I hk (kvs := kvs) (by rw [ek]; exact nd) (fun _ h => h) bits
      · rename_i hl
        cases e
        refine ⟨fun E Q q => ?_, fun z => ?_⟩
        · refine rcIn_dictsH (f := fun _ => true) hu0 room1 na nb da db (fun z => absurd z (by omega)) ?_
          rw [show (xs.length == ys.length) = false by simp; omega, Bool.false_and]
          exact q
        · subst z
          have := Rd.fn r1 r2 (.inr ⟨_, rfl⟩) (.inr ⟨_, rfl⟩)
          cases this
          exact absurd rfl hl
theorem eqU_in (I : Inv X pins σ H s) (hk : X.K = κ.K) {A : Around} (hu : A.units + 40 < cLine) {d e : D} {x y : V} {v u : Value} {b : Bool} (h1 : DV κ H Av x d) (h2 : DV κ H Av' y e) (r1 : RelV x v) (r2 : RelV y u) (h : eqU d e = some b) : SeqAt.EqIn X.prog X.w A s v u b := by
  have plain : eqF 30 d e = some b → SeqAt.EqIn X.prog X.w A s v u b := fun q => (eqF_at I hk 30 A (by omega) h1 h2 r1 r2 q).1.inModel X.prog X.w
  cases d with
  | dct ks vs =>
    cases e with
    | dct ks' vs' =>
      obtain ⟨a, _, rfl, _⟩ := h1.dct_inv
      obtain ⟨a', _, rfl, _⟩ := h2.dct_inv
      cases r1; cases r2
      obtain ⟨q1, q2⟩ := dct_rc I hk (A := A) (by omega) h1 h2 h
      by_cases z : a = a'
      · rw [q2 z, z]; exact (SeqAt.EqAt.same _).inModel _ _
      · exact SeqAt.EqIn.of_refs z fun E Q q => q1 E Q q
    | _ => exact plain h
  | _ => exact plain h
end
theorem zipU_at {f : D → D → Option Bool} : ∀ {xs ys : List D} {bs : List Bool}, List.zipWith f xs ys = bs.map some → ∀ {j : Nat} (h1 : j < xs.length) (h2 : j < ys.length), f xs[j] ys[j] = some (bs.getD j true)
  | x :: xs, y :: ys, b :: bs, e, 0, _, _ => by
    simp only [List.zipWith_cons_cons, List.map_cons, List.cons.injEq] at e
    exact e.1
  | x :: xs, y :: ys, b :: bs, e, j + 1, h1, h2 => by
    simp only [List.zipWith_cons_cons, List.map_cons, List.cons.injEq] at e
    simpa using zipU_at e.2 (j := j) (by simpa using h1) (by simpa using h2)
  | _ :: _, _ :: _, [], e, _, _, _ => by simp at e
  | [], _, _, _, _, h, _ => by simp at h
  | _ :: _, [], _, _, _, _, h => by simp at h
def rEqW (κ : Kt) (neg : Bool) : R2 := fun x y H Q => ∃ d e b Av Av', DV κ H Av x d ∧ DV κ H Av' y e ∧ eqW d e = some b ∧ Q (.bl (b != neg)) H
section
variable {κ : Kt} {X : Cx}
theorem eqW_rc {pins : List (Addr × Obj)} {σ : L2.St} {H : Hp} {s : Shared} {Av Av' : Addr → Prop} (I : Inv X pins σ H s) (hk : X.K = κ.K) (hu : X.A.units + 64 < cLine) {d e : D} {x y : V} {v u : Value} {b : Bool} (h1 : DV κ H Av x d) (h2 : DV κ H Av' y e) (r1 : RelV x v) (r2 : RelV y u) (h : eqW d e = some b)
    (E Q : Value → Shared → Prop) (q : Q (.bool b) s) : wpAny (model X.prog X.w) X.A (richCompare .Eq v u) Q E s := by
  unfold eqW at h
  split at h
  · rename_i b' eb
    cases h
    exact (eqF_at I hk 40 X.A (by omega) h1 h2 r1 r2 eb).2.1 X.prog X.w _ _ q
  · split at h
    · rename_i xs ys _
      split at h
      case isFalse => cases h
      rename_i hl
      obtain ⟨a, vs, rfl, sq, g⟩ := h1.tup_inv
      obtain ⟨a', ws, rfl, sq', g'⟩ := h2.tup_inv
      cases r1; cases r2
      obtain ⟨us, q1, pl, _⟩ := I.tuple (hk ▸ sq)
      obtain ⟨zs, q2, pl2, _⟩ := I.tuple (hk ▸ sq')
      obtain ⟨bs, e1, e2⟩ := allO_some h
      have l1 := g.length
      have l2 := g'.length
      have m1 := q1.length
      have m2 := q2.length
      have lb : bs.length = us.toArray.size := by
        have := congrArg List.length e1
        rw [List.length_zipWith, List.length_map] at this
        rw [List.size_toArray]; omega
      refine SeqAt.rcIn_tuples (e := fun j => bs.getD j true) pl pl2 (by omega) (fun j j1 j2 => ?_) ?_
      · rw [List.size_toArray] at j1 j2
        have z := eqU_in I hk (A := X.A.in1) (by show X.A.units + 1 + 40 < cLine; omega) (g.item (j := j) (by omega)) (g'.item (j := j) (by omega)) (Vals.item q1 (by omega) j1) (Vals.item q2 (by omega) j2) (zipU_at e1 (j := j) (by omega) (by omega))
        simpa using z
      · have hz : (us.toArray.size == zs.toArray.size) = true := by rw [List.size_toArray, List.size_toArray, beq_iff_eq]; omega
        have hm : min us.toArray.size zs.toArray.size = us.toArray.size := by rw [List.size_toArray, List.size_toArray]; omega
        rw [hz, hm, all_range lb, ← e2, Bool.and_true]
        exact q
    · rename_i ks vs ks' vs' _
      obtain ⟨a, _, rfl, _⟩ := h1.dct_inv
      obtain ⟨a', _, rfl, _⟩ := h2.dct_inv
      cases r1; cases r2
      exact (dct_rc I hk (by omega) h1 h2 h).1 E Q q
    · cases h
theorem op_eqW (hk : X.K = κ.K) (hu : X.A.units + 64 < cLine) : OpR X (compareOp .Eq) (rEqW κ false) := by
  intro pins s σ H x y v u Q I rx ry ⟨d, e, b, Av, Av', h1, h2, h3, q⟩
  exact eqW_rc I hk hu h1 h2 rx ry h3 _ _ ⟨.bl b, H, I, rfl, by simpa using q⟩
def eqDW (x y : D) : Option T := (eqW x y).map fun b => .fr (.bl b)
theorem v_eqW : VOp2 κ (rEqW κ false) eqDW := by
  intro H Q Av x y tx ty t hA hx hy e k
  obtain ⟨b, hb, rfl⟩ := Option.map_eq_some_iff.mp (show (eqW tx.view ty.view).map _ = some t from e)
  exact ⟨_, _, b, _, _, hx.dv, hy.dv, hb, k _ H (.here (by simpa using .bl b))⟩
end
def siKs : List Kx → Option (List SI)
  | [] => some []
  | .t [.inr x, .inl n] :: ks => (siKs ks).map ((x, n) :: ·)
  | _ => none
def siD (p : SI) : D := .tup [.str p.1, .int p.2]
def sortD2 : List D → Option T
  | [.dct ks vs] => match siKs ks with
    | some ps => if ps.length < 64 then some (.lst ((srtI ps).map siD)) else none
    | none => sortedD [.dct ks vs]
  | ds => sortedD ds
theorem siKs_k : ∀ {kvs : List (Key × V)} {ps : List SI}, siKs (kvs.map fun p => Kx.k p.1) = some ps → kvs = [] ∧ ps = []
  | [], ps, e => by cases e; exact ⟨rfl, rfl⟩
  | p :: r, ps, e => by cases e
theorem siKs_t : ∀ {kvs : List (List Key × V)} {ps : List SI}, siKs (kvs.map fun p => Kx.t p.1) = some ps → kvs.map (·.1) = ps.map siK
  | [], ps, e => by cases e; rfl
  | (k, v) :: r, ps, e => by
    unfold siKs at e
    simp only [List.map_cons] at e
    split at e
    · rename_i e1; cases e1
    · rename_i x n ks e1
      cases e1
      obtain ⟨qs, e2, rfl⟩ := Option.map_eq_some_iff.mp e
      rw [List.map_cons, List.map_cons, siKs_t e2]
      rfl
    · cases e
theorem dvs_si {κ : Kt} {H : Hp} {Av : Addr → Prop} (hA : ∀ p, (H p = none ∨ ∃ xs, H p = some (.tup xs)) → ¬ Av p) : ∀ {zs : List Addr} {ps : List SI}, Paired (fun b p => H b = some (.tup ((siK p).map kV))) zs ps → DVs κ H Av (zs.map V.ref) (ps.map siD)
  | [], [], .nil => .nil
  | b :: zs, p :: ps, .cons h t => .cons (.tup h (hA b (.inr ⟨_, h⟩)) (.cons (.str p.1) (.cons (.int p.2) .nil))) (dvs_si hA t)
theorem v_sort2 {κ : Kt} : VOpL κ (fun xs H Q => rSortDD κ.K xs H Q ∨ rSortSI xs H Q) sortD2 := by
  intro H Q Av vs ts t hA h e k
  unfold sortD2 at e
  split at e
  · rename_i ks ws e1
    split at e
    · rename_i ps e2
      split at e
      case isFalse => cases e
      rename_i hl
      cases e
      obtain ⟨v, t1, rfl, h1, h2⟩ := one_arg h e1
      obtain ⟨a, rfl, ⟨kvs, g1, rfl, g3⟩ | ⟨kvs, hne, g1, rfl, g3⟩⟩ := h1.dct h2
      · obtain ⟨rfl, rfl⟩ := siKs_k e2
        refine .inl (.inr ⟨a, [], [], rfl, g1, rfl, by decide, fun zs p hp hs hn => ?_⟩)
        rw [List.perm_nil.mp hp]
        exact k _ _ (.lst hn .nil)
      · exact .inr ⟨a, kvs, ps, rfl, g1, siKs_t e2, hl, fun zs l hp hn => k _ _ (.lst hn (dvs_si hA hp))⟩
    · exact .inl (v_sorted H Q Av vs ts t hA h (by rw [e1]; exact e) k)
  · exact .inl (v_sorted H Q Av vs ts t hA h e k)
theorem c_sort2 {X : Cx} (hc : X.calm = true) : CallR X (.builtin "sorted") (fun xs H Q => rSortDD X.K xs H Q ∨ rSortSI xs H Q) := (c_sorted hc).or (cr_sortSI hc)
end DL

set_option Elab.async false
set_option linter.all false
namespace DL
open PySem PySem.Spec PyProof.Rows L2
def rDictP : List V → Hp → VK → Prop := fun xs H Q => ∃ (l : Addr) (its : List V) (ps : List (List Key × V)), xs = [.ref l] ∧ H l = some (.lst its) ∧
  Paired (fun x (p : List Key × V) => ∃ T q, x = .ref T ∧ H T = some (.tup [.ref q, p.2]) ∧ H q = some (.tup (p.1.map kV))) its ps ∧ ∀ d, H d = none → Q (.ref d) (upd H d (tabT (ps.foldl (fun acc p => putK acc p.1 p.2) [])))
section
variable {X : Cx} {pins : List (Addr × Obj)} {σ : L2.St} {H : Hp} {s : Shared}
theorem pairs_heap (I : Inv X pins σ H s) : ∀ {its : List V} {ps : List (List Key × V)}, Paired (fun x (p : List Key × V) => ∃ T q, x = .ref T ∧ H T = some (.tup [.ref q, p.2]) ∧ H q = some (.tup (p.1.map kV))) its ps →
    ∃ (Tl : List Addr) (zs : List (List Key × Addr × Value)), its = Tl.map V.ref ∧ KT H ps zs ∧ Paired (fun T (z : List Key × Addr × Value) => s.heap.IsTuple T #[.ref z.2.1, z.2.2]) Tl zs
  | [], [], .nil => ⟨[], [], rfl, .nil, .nil⟩
  | x :: its, p :: ps, .cons h t => by
    obtain ⟨Tl, zs, e1, e2, e3⟩ := pairs_heap I t
    obtain ⟨T, q, rfl, hT, hq⟩ := h
    obtain ⟨us, rv, pl, _⟩ := I.tuple (.of hT)
    cases rv with
    | @cons _ u _ _ r1 r2 =>
      cases r2 with
      | @cons _ w _ _ r3 r4 =>
        cases r4
        cases r1
        exact ⟨T :: Tl, (p.1, q, w) :: zs, by rw [e1]; rfl, .cons ⟨rfl, hq, r3⟩ e2, .cons pl e3⟩
theorem stored_fold {H : Hp} : ∀ {ps : List (List Key × V)} {zs : List (List Key × Addr × Value)} {acc : List (List Key × V)} {xs : List (List Key × Addr × Value)}, KT H ps zs → KT H acc xs → KT H (ps.foldl (fun acc p => putK acc p.1 p.2) acc) (storedAllH xs zs)
  | [], [], _, _, .nil, h => h
  | p :: ps, z :: zs, acc, xs, .cons ⟨h1, h2, h3⟩ t, h => by
    have q : KT H (putK acc p.1 p.2) (storedH xs z.1 z.2.1 z.2.2) := by
      rw [← h1]
      exact h.put p.1 h2 h3
    exact stored_fold (ps := ps) (zs := zs) t q
theorem fold_len : ∀ {ps : List (List Key × V)} {acc : List (List Key × V)}, (ps.foldl (fun acc p => putK acc p.1 p.2) acc).length ≤ acc.length + ps.length
  | [], acc => Nat.le_refl _
  | p :: ps, acc => by
    have ih := fold_len (ps := ps) (acc := putK acc p.1 p.2)
    have : (putK acc p.1 p.2).length ≤ acc.length + 1 := by
      unfold putK
      split
      · rw [List.length_map]; omega
      · simp
    show (ps.foldl _ (putK acc p.1 p.2)).length ≤ _
    rw [List.length_cons]
    omega
end
theorem cr_dictP {X : Cx} (hc : X.calm = true) (hu : X.A.units + 64 < cLine) : CallR X (.type "dict") rDictP := by
  intro pins s σ H xs us Q I r ⟨l, its, ps, ex, hl, hp, q⟩
  subst ex
  obtain ⟨u, rfl, ru⟩ := vals1 r
  cases ru
  obtain ⟨Tl, zs, e1, kt, pt⟩ := pairs_heap I hp
  obtain ⟨zl, vs, n, rv, ho⟩ := (show ObjOk X.prog X.w H s.heap l (.lst its) from I.hok l _ hl)
  have ev : vs = Tl.map Value.ref := by
    rw [e1] at rv
    clear ho pt e1
    induction Tl generalizing vs with
    | nil => cases rv; rfl
    | cons T Tl ih => cases rv with | cons r1 r2 => cases r1; rw [ih _ r2]; rfl
  have lt : Tl.length = zs.length := Paired.length pt
  have lk : ps.length = zs.length := Paired.length kt
  have li : its.length = Tl.length := by rw [e1, List.length_map]
  have ok : PlainSeq "list" s.heap l vs.toArray ∧ PairItems s.heap vs.toArray (fun j => Tl.getD j 0) (zs.map fun z => (Value.ref z.2.1, z.2.2)) := by
    refine ⟨⟨_, n, ho, rfl, rfl, rfl⟩, by rw [List.size_toArray, ev, List.length_map, List.length_map]; exact lt, fun j k v e => ?_⟩
    rw [List.getElem?_map] at e
    obtain ⟨z, ez, ep⟩ := Option.map_eq_some_iff.mp e
    cases ep
    obtain ⟨T, eT, hT⟩ := DX.pget pt ez
    have eg : Tl.getD j 0 = T := by rw [List.getD_eq_getElem?_getD, eT]; rfl
    exact ⟨by rw [List.getElem?_toArray, ev, List.getElem?_map, eT]; show some (Value.ref T) = some (Value.ref (Tl.getD j 0)); rw [eg], .inl (show s.heap.IsTuple (Tl.getD j 0) _ by rw [eg]; exact hT)⟩
  refine call_dict_pairsH (knd := tupleKind (mixKind X.prog X.w)) (ps := zs) (PairArg.list l vs.toArray (fun j => Tl.getD j 0) (zs.map fun z => (Value.ref z.2.1, z.2.2))) (I.ok.hd hc) (by show X.A.units + 1 + 1 < cLine; omega) ok
    ⟨by rw [List.length_map], fun i key v e => ?_⟩ (fun h' hk x hx => ?_) (by rw [List.length_map]; omega) fun h' tk dd hk => ?_
  · have e : (zs.map fun z => (Value.ref z.2.1, z.2.2))[i]? = some (key, v) := e
    rw [List.getElem?_map] at e
    obtain ⟨z, ez, ep⟩ := Option.map_eq_some_iff.mp e
    cases ep
    exact ⟨z.1, z.2.1, ez, rfl⟩
  · obtain ⟨i, hi⟩ := List.mem_iff_getElem?.mp hx
    obtain ⟨p, ep, q1, q2, _⟩ := DX.pget kt hi
    obtain ⟨o, its', m, g1, g2, g3, g4⟩ := key_of I.hok q2
    rw [← q1]
    exact ⟨o, its', m, hk _ _ (Nat.ne_of_lt (Heap.lt_size g1)) (by simp) g1, g2, g3, g4⟩
  · have hn : H s.heap.objs.size = none := I.hok.fresh (Nat.le_refl _)
    have fin := stored_fold kt (acc := []) (xs := []) .nil
    obtain ⟨o, es, ep, g1, g2, g3, g4, _, g6⟩ := dd
    have I2 : Inv X pins σ (upd H s.heap.objs.size (.dT (ps.foldl (fun acc p => putK acc p.1 p.2) []))) { s with heap := h', toks := tk } := by
      refine I.laid (t' := tk) (fun b u e => hk b u (by simp) e) (Nat.le_refl _) ⟨?_, beq_eq_false_iff_ne.mpr (Nat.ne_of_gt I.big), _, fin.keeps fun c ys ec => by rw [upd_ne (ne_of_none ec hn)]; exact ec, o, es, ep, g1, g2, g3, g4, g6⟩
      have := fold_len (ps := ps) (acc := [])
      simp at this
      omega
    have q := q _ hn
    cases ed : ps.foldl (fun acc p => putK acc p.1 p.2) [] with
    | nil =>
      rw [ed] at q I2
      have I3 := Inv.toDK I2 upd_same
      rw [upd_upd] at I3
      exact ⟨.ref s.heap.objs.size, _, I3, rfl, q⟩
    | cons p r =>
      rw [ed] at q I2
      exact ⟨.ref s.heap.objs.size, _, I2, rfl, q⟩
def pairsT : List D → Option (List (List Key × D))
  | [] => some []
  | .tup [k, v] :: r => match keyX k with
    | some (.t k0) => (pairsT r).map ((k0, v) :: ·)
    | _ => none
  | _ => none
def dictT : List D → Option T
  | [.lst ds] => (pairsT ds).map fun ps => let acc := ps.foldl (fun acc p => putX acc.1 acc.2 (.t p.1) p.2) ([], [])
    .dct acc.1 acc.2
  | _ => none
section
variable {κ : Kt} {H : Hp} {Av : Addr → Prop}
theorem pairsT_v : ∀ {ds : List D} {vs : List V} {ps : List (List Key × D)}, DVs κ H Av vs ds → pairsT ds = some ps → ∃ qs : List (List Key × V), Paired (fun x (p : List Key × V) => ∃ T q, x = .ref T ∧ H T = some (.tup [.ref q, p.2]) ∧ H q = some (.tup (p.1.map kV))) vs qs ∧
    Paired (fun (q : List Key × V) (p : List Key × D) => q.1 = p.1 ∧ DV κ H Av q.2 p.2) qs ps
  | [], _, ps, .nil, e => by cases e; exact ⟨[], .nil, .nil⟩
  | d :: ds, _, ps, .cons h t, e => by
    unfold pairsT at e
    split at e
    · rename_i e1; cases e1
    · rename_i k v r e1
      cases e1
      split at e
      · rename_i k0 ek
        obtain ⟨ps', e2, rfl⟩ := Option.map_eq_some_iff.mp e
        obtain ⟨qs, q1, q2⟩ := pairsT_v t e2
        cases h with
        | @tup a xs _ r1 r2 r3 =>
          obtain ⟨x, y, rfl, hx, hy⟩ := DVs.two r3
          rcases key_v hx ek with ⟨k1, z, _⟩ | ⟨k1, b, z, rfl, eb⟩
          · cases z
          · cases z
            exact ⟨(k0, y) :: qs, .cons ⟨a, b, rfl, r1, eb⟩ q1, .cons ⟨rfl, hy⟩ q2⟩
      · cases e
    · cases e
theorem putT_fold : ∀ {qs : List (List Key × V)} {ps : List (List Key × D)} {acc : List (List Key × V)} {a : List Kx × List D}, Paired (fun (q : List Key × V) (p : List Key × D) => q.1 = p.1 ∧ DV κ H Av q.2 p.2) qs ps → a.1 = (acc.map fun p => Kx.t p.1) → DVs κ H Av (acc.map (·.2)) a.2 →
    (ps.foldl (fun acc p => putX acc.1 acc.2 (.t p.1) p.2) a).1 = ((qs.foldl (fun acc p => putK acc p.1 p.2) acc).map fun p => Kx.t p.1) ∧ DVs κ H Av ((qs.foldl (fun acc p => putK acc p.1 p.2) acc).map (·.2)) (ps.foldl (fun acc p => putX acc.1 acc.2 (.t p.1) p.2) a).2
  | [], [], acc, a, .nil, h1, h2 => ⟨h1, h2⟩
  | q :: qs, p :: ps, acc, a, .cons ⟨e, h⟩ t, h1, h2 => by
    obtain ⟨g1, g2⟩ := putX_ok (kx := Kx.t) kxt_inj (k := q.1) h h2
    rw [← h1] at g1 g2
    rw [e] at g1 g2
    exact putT_fold (qs := qs) (ps := ps) (acc := putK acc q.1 q.2) (a := putX a.1 a.2 (.t p.1) p.2) t (by rw [g2, e]) (by rw [e]; exact g1)
theorem v_dictT : VOpL κ rDictP dictT := by
  intro H Q Av vs ts t hA h e k
  unfold dictT at e
  split at e
  · rename_i ds e1
    obtain ⟨ps, e2, rfl⟩ := Option.map_eq_some_iff.mp e
    obtain ⟨v, t1, rfl, h1, h2⟩ := one_arg h e1
    obtain ⟨a, xs, rfl, g1, g2⟩ := h1.lst h2
    obtain ⟨qs, q1, q2⟩ := pairsT_v g2 e2
    obtain ⟨f1, f2⟩ := putT_fold q2 (acc := []) (a := ([], [])) rfl .nil
    refine ⟨a, xs, qs, rfl, g1, q1, fun d hd => k _ _ ⟨Same.upd hd, fun _ b e => by cases e; exact hd, d, rfl, ?_⟩⟩
    have keep : ∀ {o : HO} {ws : List V} {es : List D}, DVs κ H Av ws es → DVs κ (upd H d o) (fun b => Av b ∨ ((T.dct (ps.foldl (fun acc p => putX acc.1 acc.2 (.t p.1) p.2) ([], [])).1 (ps.foldl (fun acc p => putX acc.1 acc.2 (.t p.1) p.2) ([], [])).2).own = true ∧ V.ref d = .ref b)) ws es := fun {o ws es} z =>
      z.mono (fun b u e _ => Same.upd hd b u e) fun b e n y => y.elim n fun y => by cases y.2; exact e hd
    cases ed : qs.foldl (fun acc p => putK acc p.1 p.2) [] with
    | nil =>
      rw [ed] at f1 f2
      exact .inl ⟨[], upd_same, f1, keep f2⟩
    | cons p r =>
      rw [ed] at f1 f2
      exact .inr ⟨p :: r, List.cons_ne_nil _ _, upd_same, f1, keep f2⟩
  · cases e
end
end DL

set_option Elab.async false
set_option linter.all false
namespace DL
open PySem PySem.Spec PyProof.Rows L2
def posOf {α : Type} [DecidableEq α] (x : α) : List α → Option Nat
  | [] => none
  | y :: ys => if y = x then some 0 else (posOf x ys).map (· + 1)
theorem posOf_look {α β : Type} [BEq α] [LawfulBEq α] [DecidableEq α] {x : α} : ∀ {fs : List (α × β)} {i : Nat}, posOf x (fs.map (·.1)) = some i → ∃ v, fs[i]? = some (x, v) ∧ fs.lookup x = some v
  | (y, w) :: r, i, h => by
    unfold posOf at h
    simp only [List.map_cons] at h
    split at h
    · rename_i e; cases h; subst e; exact ⟨w, rfl, by simp [List.lookup]⟩
    · rename_i e
      obtain ⟨j, e2, rfl⟩ := Option.map_eq_some_iff.mp h
      obtain ⟨v, v1, v2⟩ := posOf_look e2
      have : (x == y) = false := by simp; exact fun z => e z.symm
      exact ⟨v, by simpa using v1, by rw [List.lookup, this]; exact v2⟩
theorem posOf_val {γ : Type} [DecidableEq γ] {x : γ} : ∀ {kvs : List (γ × V)} {i : Nat}, posOf x (kvs.map (·.1)) = some i → ∃ v, kvs[i]? = some (x, v) ∧ valV kvs x = some v
  | (y, w) :: r, i, h => by
    unfold posOf at h
    simp only [List.map_cons] at h
    split at h
    · rename_i e; cases h; subst e; exact ⟨w, rfl, valV_pos rfl⟩
    · rename_i e
      obtain ⟨j, e2, rfl⟩ := Option.map_eq_some_iff.mp h
      obtain ⟨v, v1, v2⟩ := posOf_val e2
      exact ⟨v, by simpa using v1, by rw [valV_neg e]; exact v2⟩
def eFldP (cs : List Nat) (n : Str) (f : M Rv) : M Rv := M.bind f fun r S => match r with
  | .slot i => match S[i]? with
    | some (some (.insN c ns _)) => if c ∈ cs then match posOf n ns with
        | some k => .ok (.sub i k) S
        | none => .stuck
      else .stuck
    | _ => .stuck
  | _ => .stuck
def eIxP (n : Str) (f : M Rv) : M Rv := M.bind f fun r S => match r with
  | .slot i => match S[i]? with
    | some (some (.dctN ks _)) => match posOf (.inr n) ks with
        | some k => .ok (.sub i k) S
        | none => .stuck
    | _ => .stuck
  | _ => .stuck
section
variable {X : Cx} {κ : Kt} {W : WX} {e : Expr} {fe : M Rv} {n : Str} {pos p1 p2 : Pos}
theorem Post.subP {B : Addr → Prop} {σ : Sg} {H H1 : Hp} {S S1 : En} {v w : G} {i k : Nat} (p : Post κ B σ H S H1 S1 v (.slot i)) (e : v.2[k]? = some w.1) : Post κ B σ H S H1 S1 w (.sub i k) := by
  have no : ∀ {u : G} {a}, ¬ TmpAt (.sub i k) u a := fun ⟨t, z, _⟩ => nomatch z
  exact ⟨p.keep, p.sub, fun a z => (no z).elim, p.good.weaken fun b z => z.imp id fun z => (no z).elim, v, p.rv, e⟩
theorem de_fldP (cs : List Nat) (hk : X.K = κ.K) (hc : ∀ c ∈ cs, Cls κ.K (κ.cA c) ∧ NoAttr κ.K (κ.cA c) n) (he : PE X e (tE κ W fe)) (hb : attributeBase e n X.env (eval e X.env) = eval e X.env := by rfl) :
    PE X (.Attribute e n pos) (tE κ W (eFldP cs n fe)) := (pe_fld he hb).weak fun ς H Q h => by
  obtain ⟨B, S, τ, rfl, g, o⟩ := tE_iff.mp h
  refine (Chain.refl g).bind o fun S1 H1 v r p o1 => ?_
  split at o1
  case h_2 => exact o1.elim
  rename_i i
  split at o1
  case h_2 => exact o1.elim
  rename_i c ns us et
  split at o1
  case isFalse => exact o1.elim
  rename_i hcs
  split at o1
  case h_2 => exact o1.elim
  rename_i k ek
  obtain ⟨w, w1, w2⟩ := p.good.slot i _ et
  rw [show τ[i]? = some (some v) from p.rv] at w1
  cases w1
  obtain ⟨⟨a, dx, fs, ea, ha, rfl, _⟩, gh⟩ := w2
  obtain ⟨x, x1, x2⟩ := posOf_look ek
  obtain ⟨c1, c2⟩ := hc c hcs
  rw [hk]
  refine ⟨a, _, dx, fs, x, ea, ha, c1, c2, x2, o1 (x, []) H1 (p.subP (w := (x, [])) ?_)⟩
  rw [gh a _ dx fs ea ha, List.getElem?_map, x1]
  rfl
theorem de_ixP {j} (hk : X.K = κ.K) (hu : X.A.units + 64 < cLine) (he : PE X e (tE κ W fe)) (hs : PlainIx (.Constant (.str n) j p1)) : PE X (.Subscript e (.Constant (.str n) j p1) pos) (tE κ W (eIxP n fe)) :=
  (pe_ix (ix_A (κ := κ) hk hu) he pe_str hs).weak fun ς H Q h => by
  obtain ⟨B, S, τ, rfl, g, o⟩ := tE_iff.mp h
  refine (Chain.refl g).bind o fun S1 H1 v r p o1 => ?_
  split at o1
  case h_2 => exact o1.elim
  rename_i i
  split at o1
  case h_2 => exact o1.elim
  rename_i ks us et
  split at o1
  case h_2 => exact o1.elim
  rename_i k ek
  obtain ⟨w, w1, w2⟩ := p.good.slot i _ et
  rw [show τ[i]? = some (some v) from p.rv] at w1
  cases w1
  obtain ⟨⟨a, kvs, ea, ha, rfl, _⟩, gh⟩ := w2
  obtain ⟨x, x1, x2⟩ := posOf_val ek
  refine .inr ⟨a, x, ea, .inl ⟨kvs, .inr n, .inl ha, rfl, x2.symm⟩, o1 (x, []) H1 (p.subP (w := (x, [])) ?_)⟩
  rw [gh a kvs ea ha, List.getElem?_map, x1]
  rfl
end
structure PV (X : Cx) (ks : List Str) (keys : List (Option Expr)) (vals : List Expr) (pos : Pos) (t : TA) : Prop where
  run : ∀ (pins : List (Addr × Obj)) (s : Shared) (σ : L2.St) (H : Hp) (R : List V → Hp → Prop), Inv X pins σ H s → t σ H R → wpAny (model X.prog X.w) X.A (evalPairs (pairTrees keys vals X.env pos)) (fun vs s' => ∃ xs H', Inv X pins σ H' s' ∧
    Paired (fun (p : Value × Value) (q : Str × V) => (∃ t, p.1 = .str q.1 t) ∧ RelV q.2 p.2) vs (ks.zip xs) ∧ xs.length = ks.length ∧ R xs H') X.xe s
section
variable {X : Cx} {κ : Kt} {W : WX} {ks : List Str} {k : Str} {keys : List (Option Expr)} {vals : List Expr} {v : Expr} {f : M Rv} {fs : M (List Rv)} {pos p1 : Pos} {t : TA}
theorem pv_nil : PV X [] [] [] pos (tA κ W eNil) := ⟨fun pins s σ H R I h => pairTrees_nil_walk ⟨[], H, I, .nil, rfl, nilA_red h⟩⟩
theorem pv_cons {j} (he : PE X v (tE κ W f)) (hr : PV X ks keys vals pos (tA κ W fs)) : PV X (k :: ks) (some (.Constant (.str k) j p1) :: keys) (v :: vals) pos (tA κ W (eCons f fs)) := ⟨fun pins s σ H R I h => by
  refine pairTrees_cons_walk (thn ((pe_str (x := k) (j := j) (pos := p1)).run pins s σ H (fun x H1 => x = .str k ∧ H1 = H) I ⟨rfl, rfl⟩) fun kv s1 ⟨x, H1, I1, rk, ex, eH⟩ => ?_)
  subst ex; subst eH
  obtain ⟨t, rfl⟩ := rk
  refine thn (he.run pins s1 σ H1 _ I1 (consA_red h)) fun vv s2 ⟨y, H2, I2, ry, q⟩ => ?_
  refine thn (hr.run pins s2 σ H2 _ I2 q) fun vs s3 ⟨xs, H3, I3, pr, hl, q3⟩ => ?_
  exact ⟨y :: xs, H3, I3, .cons ⟨⟨t, rfl⟩, ry⟩ pr, congrArg (· + 1) hl, q3⟩⟩
def tDisp (ks : List Str) (t : TA) : TE := fun σ H Q => t σ H fun xs H1 => ∀ D, H1 D = none → Q (.ref D) (upd H1 D (.dK ((ks.zip xs).map fun q => (Sum.inr q.1, q.2))))
theorem carries_of {P : Program} {w : World} : ∀ {vs : List (Value × Value)} {qs : List (Str × V)}, Paired (fun (p : Value × Value) (q : Str × V) => (∃ t, p.1 = .str q.1 t) ∧ RelV q.2 p.2) vs qs → ∃ kvs : List (Key × Value), Carries (mixKind P w) vs kvs ∧ KV (qs.map fun q => (Sum.inr q.1, q.2)) kvs
  | [], [], .nil => ⟨[], True.intro, .nil⟩
  | (a, b) :: vs, q :: qs, .cons ⟨⟨t, e⟩, r⟩ rest => by
    obtain ⟨kvs, h1, h2⟩ := carries_of (P := P) (w := w) rest
    have e : a = .str q.1 t := e
    subst e
    exact ⟨(.inr q.1, b) :: kvs, ⟨mixKind_str P w q.1 t, rfl, h1⟩, .cons ⟨rfl, r⟩ h2⟩
theorem pe_disp (hv : PV X ks keys vals pos t) (hn : ks.Nodup) (hall : keys.all (·.isSome) = true) (hl : keys.length = vals.length) (h0 : keys ≠ []) (hlen : keys.length ≤ 15) (hkl : ks.length = keys.length) : PE X (.Dict keys vals pos) (tDisp ks t) := ⟨fun pins s σ H Q I h => by
  have fp := I.fpOk (b := s.heap.objs.size) (H' := H) (Nat.le_refl _) (I.hok.fresh (Nat.le_refl _))
  refine wpAny_Dict_walk (knd := mixKind X.prog X.w) hall hl h0 hlen ?_
  have I0 : Inv X pins σ H { s with heap := s.heap.push { cls := .type "dict", data := .dict #[] } } := I.kept (t' := s.toks) fun b u e => Heap.get?_push_of_some _ e
  have I1 := I0.pins_of (pins' := (s.heap.objs.size, { cls := .type "dict", data := .dict #[] }) :: pins) fun p hp => by
    rcases List.mem_cons.mp hp with e | e
    · subst e; exact ⟨Heap.get?_push_size _ rfl, fp.1, fp.2.1, fp.2.2.1, fun v z => nomatch z⟩
    · exact I0.pin p (List.mem_append_right _ e)
  refine thn (hv.run _ _ σ H _ I1 h) fun vs s1 ⟨xs, H1, I2, pr, hxl, q⟩ => ?_
  obtain ⟨g1, g2, _⟩ := I2.pin (s.heap.objs.size, { cls := .type "dict", data := .dict #[] }) (List.mem_append_right _ List.mem_cons_self)
  obtain ⟨kvs, c1, c2⟩ := carries_of (P := X.prog) (w := X.w) pr
  have nd : (kvs.map (·.1)).Nodup := by
    rw [← c2.keys, List.map_map]
    have : ((ks.zip xs).map ((fun x : Key × V => x.1) ∘ fun q => (Sum.inr q.1, q.2))) = ks.map Sum.inr := by
      rw [show ((fun x : Key × V => x.1) ∘ fun q : Str × V => (Sum.inr q.1, q.2)) = (Sum.inr : Str → Key) ∘ Prod.fst from rfl, ← List.map_map, List.map_fst_zip (by omega)]
    rw [this]
    exact hn.map _ fun a b z e => z (Sum.inr.inj e)
  refine ⟨kvs, c1, (Heap.DictOf.new s.heap).at' fun o e => ?_, fun h' dd hs => ?_⟩
  · rw [Heap.get?_push_size _ rfl] at e; cases e; exact g1
  · rw [merged_nil_of_nodup kvs nd] at dd
    have I3 : Inv X pins σ H1 s1 := I2.pins_of fun p hp => I2.pin p (List.mem_append_right _ (List.mem_cons_of_mem _ hp))
    have hz : ((ks.zip xs).map fun q => ((Sum.inr q.1, q.2) : Key × V)).length ≤ sizeLine := by
      rw [List.length_map, List.length_zip, sizeLine_eq]; omega
    exact ⟨.ref s.heap.objs.size, _, Inv.take (t' := s1.toks + vs.length) I3 (fun b ob hb e => (hs.2 b hb).trans e) ⟨g2, fp.2⟩ (dk_new hz (beq_eq_false_iff_ne.mpr (Nat.ne_of_gt I.big)) c2 dd), rfl, q _ g2⟩⟩
end
def tmpsU : List Rv → Option (List U)
  | [] => some []
  | .tmp t :: rs => match t.toU with
    | some u => (tmpsU rs).map (u :: ·)
    | none => none
  | _ => none
def eDispN (ks : List Str) (fs : M (List Rv)) : M Rv := M.bind fs fun rs S => match tmpsU rs with
  | some us => if us.length = ks.length then .ok (.tmp (.dctN (ks.map .inr) us)) S else .stuck
  | none => .stuck
section
variable {κ : Kt} {W : WX} {B : Addr → Prop} {σ : Sg} {H H1 : Hp} {S S1 : En} {vs : List G} {rs : List Rv} {us : List U}
theorem tmpsU_get : ∀ {rs : List Rv} {us : List U}, tmpsU rs = some us → us.length = rs.length ∧ ∀ (i : Nat) (u : U), us[i]? = some u → ∃ t, rs[i]? = some (.tmp t) ∧ t.toU = some u
  | [], us, e => by cases e; exact ⟨rfl, fun i u e => by simp at e⟩
  | .tmp t :: rs, us, e => by
    unfold tmpsU at e
    split at e
    · rename_i u eu
      obtain ⟨us', e2, rfl⟩ := Option.map_eq_some_iff.mp e
      obtain ⟨h1, h2⟩ := tmpsU_get e2
      refine ⟨congrArg (· + 1) h1, fun i w ew => ?_⟩
      cases i with
      | zero => cases ew; exact ⟨t, rfl, eu⟩
      | succ i => exact h2 i w (by simpa using ew)
    · cases e
  | .slot _ :: _, us, e => by cases e
  | .sub _ _ :: _, us, e => by cases e
theorem PostL.parts (p : PostL κ B σ H S H1 S1 vs rs) (e : tmpsU rs = some us) {D : Addr} {o : HO} (hD : H1 D = none) (ho : ∀ xs, o ≠ .tup xs) {t : T} (hp : t.parts = us) (hown : t.own = true)
    (htr : Paired (PR κ (upd H1 D o) (AvS (Bx B (.tmp t) (.ref D, vsV vs)) S1 σ)) (vsV vs) us → Dst D (vsV vs) us → TRG κ (upd H1 D o) (AvS (Bx B (.tmp t) (.ref D, vsV vs)) S1 σ) (.ref D, vsV vs) t) : Post κ B σ H S (upd H1 D o) S1 (.ref D, vsV vs) (.tmp t) := by
  obtain ⟨el, eg⟩ := tmpsU_get e
  have same : Same H1 (upd H1 D o) := Same.upd hD
  have lv : vs.length = rs.length := p.lens
  -- what is held: the new object, and what the temporaries held
  have tm : ∀ a, TmpAt (.tmp t) (.ref D, vsV vs) a → a = D ∨ TmpsAt rs vs a := fun a ⟨u, e1, _, z⟩ => by
    cases e1
    rcases z with z | ⟨k, u, z1, z2, z3⟩
    · cases z; exact .inl rfl
    · rw [hp] at z1
      obtain ⟨t', f1, f2⟩ := eg k u z1
      unfold vsV at z3
      rw [List.getElem?_map] at z3
      obtain ⟨w, w1, w2⟩ := Option.map_eq_some_iff.mp z3
      exact .inr ⟨k, _, w, f1, w1, t', rfl, by rw [toU_own f2]; exact z2, .inl w2⟩
  have mt : ∀ (k : Nat) (u : U) (a : Addr), us[k]? = some u → u.own = true → (vsV vs)[k]? = some (.ref a) → ∃ r w, rs[k]? = some r ∧ vs[k]? = some w ∧ TmpAt r w a := fun k u a z1 z2 z3 => by
    obtain ⟨t', f1, f2⟩ := eg k u z1
    unfold vsV at z3
    rw [List.getElem?_map] at z3
    obtain ⟨w, w1, w2⟩ := Option.map_eq_some_iff.mp z3
    exact ⟨_, w, f1, w1, t', rfl, by rw [toU_own f2]; exact z2, .inl w2⟩
  have nD : ∀ a, TmpsAt rs vs a → a ≠ D := fun a z e => by subst e; exact (p.good.trk a (.inr z)).nn hD
  have gB : Good κ (Bx B (.tmp t) (.ref D, vsV vs)) (upd H1 D o) σ S1 := p.good.more (fun b z => by
    rcases z with z | z
    · exact .inl (.inl z)
    · rcases tm b z with z | z
      · subst z; exact .inr ⟨.of upd_same ho, hD⟩
      · exact .inl (.inr z)) same
  have ch : Chain κ B σ H S (BxL B rs vs) H1 S1 := ⟨p.keep, p.sub, fun _ z => .inl z, p.good⟩
  refine ⟨fun b w eb n => same b w (p.keep b w eb n), p.sub, fun a z => ?_, gB, ?_⟩
  · rcases tm a z with q | q
    · subst q; exact ch.newer hD
    · exact p.tnew a q
  · refine htr ?_ ⟨fun k u z1 z2 z3 => ?_, fun j k u w a z1 z2 z3 z4 z5 z6 => ?_⟩
    · refine paired_of (by rw [vsV_len, lv, el]) fun j v u e1 e2 => ?_
      obtain ⟨t', f1, f2⟩ := eg j u e2
      unfold vsV at e1
      rw [List.getElem?_map] at e1
      obtain ⟨w, w1, rfl⟩ := Option.map_eq_some_iff.mp e1
      obtain ⟨r, r1, r2⟩ := paired_get p.rv w1
      rw [f1] at r1; cases r1
      have r2 : TRG κ H1 (AvS (BxL B rs vs) S1 σ) w t' := r2
      refine PR.ofT (TR.mono r2.tr (fun b q z => same b q z) fun b n z y => z ?_) f2
      rcases y with (y | y) | y
      · exact .inl (.inl y)
      · rcases tm b y with y | y
        · subst y; exact (n hD).elim
        · exact .inl (.inr y)
      · exact .inr y
    · obtain ⟨r, w, h1, h2, h3⟩ := mt k u D z1 z2 z3
      exact nD D ⟨k, r, w, h1, h2, h3⟩ rfl
    · obtain ⟨r1, w1, h1, h2, h3⟩ := mt j u a z1 z2 z5
      obtain ⟨r2, w2, g1, g2, g3⟩ := mt k w a z3 z4 z6
      exact p.dist j k r1 r2 w1 w2 a h1 g1 h2 g2 h3 g3
theorem disp_red {ks : List Str} {fs : M (List Rv)} {ς : L2.St} {Q : VK} (h : tE κ W (eDispN ks fs) ς H Q) : tDisp ks (tA κ W fs) ς H Q := by
  obtain ⟨B, S, σ, rfl, g, o⟩ := tE_iff.mp h
  refine (Chain.refl g).bindL o fun S1 H1 vs rs p o1 => ?_
  intro D hD
  split at o1
  · rename_i us eu
    split at o1
    · rename_i hl
      have lv : vs.length = rs.length := p.lens
      have lu := (tmpsU_get eu).1
      have e1 : ((ks.zip (vsV vs)).map fun q => ((Sum.inr q.1, q.2) : Key × V)).map (·.2) = vsV vs := by
        rw [List.map_map]
        exact List.map_snd_zip (by rw [vsV_len]; omega)
      have e2 : ks.map Sum.inr = ((ks.zip (vsV vs)).map fun q => ((Sum.inr q.1, q.2) : Key × V)).map (·.1) := by
        rw [List.map_map, show ((fun x : Key × V => x.1) ∘ fun q : Str × V => (Sum.inr q.1, q.2)) = (Sum.inr : Str → Key) ∘ Prod.fst from rfl, ← List.map_map, List.map_fst_zip (by rw [vsV_len]; omega)]
      refine o1 (.ref D, vsV vs) _ (p.parts eu hD (by intro _ z; cases z) rfl rfl fun q1 q2 => ⟨⟨D, _, rfl, upd_same, e2, by rw [e1]; exact q1, by rw [e1]; exact q2⟩, fun a kvs z1 z2 => ?_⟩)
      cases z1
      rw [upd_same] at z2; cases z2
      exact e1.symm
    · exact o1.elim
  · exact o1.elim
end
theorem de_disp {X : Cx} {κ : Kt} {W : WX} {ks : List Str} {keys : List (Option Expr)} {vals : List Expr} {fs : M (List Rv)} {pos : Pos} (hv : PV X ks keys vals pos (tA κ W fs)) (hn : ks.Nodup) (hall : keys.all (·.isSome) = true) (hl : keys.length = vals.length) (h0 : keys ≠ []) (hlen : keys.length ≤ 15) (hkl : ks.length = keys.length) :
    PE X (.Dict keys vals pos) (tE κ W (eDispN ks fs)) := (pe_disp hv hn hall hl h0 hlen hkl).weak fun σ H Q h => disp_red h
end DL

set_option Elab.async false
set_option linter.all false
namespace DL
open PySem PySem.Spec PyProof.Rows L2
def initS (x dx C : Addr) : List Str → List (Str × V) → Hp → (Hp → Prop) → Prop
  | [], _, H, k => k H
  | f :: ns, fs, H, k => ∀ D, H D = none → initS x dx C ns (putF f (.ref D) fs) (upd (upd H D (.dK [])) x (.ins C dx (putF f (.ref D) fs))) k
def spNew (C : Addr) (ns : List Str) : Sp := fun vs H Q _ => ∃ x dx, vs = [.ref x] ∧ H x = some (.ins C dx []) ∧ initS x dx C ns [] H fun H' => Q .non H'
def tInit (C : Addr) (ns : List Str) : TS := fun D σ H => ∃ x dx fs, σ[0]? = some (some (.ref x)) ∧ H x = some (.ins C dx fs) ∧ fs.length + ns.length < 1000 ∧ initS x dx C ns fs H fun H' => D.nx σ H'
section
variable {X : Cx} {C : Addr} {ns : List Str} {f : Str} {o : Expr} {tpos p2 pos : Pos} {rest : List Stmt}
theorem init_nil : PSs X [] (tInit C []) := ⟨fun pins s σ H D I ⟨x, dx, fs, _, _, _, q⟩ => pss_nil.run pins s σ H D I q⟩
theorem putF_len (f : Str) (v : V) : ∀ fs : List (Str × V), (putF f v fs).length ≤ fs.length + 1
  | [] => Nat.le_refl _
  | (g, w) :: r => by
    unfold putF
    split
    · simp
    · have := putF_len f v r
      simp; omega
theorem init_cons (ho : PE X o (tVar 0)) (cl : Cls X.K C) (na : NoAttr X.K C f) (h : PSs X rest (tInit C ns)) (hs : swapsWith (.Dict [] [] p2) (some (.Attribute o f tpos)) pos.line X.env = pure false := by rfl) :
    PSs X (.Assign [.Attribute o f tpos] (.Dict [] [] p2) pos :: rest) (tInit C (f :: ns)) := ⟨fun pins s σ H D I ⟨x, dx, fs, e0, ex, hl, q⟩ => by
  rw [List.length_cons] at hl
  refine (pss_cons (ps_fld ho pe_dnewK hs) h).run pins s σ H D I fun p hp => ⟨.ref x, e0, x, C, dx, fs, rfl, ?_, cl, na, by omega, x, dx, _, e0, upd_same, ?_, q p hp⟩
  · rw [upd_ne (ne_of_none ex hp)]; exact ex
  · have := putF_len f (.ref p) fs
    omega⟩
end
section
variable {P : Program} {w : World} {K : PySem.W.Frag} {mg : Str → Option Value} {base : Heap} {x qual : Str} {params : Arguments} {body : List Stmt} {scope : Scope} {dvs : List V} {kws : List (Str × V)} {f : Addr} {fd : FuncData} {CX : CXT} {N ps : List Str} {k : Nat} {C : Addr} {ns : List Str}
theorem fnNew_ok (F : FunD K x qual params body scope dvs kws f fd) (S : FnScope N ps scope) (hp : ps.length = 1) (hl : ns.length < 1000)
    (hbody : ∀ (cdv : Value) (A : Around) (outer : List Env) (s : Shared) (H : Hp) (E : XK), Room k (A.deeper (envOfC qual scope s.heap.objs.size f cdv)) → PSs (cxOf CX P w K mg base N qual scope f cdv A outer s H E) body (tInit C ns)) :
    FnOk P w K mg base CX (k + 1) f fd ps (spNew C ns) :=
  F.ok S (fun vs H Q E ⟨x, dx, e, _⟩ => by rw [e, hp]; rfl) fun cdv A outer s H vs Q E hr ⟨x, dx, e, ex, q⟩ => ⟨_, hbody cdv A outer s H E hr, by
    subst e
    exact ⟨x, dx, [], rfl, ex, by simpa using hl, q⟩⟩
end
structure NewOk (P : Program) (w : World) (K : PySem.W.Frag) (mg : Str → Option Value) (base : Heap) (CX : CXT) (k : Nat) (κ : Kt) (c : Nat) (x : Str) (ns : List Str) : Prop where
  ex : ∃ (f : Addr) (fd : FuncData) (ps : List Str), mg x = some (.ref (κ.cA c)) ∧ Mk K (κ.cA c) f ∧ Binds K fd ps [] ∧ FnOk P w K mg base CX k f fd ps (spNew (κ.cA c) ns)
def eNewN (c : Nat) (ns : List Str) : M Rv := fun S => .ok (.tmp (.insN c ns (ns.map fun _ => .dct [] []))) S
structure OnW (H : Hp) (x dx C : Addr) (H0 : Hp) (fs : List (Str × V)) : Prop where
  at_ : H0 x = some (.ins C dx fs)
  new : H x = none
  keep : ∀ b o, H b = some o → H0 b = some o
  prt : ∀ (k : Nat) v, (fs.map (·.2))[k]? = some v → ∃ D, v = .ref D ∧ H0 D = some (.dK []) ∧ H D = none ∧ D ≠ x
  inj : ∀ (j k : Nat) D, (fs.map (·.2))[j]? = some (.ref D) → (fs.map (·.2))[k]? = some (.ref D) → j = k
theorem putF_new {f : Str} {v : V} : ∀ {fs : List (Str × V)}, f ∉ fs.map (·.1) → putF f v fs = fs ++ [(f, v)]
  | [], _ => rfl
  | (g, w) :: r, h => by
    simp only [List.map_cons, List.mem_cons, not_or] at h
    unfold putF
    rw [if_neg (fun z => h.1 z.symm), putF_new h.2]
    rfl
theorem initS_of {H : Hp} {x dx C : Addr} : ∀ {ns : List Str} {fs : List (Str × V)} {H0 : Hp} {k : Hp → Prop}, OnW H x dx C H0 fs → (fs.map (·.1) ++ ns).Nodup → (∀ H' fs', OnW H x dx C H' fs' → fs'.map (·.1) = fs.map (·.1) ++ ns → k H') → initS x dx C ns fs H0 k
  | [], fs, H0, k, w, _, hk => hk H0 fs w (by simp)
  | f :: ns, fs, H0, k, w, hn, hk => fun D hD => by
    have hf : f ∉ fs.map (·.1) := fun z => by
      have := (List.nodup_append.mp hn).2.2 f z f List.mem_cons_self
      exact this rfl
    have hDx : D ≠ x := fun z => by rw [z, w.at_] at hD; cases hD
    have hHD : H D = none := by
      cases e : H D with
      | none => rfl
      | some o => rw [w.keep D o e] at hD; cases hD
    rw [putF_new hf]
    have gets : ∀ (k : Nat) v, ((fs ++ [(f, V.ref D)]).map (·.2))[k]? = some v → ((fs.map (·.2))[k]? = some v) ∨ (k = fs.length ∧ v = .ref D) := fun k v e => by
      rw [List.map_append] at e
      by_cases hk : k < (fs.map (·.2)).length
      · rw [List.getElem?_append_left hk] at e; exact .inl e
      · rw [List.getElem?_append_right (by omega)] at e
        rw [List.length_map] at hk e
        by_cases hz : k - fs.length = 0
        · rw [hz] at e; cases e; exact .inr ⟨by omega, rfl⟩
        · obtain ⟨m, hm⟩ := Nat.exists_eq_succ_of_ne_zero hz
          rw [hm] at e; simp at e
    have nD : ∀ (k : Nat), (fs.map (·.2))[k]? ≠ some (.ref D) := fun k e => by
      obtain ⟨D', q1, q2, _⟩ := w.prt k _ e
      cases q1
      rw [q2] at hD; cases hD
    refine initS_of ⟨upd_same, w.new, fun b o e => ?_, fun k v e => ?_, fun j k D' e1 e2 => ?_⟩ (by rw [List.map_append]; simpa using hn) fun H' fs' w' e => hk H' fs' w' (by rw [e, List.map_append]; simp)
    · rw [upd_ne (ne_of_none e w.new), upd_ne (ne_of_none e hHD)]; exact w.keep b o e
    · rcases gets k v e with e | ⟨_, rfl⟩
      · obtain ⟨D', q1, q2, q3, q4⟩ := w.prt k v e
        exact ⟨D', q1, by rw [upd_ne q4, upd_ne (fun z => by subst z; rw [q2] at hD; cases hD)]; exact q2, q3, q4⟩
      · exact ⟨D, rfl, by rw [upd_ne hDx, upd_same], hHD, hDx⟩
    · rcases gets j _ e1 with e1 | ⟨h1, e1⟩
      · rcases gets k _ e2 with e2 | ⟨h2, e2⟩
        · exact w.inj j k D' e1 e2
        · cases e2; exact (nD j e1).elim
      · rcases gets k _ e2 with e2 | ⟨h2, e2⟩
        · cases e1; exact (nD k e2).elim
        · rw [h1, h2]
section
variable {κ : Kt} {W : WX} {c : Nat} {ns : List Str} {ς : L2.St} {H : Hp} {Q : VK}
theorem newN_red (hn : ns.Nodup) (h : tE κ W (eNewN c ns) ς H Q) {E : XK} : ∀ x dx, H x = none → H dx = none → dx ≠ x → spNew (κ.cA c) ns [.ref x] (upd (upd H dx (.own x)) x (.ins (κ.cA c) dx [])) (fun v H2 => v = .non ∧ Q (.ref x) H2) E := by
  obtain ⟨B, S, σ, rfl, g, o⟩ := tE_iff.mp h
  intro x dx hx hd hne
  refine ⟨x, dx, rfl, upd_same, initS_of (H := H) (fs := []) ⟨upd_same, hx, fun b o e => by rw [upd_ne (ne_of_none e hx), upd_ne (ne_of_none e hd)]; exact e, fun k v e => by simp at e, fun j k D e => by simp at e⟩ (by simpa using hn) fun H' fs w en => ⟨rfl, ?_⟩⟩
  have en : fs.map (·.1) = ns := by simpa using en
  have us : ∀ (k : Nat) (u : U), (ns.map fun _ => U.dct [] [])[k]? = some u → u = .dct [] [] := fun k u e => by
    rw [List.getElem?_map] at e
    obtain ⟨_, _, rfl⟩ := Option.map_eq_some_iff.mp e
    rfl
  have lf : fs.length = ns.length := by rw [← en, List.length_map]
  refine o (.ref x, fs.map (·.2)) H' ((Chain.refl g).finG ⟨w.keep, fun a z => ?_, ?_⟩)
  · rcases z.2 with z | ⟨k, u, z1, z2, z3⟩
    · cases z; exact hx
    · obtain ⟨D, q1, _, q3, _⟩ := w.prt k _ z3
      cases q1; exact q3
  · refine ⟨⟨x, dx, fs, rfl, w.at_, en.symm, paired_of (by simp [lf]) fun j v u e1 e2 => ?_, ⟨fun k u e1 e2 e3 => ?_, fun j k u w' p e1 e2 e3 e4 e5 e6 => w.inj j k p e5 e6⟩⟩, fun a C dx2 fs2 e1 e2 => ?_⟩
    · rw [us j u e2]
      obtain ⟨D, q1, q2, _⟩ := w.prt j v e1
      exact ⟨D, q1, .inl ⟨[], q2, rfl, .nil⟩⟩
    · obtain ⟨D, q1, _, _, q4⟩ := w.prt k _ e3
      cases q1; exact q4 rfl
    · cases e1
      rw [w.at_] at e2; cases e2; rfl
end
theorem de_newN {X : Cx} {κ : Kt} {W : WX} {CX : CXT} {k : Nat} {x : Str} {c : Nat} {ns : List Str} {pos p : Pos} (D : NewOk X.prog X.w X.K X.mg X.base CX k κ c x ns) (hn : ns.Nodup) (hr : Room (k + 1) X.A) (hx : ∀ σ, PassesAt CX X σ (WE W σ)) (hg : Gl X x) (hdb : (x == ("__debug__" : Str)) = false := by decide) :
    PE X (.Call (.Name x p) [] [] pos) (tE κ W (eNewN c ns)) := by
  obtain ⟨g, fd, ps, hm, hk, hb, hF⟩ := D.ex
  exact ⟨fun pins s σ H Q I h => wpAny_Call_Name_kw (ld_glob I hg hm (PySem.W.callWith_K0 I.kIn hk.kp (run_makeE (us := []) hk hF hr hb (hx σ) I .nil (newN_red hn h))) hdb)⟩
end DL

set_option Elab.async false
set_option linter.all false
namespace DL
open PySem PySem.Spec PyProof.Rows L2
def eCkA (ck : List D → Bool) (fs : M (List Rv)) : M (List Rv) := M.bind fs fun rs S => match viewRs rs S with
  | some ds => if ck ds = true then .ok rs S else .stuck
  | none => .stuck
def tagE : D → Option Tg
  | .non => some (.ty "NoneType")
  | .bl _ => some (.ty "bool")
  | .int _ => some (.ty "int")
  | .str _ => some (.ty "str")
  | .dct _ _ => some (.ty "dict")
  | .ins c _ _ => some (.cls c)
  | _ => none
def ckEq (c : Nat) (nf : Tg → Bool) : List D → Bool
  | [.ins c' _ _, d] => decide (c' = c) && (tagE d).any nf
  | _ => false
section
variable {κ : Kt} {W : WX} {fs : M (List Rv)} {ς : L2.St} {H : Hp} {R : List V → Hp → Prop}
theorem ckA_red {ck : List D → Bool} (h : tA κ W (eCkA ck fs) ς H R) : tA κ W fs ς H fun vs H1 => (∃ Av ts, Paired (TR κ H1 Av) vs ts ∧ ck (ts.map T.view) = true) ∧ R vs H1 := by
  obtain ⟨B, S, σ, rfl, g, o⟩ := h
  refine ⟨B, S, σ, rfl, g, ?_⟩
  unfold eCkA M.bind at o
  cases e : fs S with
  | exc x S1 => rw [e] at o; exact o
  | stuck => rw [e] at o; exact o
  | ok rs S1 =>
    rw [e] at o
    dsimp only at o
    split at o
    · rename_i ds ed
      split at o
      · rename_i hc
        intro vs H1 p
        obtain ⟨ts, t1, t2⟩ := p.good.views p.rv ed
        exact ⟨⟨_, ts, t1, by rw [t2]; exact hc⟩, o vs H1 p⟩
      · exact o.elim
    · exact o.elim
theorem look_tag {X : Cx} {pins : List (Addr × Obj)} {σ : L2.St} {s : Shared} (I : Inv X pins σ H s) {Av : Addr → Prop} {y : V} {d : D} {t : Tg} {u : Value} (h : DV κ H Av y d) (e : tagE d = some t) (r : RelV y u) : PySem.W.Looks (model X.prog X.w) s.heap (typeOf u) (t.val κ) := by
  have ref : ∀ {a : Addr} {o : Obj} {T : Value}, s.heap.get? a = some o → o.cls = T → PySem.W.Looks (model X.prog X.w) s.heap (typeOf (.ref a)) T := fun {a o T} e1 e2 => by
    have z : PySem.W.Looks (model X.prog X.w) s.heap (typeOf (.ref a)) o.cls := (PySem.W.Looks.ld e1).andThen .now
    rw [e2] at z
    exact z
  cases d with
  | non => cases e; cases h; cases r; exact .of_pure rfl
  | bl b => cases e; cases h; cases r; exact .of_pure rfl
  | int i => cases e; cases h; obtain ⟨t, rfl⟩ := r; exact .of_pure rfl
  | str x => cases e; cases h; obtain ⟨t, rfl⟩ := r; exact .of_pure rfl
  | dct ks vs =>
    cases e
    cases h with
    | dK h1 _ _ =>
      cases r
      obtain ⟨_, _, _, _, dd⟩ := dk_rd I.hok h1
      obtain ⟨o, h2, h3⟩ := dd.typeIs (s := s)
      exact ref h2 h3
    | dT _ h1 _ _ =>
      cases r
      obtain ⟨_, _, _, _, dd⟩ := dt_rd I.hok h1
      obtain ⟨o, h2, h3⟩ := dd.typeIs (s := s)
      exact ref h2 h3
  | ins c ns vs =>
    cases e
    cases h with
    | ins h1 _ _ =>
      cases r
      obtain ⟨mA, J, _⟩ := ins_get I.hok h1
      obtain ⟨od, J, _⟩ := J.look
      exact J.type
  | _ => cases e
end
structure EqOk (P : Program) (w : World) (K : PySem.W.Frag) (mg : Str → Option Value) (base : Heap) (k : Nat) (κ : Kt) (c : Nat) (F : FD) : Prop where
  ex : ∃ (f : Addr) (fd : FuncData) (ps : List Str), PySem.W.findIn K (.ref (κ.cA c)) "__eq__" = some (some (.ref f)) ∧ PySem.W.isFn K (.ref f) = true ∧ Binds K fd ps [] ∧ FnOk P w K mg base CX0 k f fd ps (spD κ F)
def rOwnEq (κ : Kt) (K : PySem.W.Frag) (c : Nat) (F : FD) : R2 := fun x y H Q => (∃ Av a dx fs d t, x = .ref a ∧ H a = some (.ins (κ.cA c) dx fs) ∧ DV κ H Av y d ∧ tagE d = some t ∧ PySem.W.notFirst K (κ.cA c) (t.val κ) = true) ∧ spD κ F [x, y] H Q E0
theorem op_ownEq {X : Cx} {κ : Kt} {k c : Nat} {F : FD} (D : EqOk X.prog X.w X.K X.mg X.base k κ c F) (hr : Room k X.A) : OpR X (compareOp .Eq) (rOwnEq κ X.K c F) := by
  intro pins s σ H x y v u Q I rx ry ⟨⟨Av, a, dx, fs, d, t, ex, ha, hd, ht, hn⟩, q⟩
  subst ex
  cases rx
  obtain ⟨f, fd, ps, h1, h2, h3, h4⟩ := D.ex
  obtain ⟨mA, J, _⟩ := ins_get I.hok ha
  obtain ⟨od, J, _⟩ := J.look
  obtain ⟨m, hF⟩ := I.fr
  refine PySem.W.cmp_K (op := .Eq) (tb := t.val κ) hr.units0 hF I.ok.mod.kin J (look_tag I hd ht ry) hn h1 h2 ?_
  refine wpAny_mono (run_fnS (us := [.ref a, u]) (vs := [.ref a, y]) (E := fun _ => E0) h4 hr h3 (fun _ _ _ _ _ _ z => z.elim) I (.cons rfl (.cons ry .nil)) q) (fun w s' ⟨z, H', I', rz, qz⟩ => ?_) fun _ _ e => e
  have fin : EP X pins σ Q w s' := ⟨z, H', I', rz, qz⟩
  cases w with
  | notImplemented =>
    cases z with
    | int i => obtain ⟨_, z⟩ := rz; cases z
    | str i => obtain ⟨_, z⟩ := rz; cases z
    | byt i => obtain ⟨_, z⟩ := rz; cases z
    | flt i => obtain ⟨_, z⟩ := rz; cases z
    | _ => cases rz
  | _ => exact fin
theorem own_red {κ : Kt} {K : PySem.W.Frag} {W : WX} {c : Nat} {F : FD} {nf : Tg → Bool} {fa fb : M Rv} {ς : L2.St} {H : Hp} {Q : VK} (hnf : ∀ t, nf t = true → PySem.W.notFirst K (κ.cA c) (t.val κ) = true) (h : tE κ W (eCall (noX F) (eCkA (ckEq c nf) (eCons fa (eCons fb eNil)))) ς H Q) :
    tE κ W fa ς H fun x H1 => tE κ W fb ς H1 fun y H2 => rOwnEq κ K c F x y H2 Q := by
  refine tE_mono (consA_red (ckA_red (call_red h))) fun x H1 h1 => tE_mono (consA_red h1) fun y H2 h2 => ?_
  obtain ⟨⟨Av, ts, t1, t2⟩, q⟩ := nilA_red h2
  refine ⟨?_, spD_noX q⟩
  cases t1 with
  | cons r1 t1 =>
    cases t1 with
    | cons r2 t1 =>
      cases t1
      rename_i T1 T2
      have t2 : ckEq c nf [T1.view, T2.view] = true := t2
      unfold ckEq at t2
      split at t2
      · rename_i c' ns vs d e1
        simp only [List.cons.injEq] at e1
        rw [Bool.and_eq_true, decide_eq_true_eq, Option.any_eq_true] at t2
        obtain ⟨rfl, t, z1, z2⟩ := t2
        obtain ⟨a, dx, fs, g1, g2, _⟩ := r1.ins e1.1
        have d2 := r2.dv
        rw [e1.2.1] at d2
        exact ⟨_, a, dx, fs, d, t, g1, g2, d2, z1, hnf t z2⟩
      · cases t2
section
variable {X : Cx} {κ : Kt} {W : WX} {k c : Nat} {F : FD} {nf : Tg → Bool} {a b : Expr} {fa fb : M Rv} {pos : Pos}
theorem de_ownEq (D : EqOk X.prog X.w X.K X.mg X.base k κ c F) (hr : Room k X.A) (hnf : ∀ t, nf t = true → PySem.W.notFirst X.K (κ.cA c) (t.val κ) = true)
    (ha : PE X a (tE κ W fa)) (hb : PE X b (tE κ W fb)) (hm : behindInMarks .Eq b = false) : PE X (.Compare a [.Eq] [b] pos) (tE κ W (eCall (noX F) (eCkA (ckEq c nf) (eCons fa (eCons fb eNil))))) :=
  (pe_cmpR (op_ownEq D hr) ha hb hm).weak fun ς H Q h => own_red hnf h
theorem dt_ownEq (D : EqOk X.prog X.w X.K X.mg X.base k κ c F) (hr : Room k X.A) (hnf : ∀ t, nf t = true → PySem.W.notFirst X.K (κ.cA c) (t.val κ) = true)
    (ha : PE X a (tE κ W fa)) (hb : PE X b (tE κ W fb)) (hm : behindInMarks .Eq b = false) : PT X (.Compare a [.Eq] [b] pos) (tT κ W (bOf (eCall (noX F) (eCkA (ckEq c nf) (eCons fa (eCons fb eNil)))))) :=
  (pt_cmpR (op_ownEq D hr) ha hb hm).weak fun ς H Q h => own_red hnf (bOf_red h)
end
def sIxD (x y : D) : Option T := match x, y with
  | .str z, .int i => if 0 ≤ i ∧ i < 2 ^ 63 ∧ i < z.length then (z.cps[i.toNat]?).map fun c => .fr (.str ⟨#[c]⟩) else none
  | _, _ => none
def rIxS : R2 := fun x y H Q => ∃ z i c, x = .str z ∧ y = .int i ∧ 0 ≤ i ∧ i < 2 ^ 63 ∧ i < z.length ∧ z.cps[i.toNat]? = some c ∧ Q (.str ⟨#[c]⟩) H
theorem v_ixS {κ : Kt} : VOp2 κ rIxS sIxD := by
  intro H Q Av x y tx ty t hA hx hy e k
  unfold sIxD at e
  split at e
  · rename_i z i e1 e2
    split at e
    · rename_i hb
      obtain ⟨c, hc, rfl⟩ := Option.map_eq_some_iff.mp e
      exact ⟨z, i, c, hx.str e1, hy.int e2, hb.1, hb.2.1, hb.2.2, hc, k _ H (.here (.str _))⟩
    · cases e
  · cases e
theorem de_ixS {X : Cx} {κ : Kt} {W : WX} {a b : Expr} {fa fb : M Rv} {pos : Pos} (ha : PE X a (tE κ W fa)) (hb : PE X b (tE κ W fb)) (hs : PlainIxT b) : PE X (.Subscript a b pos) (tE κ W (eBin sIxD fa fb)) :=
  (pe_item_str ha hb hs).weak fun ς H Q h => two_red (r := rIxS) v_ixS h
end DL

set_option Elab.async false
set_option linter.all false
namespace DL
open PySem PySem.Spec PyProof.Rows L2
abbrev Ali := Nat × Nat × Str
def AliOk (τ : Sg) (S : En) (a : Ali) : Prop := ∃ g ks us k v, τ[a.2.1]? = some (some g) ∧ S[a.2.1]? = some (some (.dctN ks us)) ∧ posOf (.inr a.2.2) ks = some k ∧ g.2[k]? = some v ∧ τ[a.1]? = some (some (v, []))
def partOf' (S : En) (a : Ali) : Option U := match S[a.2.1]? with
  | some (some (.dctN ks us)) => (posOf (.inr a.2.2) ks).bind fun k => us[k]?
  | _ => none
def aliF : List Ali → En → En
  | [], S => frzA S
  | a :: A, S => match partOf' S a with
    | some u => (aliF A S).set a.1 (some (.fr u.view))
    | none => aliF A S
def eAli (A : List Ali) (f : M Rv) (S : En) : Option D := match f (aliF A S) with
  | .ok (.tmp (.fr d)) _ => if imm d = true then some d else none
  | _ => none
def sAliS (A : List Ali) (a : Ali) (h : Nat) (fv : M Rv) (S : En) : Option En := match S[a.2.1]? with
  | some (some (.dctN ks _)) => match posOf (.inr a.2.2) ks, S[h]?, eAli A fv S with
    | some k, some (some (.fr dz)), some d => match mutR setG2 (.sub a.2.1 k) [d, dz] S with
      | .ok _ S' => some S'
      | _ => none
    | _, _, _ => none
  | _ => none
def runA : List (En → Option En) → En → Option En
  | [], S => some S
  | m :: ms, S => (m S).bind (runA ms)
def tAl (κ : Kt) (fx : Nat → Bool) (A : List Ali) (m : En → Option En) : TS := fun D σ H => ∃ (B : Addr → Prop) (S : En) (τ : Sg), unG τ = σ ∧ Good κ B H τ S ∧ (∀ a ∈ A, AliOk τ S a) ∧ ∃ S', m S = some S' ∧ ∀ H', PostS κ B fx τ H S τ H' S' → (∀ a ∈ A, AliOk τ S' a) → D.nx (unG τ) H'
def tAls (κ : Kt) (W : WX) (fx : Nat → Bool) (A : List Ali) (ms : List (En → Option En)) (g : MS) : TS := fun D σ H => ∃ (B : Addr → Prop) (S : En) (τ : Sg), unG τ = σ ∧ Good κ B H τ S ∧ (∀ a ∈ A, AliOk τ S a) ∧ OutS κ W B fx τ H S D (match runA ms S with
  | some S' => g S'
  | none => .stuck)
section
variable {X : Cx} {κ : Kt} {W : WX} {fx : Nat → Bool} {A : List Ali} {ms : List (En → Option En)} {m : En → Option En} {g : MS} {st : Stmt} {rest : List Stmt} {B : Addr → Prop} {τ : Sg} {S S1 : En} {H H1 : Hp}
theorem als_nil (h : PSs X rest (tS κ W fx g)) : PSs X rest (tAls κ W fx A [] g) := h.weak fun D σ H ⟨B, S, τ, e, gd, _, o⟩ => ⟨B, S, τ, e, gd, o⟩
theorem als_cons (h1 : PS X st (tAl κ fx A m)) (h2 : PSs X rest (tAls κ W fx A ms g)) : PSs X (st :: rest) (tAls κ W fx A (m :: ms) g) := (pss_cons h1 h2).weak fun D σ H ⟨B, S, τ, e, gd, al, o⟩ => by
  unfold runA at o
  cases em : m S with
  | none => rw [em] at o; exact o.elim
  | some S1 =>
    rw [em] at o
    exact ⟨B, S, τ, e, gd, al, S1, em, fun H' p al' => ⟨B, S1, τ, rfl, p.good, al', o.rest p⟩⟩
theorem AliOk.part {a : Ali} (gd : Good κ B H τ S) (h : AliOk τ S a) : ∃ v u, τ[a.1]? = some (some (v, [])) ∧ partOf' S a = some u ∧ PR κ H (AvS B S τ) v u := by
  obtain ⟨g, ks, us, k, v, h1, h2, h3, h4, h5⟩ := h
  obtain ⟨w, w1, w2⟩ := gd.slot _ _ h2
  rw [h1] at w1; cases w1
  obtain ⟨⟨b, kvs, e1, e2, rfl, e4, _⟩, gh⟩ := w2
  have eg := gh b kvs e1 e2
  rw [eg] at h4
  obtain ⟨u, u1, u2⟩ := paired_get e4 h4
  exact ⟨v, u, h5, by unfold partOf'; rw [h2]; show (posOf _ _).bind _ = _; rw [h3]; exact u1, u2⟩
theorem Good.name {j : Nat} {v : G} {d : D} (gd : Good κ B H τ S) (no : ∀ a, ¬ OwnAt S τ a) (e : τ[j]? = some (some v)) (dv : DV κ H (AvS B S τ) v.1 d) : Good κ B H τ (S.set j (some (.fr d))) ∧ ∀ a, ¬ OwnAt (S.set j (some (.fr d))) τ a := by
  have own : ∀ a, ¬ OwnAt (S.set j (some (.fr d))) τ a := fun a z => no a (own_set rfl z).1
  have get : ∀ (i : Nat) (t : T), (S.set j (some (.fr d)))[i]? = some (some t) → (i = j ∧ t = .fr d) ∨ S[i]? = some (some t) := fun i t q => by
    by_cases hj : j = i
    · subst hj
      by_cases hl : j < S.length
      · rw [List.getElem?_set_self hl] at q; cases q; exact .inl ⟨rfl, rfl⟩
      · rw [List.getElem?_eq_none (by simpa using hl)] at q; cases q
    · rw [List.getElem?_set_ne hj] at q; exact .inr q
  refine ⟨⟨by rw [List.length_set]; exact gd.len, gd.trk, fun b _ z => own b z, fun i k a t u g1 g2 q1 q2 _ _ q5 _ => (own a ⟨i, t, g1, q1, q2, q5⟩).elim, fun i t q => ?_⟩, own⟩
  rcases get i t q with ⟨rfl, rfl⟩ | q
  · exact ⟨v, e, dv.less fun b z => z.elim .inl fun z => (own b z).elim, True.intro⟩
  · obtain ⟨w, w1, w2⟩ := gd.slot i t q
    exact ⟨w, w1, w2.less fun b z => z.elim .inl fun z => (own b z).elim⟩
theorem Good.aliF (gd : Good κ B H τ S) : ∀ {A : List Ali}, (∀ a ∈ A, AliOk τ S a) → Good κ B H τ (DL.aliF A S) ∧ ∀ a, ¬ OwnAt (DL.aliF A S) τ a
  | [], _ => ⟨gd.frzA, fun a => frzA_own⟩
  | a :: A, al => by
    obtain ⟨g1, n1⟩ := gd.aliF fun b hb => al b (List.mem_cons_of_mem _ hb)
    obtain ⟨v, u, e1, e2, e3⟩ := AliOk.part gd (al a List.mem_cons_self)
    unfold DL.aliF
    rw [e2]
    refine g1.name n1 e1 (e3.freeze (fun b z => z.elim .inl fun z => (n1 b z).elim) fun p ho ev z => ?_)
    rcases z with z | z
    · obtain ⟨g, ks, us, k, v', h1, h2, h3, h4, h5⟩ := al a List.mem_cons_self
      rw [e1] at h5; cases h5
      unfold partOf' at e2
      rw [h2] at e2
      obtain ⟨k', k1, k2⟩ := Option.bind_eq_some_iff.mp e2
      rw [h3] at k1; cases k1
      exact gd.dis p z ⟨_, _, g, h2, ⟨rfl, .inr ⟨k, u, k2, ho, by rw [h4, ev]⟩⟩, h1⟩
    · exact n1 p z
theorem ali_val {fv : M Rv} {d : D} (gd : Good κ B H τ S) (al : ∀ a ∈ A, AliOk τ S a) (e : eAli A fv S = some d) {Q : VK} (k : ∀ v H', Same H H' → DV κ H' (AvS B S τ) v d → Q v H') : tE κ W fv (unG τ) H Q := by
  obtain ⟨g1, n1⟩ := gd.aliF al
  refine tE_iff.mpr ⟨B, aliF A S, τ, rfl, g1, ?_⟩
  unfold eAli at e
  split at e
  · rename_i d' S' ef
    split at e
    · rename_i hi
      cases e
      rw [ef]
      intro v H' p
      have same : Same H H' := fun b u e => p.keep b u e (n1 b)
      have g2 := gd.same same
      refine k v.1 H' same (DV.ofImm (fun a xs ea z => ?_) (show DV κ H' _ v.1 d from p.rv.tr) hi)
      rcases z with z | z
      · exact .inl (.inl z)
      · exact ((g2.ownTrk z).nt xs ea).elim
    · cases e
  · cases e
theorem AliOk.set {a : Ali} {i k : Nat} {ks : List Key} {us : List U} {u : U} (h : AliOk τ S a) (e : S[i]? = some (some (.dctN ks us))) : AliOk τ (S.set i (some (.dctN ks (us.set k u)))) a := by
  obtain ⟨g, ks', us', k', v, h1, h2, h3, h4, h5⟩ := h
  by_cases z : i = a.2.1
  · subst z
    rw [e] at h2; cases h2
    exact ⟨g, ks, _, k', v, h1, List.getElem?_set_self (List.getElem?_eq_some_iff.mp e).1, h3, h4, h5⟩
  · exact ⟨g, ks', us', k', v, h1, by rw [List.getElem?_set_ne z]; exact h2, h3, h4, h5⟩
theorem ali_store {a : Ali} {h : Nat} {fv : M Rv} {y z : Str} {value : Expr} {p1 p2 tpos pos : Pos} (ha : a ∈ A) (hu : X.A.units + 64 < cLine) (hj : PE X (.Name y p1) (tVar a.1)) (hh : PE X (.Name z p2) (tVar h)) (hv : PE X value (tE κ W fv))
    (hs : swapsWithSole [.Subscript (.Name y p1) (.Name z p2) tpos] value pos.line X.env = pure false := by rfl) (hw : swappedStores [.Subscript (.Name y p1) (.Name z p2) tpos] value X.env = pure none := by rfl)
    (h1 : (assignEach [.Subscript (.Name y p1) (.Name z p2) tpos] X.env).map (·.2) = [assign (.Subscript (.Name y p1) (.Name z p2) tpos) X.env] := by rfl) :
    PS X (.Assign [.Subscript (.Name y p1) (.Name z p2) tpos] value pos) (tAl κ fx A (sAliS A a h fv)) := (ps_asg hv (pg_sub hj hh (set_A2 hu)) hs hw h1).weak fun D σ H ⟨B, S, τ, ec, gd, al, S', em, q⟩ => by
  subst ec
  unfold sAliS at em
  split at em
  case h_2 => cases em
  rename_i ks us es
  split at em
  case h_2 => cases em
  rename_i k dz d ek eh ed
  split at em
  case h_2 => cases em
  rename_i r S2 emu
  cases em
  obtain ⟨g, ks', us', k', v, g1, g2, g3, g4, g5⟩ := al a ha
  rw [es] at g2; cases g2
  rw [ek] at g3; cases g3
  refine ali_val gd al ed fun x H1 same dx => ?_
  obtain ⟨w, w1, w2⟩ := gd.slot h _ eh
  refine ⟨v, unG_get g5, w.1, unG_get w1, ?_⟩
  have gd1 := gd.same same
  have no : ∀ {G : G} {b}, ¬ TmpAt (.sub a.2.1 k) G b := fun ⟨t, z, _⟩ => nomatch z
  have le : ∀ b, Bx B (.sub a.2.1 k) ((v, []) : G) b → B b := fun b z => z.elim id fun z => (no z).elim
  have dz' : DV κ H1 (AvS B S τ) w.1 dz := DV.same (show DV κ H _ w.1 dz from w2.tr) same
  obtain ⟨x', i', e1, e2⟩ := mut_core (B := B) (r := .sub a.2.1 k) (xg := (v, [])) (vs := [x, w.1]) m_set2 (gd1.weaken le) ⟨g, g1, g4⟩ (.cons (dx.less fun b z => z.imp (le b) id) (.cons (dz'.less fun b z => z.imp (le b) id) .nil)) emu fun v' p o d' hq hp g4 own dd => by
    rcases hp with hp | hp
    · exact (no hp).elim
    · have kp : ∀ b u, H b = some u → ¬ OwnAt S τ b → (upd H1 p o) b = some u := fun b u e n => by
        rw [upd_ne (show b ≠ p from fun z => n (by rw [z]; exact hp))]; exact same b u e
      refine q _ ⟨kp, fun c z => .inr (own c z), fun _ _ => rfl, g4, rfl⟩ fun b hb => ?_
      unfold mutR at emu
      dsimp only at emu
      rw [es] at emu
      dsimp only at emu
      split at emu
      · split at emu
        · split at emu
          · split at emu
            · cases emu
              exact (al b hb).set es
            · cases emu
          · cases emu
        · cases emu
      · cases emu
  cases e1
  exact e2
theorem Good.unk {j : Nat} {v : G} (gd : Good κ B H τ S) : Good κ B H (τ.set j (some v)) (S.set j none) ∧ ∀ a, OwnAt (S.set j none) (τ.set j (some v)) a → OwnAt S τ a := by
  have get : ∀ (i : Nat) (t : T), (S.set j none)[i]? = some (some t) → j ≠ i ∧ S[i]? = some (some t) := fun i t q => by
    by_cases hj : j = i
    · subst hj
      by_cases hl : j < S.length
      · rw [List.getElem?_set_self hl] at q; cases q
      · rw [List.getElem?_eq_none (by simpa using hl)] at q; cases q
    · rw [List.getElem?_set_ne hj] at q; exact ⟨hj, q⟩
  have own : ∀ a, OwnAt (S.set j none) (τ.set j (some v)) a → OwnAt S τ a := fun a ⟨i, t, g, e1, e2, e3⟩ => by
    obtain ⟨hj, e1⟩ := get i t e1
    rw [List.getElem?_set_ne hj] at e3
    exact ⟨i, t, g, e1, e2, e3⟩
  refine ⟨⟨by rw [List.length_set, List.length_set]; exact gd.len, gd.trk, fun b z q => gd.dis b z (own b q), fun i k a t u g1 g2 q1 q2 q3 q4 q5 q6 => ?_, fun i t q => ?_⟩, own⟩
  · obtain ⟨h1, q1⟩ := get i t q1
    obtain ⟨h2, q3⟩ := get k u q3
    rw [List.getElem?_set_ne h1] at q5
    rw [List.getElem?_set_ne h2] at q6
    exact gd.inj i k a t u g1 g2 q1 q2 q3 q4 q5 q6
  · obtain ⟨h1, q⟩ := get i t q
    obtain ⟨w, w1, w2⟩ := gd.slot i t q
    exact ⟨w, by rw [List.getElem?_set_ne h1]; exact w1, w2.less fun b z => z.imp id (own b)⟩
def sAli (j i : Nat) (key : Str) (ms : List (En → Option En)) (g : MS) : MS := fun S => match S[i]? with
  | some (some (.dctN ks _)) => if (posOf (.inr key) ks).isSome = true ∧ i ≠ j then match runA ms (S.set j none) with
      | some S' => g S'
      | none => .stuck
    else .stuck
  | _ => .stuck
theorem eIxP_at {i : Nat} {key : Str} {ks : List Key} {us : List U} {k : Nat} (e : S[i]? = some (some (.dctN ks us))) (ek : posOf (.inr key) ks = some k) : eIxP key (eVar i) S = .ok (.sub i k) S := by
  unfold eIxP M.bind eVar
  simp only [e, ek]
theorem dss_ali {i j : Nat} {y key : Str} {e : Expr} {pos pos' : Pos} (hN : X.N.Nodup) (hj : X.N[j]? = some y) (hx : Loc X.env.scope y) (he : PE X e (tE κ W (eIxP key (eVar i)))) (h : PSs X rest (tAls κ W fx [(j, i, key)] ms g)) (hf : fx j = false)
    (hs : swapsWith e (some (.Name y pos')) pos.line X.env = pure false := by rfl) (hf' : X.fn y = true ∨ X.env.scope.names.lookup y = some .local := by first | exact .inl rfl | exact .inr rfl | assumption) :
    PSs X (.Assign [.Name y pos'] e pos :: rest) (tS κ W fx (sAli j i key ms g)) := ⟨fun pins s σ H D I ⟨B, S, τ, ec, gd, o⟩ => by
  subst ec
  have hl : j < τ.length := by rw [← unG_len, I.len]; exact (List.getElem?_eq_some_iff.mp hj).1
  unfold sAli at o
  split at o
  case h_2 => exact o.elim
  rename_i ks us es
  split at o
  case isFalse => exact o.elim
  rename_i hc
  obtain ⟨k, ek⟩ := Option.isSome_iff_exists.mp hc.1
  refine (pss_cons (ps_set hN hj hx he hs hf') h).run pins s _ H D I (tE_iff.mpr ⟨B, S, τ, rfl, gd, ?_⟩)
  rw [eIxP_at es ek]
  intro v H1 p
  have no : ∀ {G : G} {b}, ¬ TmpAt (.sub i k) G b := fun ⟨t, z, _⟩ => nomatch z
  have g0 : Good κ B H1 τ S := p.good.weaken fun b z => .inl z
  obtain ⟨g1, own⟩ := g0.unk (j := j) (v := (v.1, []))
  obtain ⟨g, e1, e2⟩ := p.rv
  refine ⟨B, S.set j none, τ.set j (some (v.1, [])), by rw [unG_set], g1, fun a ha => ?_, ?_⟩
  · have : a = (j, i, key) := by simpa using ha
    subst this
    exact ⟨g, ks, us, k, v.1, by show (τ.set j _)[i]? = _; rw [List.getElem?_set_ne (Ne.symm hc.2)]; exact e1, by show (S.set j none)[i]? = _; rw [List.getElem?_set_ne (Ne.symm hc.2)]; exact es, ek, e2, List.getElem?_set_self hl⟩
  · refine OutS.rest ⟨p.keep, fun a z => .inr (own a z), fun q hq => ?_, g1, by rw [List.length_set]⟩ o
    rw [List.getElem?_set_ne fun z => by subst z; rw [hf] at hq; cases hq]⟩
def sAli2 (j1 j2 i : Nat) (key1 key2 : Str) (ms : List (En → Option En)) (g : MS) : MS := fun S => match S[i]? with
  | some (some (.dctN ks _)) => if (posOf (.inr key1) ks).isSome = true ∧ (posOf (.inr key2) ks).isSome = true ∧ i ≠ j1 ∧ i ≠ j2 then match runA ms ((S.set j1 none).set j2 none) with
      | some S' => g S'
      | none => .stuck
    else .stuck
  | _ => .stuck
theorem dss_ali2 {i j1 j2 : Nat} {y z key1 key2 : Str} {a b : Expr} {px py pt pos : Pos} {kt k2 pt2} (hc : X.calm = true) (hN : X.N.Nodup) (h1 : X.N[j1]? = some y) (h2 : X.N[j2]? = some z) (hij : j1 ≠ j2) (hx : X.env.scope.names.lookup y = some .local) (hy : X.env.scope.names.lookup z = some .local)
    (ha : PE X a (tE κ W (eIxP key1 (eVar i)))) (hb : PE X b (tE κ W (eIxP key2 (eVar i)))) (hab : PA X [a, b] (tA κ W (eCons (eIxP key1 (eVar i)) (eCons (eIxP key2 (eVar i)) eNil))))
    (hw : swappedStores [.Tuple [.Name y px, .Name z py] kt pt] (.Tuple [a, b] k2 pt2) X.env = pure (some [y, z])) (h : PSs X rest (tAls κ W fx [(j1, i, key1), (j2, i, key2)] ms g)) (f1 : fx j1 = false) (f2 : fx j2 = false)
    (hs : swapsWithSole [.Tuple [.Name y px, .Name z py] kt pt] (.Tuple [a, b] k2 pt2) pos.line X.env = pure false := by rfl) :
    PSs X (.Assign [.Tuple [.Name y px, .Name z py] kt pt] (.Tuple [a, b] k2 pt2) pos :: rest) (tS κ W fx (sAli2 j1 j2 i key1 key2 ms g)) := ⟨fun pins s σ H D I ⟨B, S, τ, ec, gd, o⟩ => by
  subst ec
  have l1 : j1 < τ.length := by rw [← unG_len, I.len]; exact (List.getElem?_eq_some_iff.mp h1).1
  have l2 : j2 < τ.length := by rw [← unG_len, I.len]; exact (List.getElem?_eq_some_iff.mp h2).1
  unfold sAli2 at o
  split at o
  case h_2 => exact o.elim
  rename_i ks us es
  split at o
  case isFalse => exact o.elim
  rename_i hcc
  obtain ⟨n1, e1⟩ := Option.isSome_iff_exists.mp hcc.1
  obtain ⟨n2, e2⟩ := Option.isSome_iff_exists.mp hcc.2.1
  refine (pss_cons (ps_par hc hN h1 h2 hij hx hy hab hw hs) h).run pins s _ H D I ⟨B, S, τ, rfl, gd, ?_⟩
  have ev : eCons (eIxP key1 (eVar i)) (eCons (eIxP key2 (eVar i)) eNil) S = .ok [.sub i n1, .sub i n2] S := by
    unfold eCons M.bind
    rw [eIxP_at es e1]
    dsimp only
    rw [eIxP_at es e2]
    rfl
  rw [ev]
  intro vs H1 p
  match vs, p.lens with
  | [v, w], _ =>
    cases p.rv with
    | cons r1 rr =>
      cases rr with
      | cons r2 rr =>
        have no : ∀ {G : List G} {b}, ¬ TmpsAt [.sub i n1, .sub i n2] G b := fun {G b} ⟨m, r, g, q1, q2, t, q3, _⟩ => by
          subst q3
          match m with
          | 0 => cases q1
          | 1 => cases q1
          | m + 2 => simp at q1
        have g0 : Good κ B H1 τ S := p.good.weaken fun b z => .inl z
        obtain ⟨g1, own1⟩ := g0.unk (j := j1) (v := (v.1, []))
        obtain ⟨g2, own2⟩ := g1.unk (j := j2) (v := (w.1, []))
        obtain ⟨ga, a1, a2⟩ := r1
        obtain ⟨gb, b1, b2⟩ := r2
        have at1 : ((τ.set j1 (some (v.1, []))).set j2 (some (w.1, [])))[i]? = some (some ga) := by rw [List.getElem?_set_ne (Ne.symm hcc.2.2.2), List.getElem?_set_ne (Ne.symm hcc.2.2.1)]; exact a1
        have at2 : ((τ.set j1 (some (v.1, []))).set j2 (some (w.1, [])))[i]? = some (some gb) := by rw [List.getElem?_set_ne (Ne.symm hcc.2.2.2), List.getElem?_set_ne (Ne.symm hcc.2.2.1)]; exact b1
        have atS : ((S.set j1 none).set j2 none)[i]? = some (some (.dctN ks us)) := by rw [List.getElem?_set_ne (Ne.symm hcc.2.2.2), List.getElem?_set_ne (Ne.symm hcc.2.2.1)]; exact es
        refine ⟨v.1, w.1, rfl, B, (S.set j1 none).set j2 none, (τ.set j1 (some (v.1, []))).set j2 (some (w.1, [])), by rw [unG_set, unG_set], g2, fun c hcm => ?_, ?_⟩
        · have hcm : c = (j1, i, key1) ∨ c = (j2, i, key2) := by simpa using hcm
          rcases hcm with rfl | rfl
          · exact ⟨ga, ks, us, n1, v.1, at1, atS, e1, a2, by show ((τ.set j1 _).set j2 _)[j1]? = _; rw [List.getElem?_set_ne (Ne.symm hij)]; exact List.getElem?_set_self l1⟩
          · exact ⟨gb, ks, us, n2, w.1, at2, atS, e2, b2, List.getElem?_set_self (by rw [List.length_set]; exact l2)⟩
        · refine OutS.rest ⟨p.keep, fun a z => .inr (own1 a (own2 a z)), fun q hq => ?_, g2, by rw [List.length_set, List.length_set]⟩ o
          have q2 : j2 ≠ q := fun z => by rw [z, hq] at f2; cases f2
          have q1 : j1 ≠ q := fun z => by rw [z, hq] at f1; cases f1
          rw [List.getElem?_set_ne q2, List.getElem?_set_ne q1]⟩
end
end DL

set_option Elab.async false
set_option linter.all false
namespace DL
open PySem L2
def noLst (K : PySem.W.Frag) : Bool := K.all fun q => match q.2.cls with
  | .type c => decide (c ≠ "list")
  | _ => true
theorem noLst_ok {K : PySem.W.Frag} (h : noLst K = true) {a : Addr} {o : Obj} (e : K.lookup a = some o) : o.cls ≠ .type "list" := fun z => by
  have h1 := List.all_eq_true.mp h (a, o) (He.lookup_mem e)
  have h2 : (match o.cls with
    | .type c => decide (c ≠ "list")
    | _ => true) = true := h1
  rw [z] at h2
  simp at h2
theorem dvs_ints {κ : Kt} {H : Hp} {Av : Addr → Prop} : ∀ ns : List Int, DVs κ H Av (ns.map V.int) (ns.map D.int)
  | [] => .nil
  | n :: r => .cons (.int n) (dvs_ints r)
theorem spD_law {κ : Kt} {F : FD} {n : Nat} (hK : noLst κ.K = true) (plain : ∀ ns : List Int, ns.length ≤ n → ∃ us, F [.fr (.scr (ns.map D.int))] = .ret (.fr (.bl true)) us)
    (H : Hp) (a : Addr) (ns : List Int) (hl : ns.length ≤ n) (hO : Only H) (hS : SqL κ.K H a (ns.map V.int)) : spD κ F [.ref a] H (fun v _ => v = .bl true) fun _ _ _ => False := by
  obtain ⟨us, e⟩ := plain ns hl
  have no : ∀ (b : Addr), ¬ OwnAt [some (T.fr (.scr (ns.map D.int)))] [some ((.ref a, []) : G)] b := fun b ⟨i, t, g, e1, e2, _⟩ => by
    rcases i with _ | i
    · cases e1; exact frno e2.own
    · simp at e1
  have hd : DV κ H (AvS (fun _ => False) [some (T.fr (.scr (ns.map D.int)))] [some ((.ref a, []) : G)]) (.ref a) (.scr (ns.map D.int)) := by
    rcases hS with h | ⟨o, its, m, h1, h2, _⟩
    · obtain ⟨o, h⟩ : ∃ o, H a = some (.frz o (.lst (ns.map V.int))) := by
        rcases h with h | ⟨o, h⟩
        · rcases hO a with z | ⟨o, xs, z⟩
          · rw [z] at h; cases h
          · rw [z] at h; cases h
        · exact ⟨o, h⟩
      exact .scr h (fun z => z.elim id (no a)) (dvs_ints ns)
    · exact absurd h2 (noLst_ok hK h1)
  refine ⟨fun _ => False, [.fr (.scr (ns.map D.int))], [(.ref a, [])], rfl, ⟨rfl, fun _ z => z.elim, fun _ z => z.elim, fun i j b t u g g' e1 f1 e2 f2 _ _ => ?_, fun i t e1 => ?_⟩, ?_⟩
  · exact (no b ⟨i, t, g, e1, f1, by assumption⟩).elim
  · rcases i with _ | i
    · cases e1
      exact ⟨_, rfl, .of hd rfl⟩
    · simp at e1
  · rw [e]
    intro ⟨v, vs⟩ H' p
    have h2 : DV κ H' _ v (.bl true) := p.rv.tr
    cases h2
    rfl
end DL

set_option Elab.async false
set_option linter.all false
namespace DL
open PySem L2
section
variable {α β : Type} {S : En}
@[simp ↓] theorem bind_ap {f : M α} {g : α → M β} : M.bind f g S = match f S with
  | .ok a S' => g a S'
  | .exc x S' => .exc x S'
  | .stuck => .stuck := rfl
@[simp] theorem ret_ap {a : α} : M.ret a S = .ok a S := rfl
@[simp] theorem eVar_ap {i : Nat} : eVar i S = match S[i]? with
  | some (some _) => .ok (.slot i) S
  | _ => .stuck := rfl
@[simp] theorem eC_ap {d : D} : eC d S = .ok (.tmp (.fr d)) S := rfl
@[simp] theorem eDict0_ap : eDict0 S = .ok (.tmp (.dct [] [])) S := rfl
@[simp ↓] theorem eBin_ap {g : D → D → Option T} {fa fb : M Rv} : eBin g fa fb S = (M.bind fa fun ra => M.bind fb fun rb => fun S => match viewR ra S, viewR rb S with
  | some da, some db => match g da db with
    | some t => .ok (.tmp t) S
    | none => .stuck
  | _, _ => .stuck) S := rfl
@[simp ↓] theorem eUn_ap {g : D → Option T} {fa : M Rv} : eUn g fa S = (M.bind fa fun ra => fun S => match viewR ra S with
  | some da => match g da with
    | some t => .ok (.tmp t) S
    | none => .stuck
  | _ => .stuck) S := rfl
@[simp] theorem eNil_ap : eNil S = .ok [] S := rfl
@[simp ↓] theorem eCons_ap {f : M Rv} {fs : M (List Rv)} : eCons f fs S = (M.bind f fun r => M.bind fs fun rs => M.ret (r :: rs)) S := rfl
@[simp] theorem bAnd_ap {f g : M Bool} : bAnd f g S = match f S with
  | .ok true S1 => g S1
  | .ok false S1 => .ok false S1
  | .exc x S' => .exc x S'
  | .stuck => .stuck := by
  unfold bAnd
  rw [bind_ap]
  cases f S with
  | ok b S1 => cases b <;> rfl
  | exc x S' => rfl
  | stuck => rfl
@[simp] theorem bOr_ap {f g : M Bool} : bOr f g S = match f S with
  | .ok true S1 => .ok true S1
  | .ok false S1 => g S1
  | .exc x S' => .exc x S'
  | .stuck => .stuck := by
  unfold bOr
  rw [bind_ap]
  cases f S with
  | ok b S1 => cases b <;> rfl
  | exc x S' => rfl
  | stuck => rfl
@[simp ↓] theorem eCB_ap  (g : List D → Option T) (fs : M (List Rv)) : eCB g fs S = (M.bind fs fun rs S => match viewRs rs S with
  | some ds => match g ds with
    | some t => .ok (.tmp t) S
    | none => .stuck
  | none => .stuck) S := rfl
@[simp ↓] theorem bOf_ap  (f : M Rv) : bOf f S = (M.bind f fun r S => match viewR r S with
  | some (.bl b) => .ok b S
  | _ => .stuck) S := rfl
@[simp ↓] theorem bNot_ap  (f : M Bool) : bNot f S = (M.bind f fun b => M.ret (!b)) S := rfl
@[simp ↓] theorem eChain_ap  (g g' : D → D → Option T) (fa fb fc : M Rv) : eChain g g' fa fb fc S = (M.bind fa fun ra => M.bind fb fun rb => fun S => match viewR ra S, viewR rb S with
  | some da, some db => match g da db with
    | some (.fr (.bl k)) => if k = true then M.bind fc (fun rc S' => match viewR rb S', viewR rc S' with
        | some db, some dc => match g' db dc with
          | some t => .ok (.tmp t) S'
          | none => .stuck
        | _, _ => .stuck) S
      else .ok (.tmp (.fr (.bl false))) S
    | _ => .stuck
  | _, _ => .stuck) S := rfl
@[simp] theorem eAnd_ap {f g : M Rv} : eAnd f g S = match bOf f S with
  | .ok true S1 => g S1
  | .ok false S1 => .ok (.tmp (.fr (.bl false))) S1
  | .exc x S' => .exc x S'
  | .stuck => .stuck := by
  unfold eAnd
  rw [bind_ap]
  cases bOf f S with
  | ok b S1 => cases b <;> rfl
  | exc x S' => rfl
  | stuck => rfl
@[simp ↓] theorem eNot_ap {f : M Rv} : eNot f S = (M.bind (bOf f) fun b => M.ret (.tmp (.fr (.bl (!b))))) S := rfl
@[simp] theorem eIf_ap {c : M Bool} {f g : M Rv} : eIf c f g S = match c S with
  | .ok true S1 => f S1
  | .ok false S1 => g S1
  | .exc x S' => .exc x S'
  | .stuck => .stuck := by
  unfold eIf
  rw [bind_ap]
  cases c S with
  | ok b S1 => cases b <;> rfl
  | exc x S' => rfl
  | stuck => rfl
@[simp] theorem sSeq_ap {f g : MS} : sSeq f g S = match f S with
  | .nx S' => g S'
  | o => o := rfl
@[simp] theorem sIf_ap {c : M Bool} {f g : MS} : sIf c f g S = match c S with
  | .ok true S' => f S'
  | .ok false S' => g S'
  | .exc x S' => .exc x S'
  | .stuck => .stuck := by
  unfold sIf
  cases c S with
  | ok b S1 => cases b <;> rfl
  | exc x S' => rfl
  | stuck => rfl
@[simp] theorem sAsg_ap {i : Nat} {f : M Rv} : sAsg i f S = match f S with
  | .ok r S' => (match mvR r S' with
    | some (t, S2) => .nx (S2.set i (some t))
    | none => .stuck)
  | .exc x S' => .exc x S'
  | .stuck => .stuck := rfl
@[simp] theorem sDrop_ap {f : M Rv} : sDrop f S = match f S with
  | .ok _ S' => .nx S'
  | .exc x S' => .exc x S'
  | .stuck => .stuck := rfl
@[simp] theorem sRet_ap {f : M Rv} : sRet f S = match f S with
  | .ok r S' => .rt r S'
  | .exc x S' => .exc x S'
  | .stuck => .stuck := rfl
@[simp] theorem sNx_ap : sNx S = .nx S := rfl
@[simp ↓] theorem eTup_ap {fs : M (List Rv)} : eTup fs S = (M.bind fs fun rs S => match frzRs rs S with
  | some (ds, S') => if ds.length ≤ sizeLine then .ok (.tmp (.fr (.tup ds))) S' else .stuck
  | none => .stuck) S := rfl
@[simp ↓] theorem eLst_ap {fs : M (List Rv)} : eLst fs S = (M.bind fs fun rs S => match frzRs rs S with
  | some (ds, S') => if ds.length ≤ sizeLine then .ok (.tmp (.lst ds)) S' else .stuck
  | none => .stuck) S := rfl
@[simp] theorem eBor_ap {f : M Rv} : eBor f S = match f (frzA S) with
  | .ok (.tmp t) _ => if immT t = true then .ok (.tmp t) S else .stuck
  | _ => .stuck := rfl
@[simp] theorem bBor_ap {f : M Bool} : bBor f S = match f (frzA S) with
  | .ok b _ => .ok b S
  | _ => .stuck := rfl
@[simp ↓] theorem eCall_ap {F : FD} {fs : M (List Rv)} : eCall F fs S = (M.bind fs fun rs S => match argsT rs S with
  | some ts => match F ts with
    | .ret t us => if leOwn us ts = true then .ok (.tmp t) (backS rs us S) else .stuck
    | .exc x us => if leOwn us ts = true then .exc x (backS rs us S) else .stuck
    | .stuck => .stuck
  | none => .stuck) S := rfl
@[simp ↓] theorem eChk_ap {c : Nat} {m : Str} {f : M Rv} : eChk c m f S = (M.bind f fun r S => match viewR r S with
  | some (.ins c' ns _) => if c' = c ∧ ns.contains m = false then .ok r S else .stuck
  | some (.insN c' ns) => if c' = c ∧ ns.contains m = false then .ok r S else .stuck
  | _ => .stuck) S := rfl
@[simp] theorem eMeth_ap {c : Nat} {m : Str} {F : FD} {f : M Rv} {fs : M (List Rv)} : eMeth c m F f fs S = eCall F (eCons (eChk c m f) fs) S := rfl
@[simp ↓] theorem eCk_ap {ck : D → Bool} {f : M Rv} : eCk ck f S = (M.bind f fun r S => match viewR r S with
  | some d => if ck d = true then .ok r S else .stuck
  | none => .stuck) S := rfl
@[simp ↓] theorem eCkO_ap {ck : T → Bool} {f : M Rv} : eCkO ck f S = (M.bind f fun r S => match ownT r S with
  | some t => if ck t = true then .ok r S else .stuck
  | none => .stuck) S := rfl
@[simp ↓] theorem eCkA_ap {ck : List D → Bool} {fs : M (List Rv)} : eCkA ck fs S = (M.bind fs fun rs S => match viewRs rs S with
  | some ds => if ck ds = true then .ok rs S else .stuck
  | none => .stuck) S := rfl
@[simp ↓] theorem eMut_ap {ck : D → Bool} {g : T → List D → Option (T × D)} {f : M Rv} {fs : M (List Rv)} : eMut ck g f fs S = (M.bind (eCk ck f) fun r => M.bind fs fun rs S => match frzRs rs S with
  | some (ds, S1) => mutR g r ds S1
  | none => .stuck) S := rfl
@[simp ↓] theorem eMutO_ap {ck : T → Bool} {g : T → List D → Option (T × D)} {f : M Rv} {fs : M (List Rv)} : eMutO ck g f fs S = (M.bind (eCkO ck f) fun r => M.bind fs fun rs S => match frzRs rs S with
  | some (ds, S1) => mutR g r ds S1
  | none => .stuck) S := rfl
@[simp] theorem sSto_ap {g : T → List D → Option (T × D)} {fs : M (List Rv)} : sSto g fs S = match fs S with
  | .ok (rv :: ro :: ri) S1 => (match frzR rv S1 with
    | some (dv, S2) => (match frzRs ri S2 with
      | some (ds, S3) => (match mutR g ro (dv :: ds) S3 with
        | .ok _ S4 => .nx S4
        | _ => .stuck)
      | none => .stuck)
    | none => .stuck)
  | .ok _ _ => .stuck
  | .exc x S' => .exc x S'
  | .stuck => .stuck := rfl
@[simp ↓] theorem eGet2_ap {f fk fz : M Rv} : eGet2 f fk fz S = (M.bind (eCk isDct f) fun r => M.bind fk fun rk => M.bind fz fun rz => fun S => match viewR r S, viewR rk S, tOfR rz S with
  | some d, some k, some z => match getD2 d k z with
    | some t => .ok (.tmp t) S
    | none => .stuck
  | _, _, _ => .stuck) S := rfl
@[simp ↓] theorem eFldP_ap {cs : List Nat} {n : Str} {f : M Rv} : eFldP cs n f S = (M.bind f fun r S => match r with
  | .slot i => match S[i]? with
    | some (some (.insN c ns _)) => if c ∈ cs then match posOf n ns with
        | some k => .ok (.sub i k) S
        | none => .stuck
      else .stuck
    | _ => .stuck
  | _ => .stuck) S := rfl
@[simp ↓] theorem eIxP_ap {n : Str} {f : M Rv} : eIxP n f S = (M.bind f fun r S => match r with
  | .slot i => match S[i]? with
    | some (some (.dctN ks _)) => match posOf (.inr n) ks with
        | some k => .ok (.sub i k) S
        | none => .stuck
    | _ => .stuck
  | _ => .stuck) S := rfl
@[simp ↓] theorem eIt_ap {f : M Rv} {k : D → Option (List D)} : eIt f k S = (M.bind f fun r S => match frzR r S with
  | some (d, S') => match k d with
    | some ds => .ok ds S'
    | none => .stuck
  | none => .stuck) S := rfl
@[simp ↓] theorem eItL_ap {f : M (List Rv)} {k : List D → Option (List D)} : eItL f k S = (M.bind f fun rs S => match frzRs rs S with
  | some (ds, S') => match k ds with
    | some es => .ok es S'
    | none => .stuck
  | none => .stuck) S := rfl
@[simp] theorem sFor_ap {fi : M (List D)} {gd : D → En → Option En} {b : MS} : sFor fi gd b S = match fi S with
  | .ok ds S1 => forD gd b ds S1
  | .exc x S1 => .exc x S1
  | .stuck => .stuck := rfl
@[simp] theorem sForP_ap {i : Nat} {ko : Option Str} {gd : D → En → Option En} {b : MS} : sForP i ko gd b S = match pathT i ko S with
  | some (ks, S1) => (match forD gd b (keyDs ks) S1 with
    | .exc _ _ => .stuck
    | o => o)
  | none => .stuck := rfl
@[simp] theorem eComp_ap {vs : List Nat} {fi : M (List D)} {gd : D → En → Option En} {c : M Bool} {e : M Rv} : eComp vs fi gd c e S = match fi S with
  | .ok ds S1 => if okv S1 vs = true then (match compD vs gd c e ds [] (wipeE S1 vs) with
      | .ok acc S2 => .ok (.tmp (.lst acc)) (restE S1 (wipeE S2 vs) vs)
      | _ => .stuck)
    else .stuck
  | .exc x S1 => .exc x S1
  | .stuck => .stuck := rfl
@[simp] theorem eCompP_ap {vs : List Nat} {i : Nat} {ko : Option Str} {gd : D → En → Option En} {c : M Bool} {e : M Rv} : eCompP vs i ko gd c e S = match pathT i ko S with
  | some (ks, S1) => if okv S1 vs = true then (match compD vs gd c e (keyDs ks) [] (wipeE S1 vs) with
      | .ok acc S2 => .ok (.tmp (.lst acc)) (restE S1 (wipeE S2 vs) vs)
      | _ => .stuck)
    else .stuck
  | none => .stuck := rfl
@[simp ↓] theorem eDispN_ap {ks : List Str} {fs : M (List Rv)} : eDispN ks fs S = (M.bind fs fun rs S => match tmpsU rs with
  | some us => if us.length = ks.length then .ok (.tmp (.dctN (ks.map .inr) us)) S else .stuck
  | none => .stuck) S := rfl
@[simp] theorem eNewN_ap {c : Nat} {ns : List Str} : eNewN c ns S = .ok (.tmp (.insN c ns (ns.map fun _ => .dct [] []))) S := rfl
@[simp] theorem eParts_ap {fs : M (List Rv)} {k : List T → En → RS} : eParts fs k S = match fs S with
  | .ok rs S' => (match mvRs rs S' with
    | some (ts, S2) => k ts S2
    | none => .stuck)
  | .exc x S' => .exc x S'
  | .stuck => .stuck := rfl
@[simp] theorem sPar_ap {i j : Nat} {fs : M (List Rv)} : sPar i j fs S = eParts fs (fun ts S => match ts with
  | [t, u] => .nx ((S.set i (some t)).set j (some u))
  | _ => .stuck) S := rfl
@[simp] theorem sParN_ap {is : List Nat} {fs : M (List Rv)} : sParN is fs S = eParts fs (fun ts S => if ts.length ≤ sizeLine then match setAll is ts S with
  | some S' => .nx S'
  | none => .stuck
  else .stuck) S := rfl
@[simp ↓] theorem eSl_ap {fa : M Rv} {lo hi : Option (M Rv)} : eSl fa lo hi S = (M.bind fa fun ra => M.bind (partOf lo) fun l => M.bind (partOf hi) fun u S => match viewR ra S with
  | some d => match sliceD l u d with
    | some t => .ok (.tmp t) S
    | none => .stuck
  | none => .stuck) S := rfl
@[simp] theorem partOf_none : partOf none S = .ok none S := rfl
@[simp ↓] theorem partOf_some {f : M Rv} : partOf (some f) S = (M.bind f fun r S => match viewR r S with
    | some (.int i) => .ok (some i) S
    | _ => .stuck) S := rfl
@[simp] theorem viewRs_nil : viewRs [] S = some [] := rfl
@[simp] theorem viewRs_cons {r : Rv} {rs : List Rv} : viewRs (r :: rs) S = match viewR r S with
  | some d => (viewRs rs S).map (d :: ·)
  | none => none := rfl
@[simp] theorem viewR_tmp {t : T} : viewR (.tmp t) S = some t.view := rfl
@[simp] theorem viewR_slot {i : Nat} : viewR (.slot i) S = match S[i]? with
  | some (some t) => some t.view
  | _ => none := rfl
@[simp] theorem viewR_sub {i k : Nat} : viewR (.sub i k) S = match S[i]? with
  | some (some t) => t.parts[k]?.map U.view
  | _ => none := rfl
@[simp] theorem frzR_tmp {t : T} : frzR (.tmp t) S = some (t.frz, S) := rfl
@[simp] theorem frzR_slot {i : Nat} : frzR (.slot i) S = match S[i]? with
  | some (some t) => some (t.frz, S.set i (some (.fr t.frz)))
  | _ => none := rfl
@[simp] theorem frzRs_nil : frzRs [] S = some ([], S) := rfl
@[simp] theorem frzRs_cons {r : Rv} {rs : List Rv} : frzRs (r :: rs) S = match frzR r S with
  | some (d, S1) => (match frzRs rs S1 with
    | some (ds, S2) => some (d :: ds, S2)
    | none => none)
  | none => none := rfl
@[simp] theorem mvR_tmp {t : T} : mvR (.tmp t) S = some (t, S) := rfl
@[simp] theorem mvR_slot {i : Nat} : mvR (.slot i) S = match S[i]? with
  | some (some t) => some (.fr t.frz, S.set i (some (.fr t.frz)))
  | _ => none := rfl
@[simp] theorem mvRs_nil : mvRs [] S = some ([], S) := rfl
@[simp] theorem mvRs_cons {r : Rv} {rs : List Rv} : mvRs (r :: rs) S = match mvR r S with
  | some (t, S1) => (match mvRs rs S1 with
    | some (ts, S2) => some (t :: ts, S2)
    | none => none)
  | none => none := rfl
@[simp] theorem mutR_tmp {g : T → List D → Option (T × D)} {t : T} {ds : List D} : mutR g (.tmp t) ds S = match g t ds with
  | some (t', d) => if okMut t t' = true then .ok (.tmp (.fr d)) S else .stuck
  | none => .stuck := rfl
@[simp] theorem mutR_slot {g : T → List D → Option (T × D)} {i : Nat} {ds : List D} : mutR g (.slot i) ds S = match S[i]? with
  | some (some t) => (match g t ds with
      | some (t', d) => if okMut t t' = true then .ok (.tmp (.fr d)) (S.set i (some t')) else .stuck
      | none => .stuck)
  | _ => .stuck := rfl
@[simp] theorem mutR_sub {g : T → List D → Option (T × D)} {i k : Nat} {ds : List D} : mutR g (.sub i k) ds S = match S[i]? with
    | some (some t) => (match t.parts[k]? with
      | some u => (match g u.toT ds with
        | some (t', d) => (match t'.toU with
          | some u' => if u.own = true ∧ u'.own = true then .ok (.tmp (.fr d)) (S.set i (some (t.setP k u'))) else .stuck
          | none => .stuck)
        | none => .stuck)
      | none => .stuck)
    | _ => .stuck := rfl
@[simp] theorem tOfR_tmp {t : T} : tOfR (.tmp t) S = some t := rfl
@[simp] theorem tOfR_slot {i : Nat} : tOfR (.slot i) S = match S[i]? with
  | some (some t) => some t
  | _ => none := rfl
@[simp] theorem ownT_tmp {t : T} : ownT (.tmp t) S = some t := rfl
@[simp] theorem ownT_slot {i : Nat} : ownT (.slot i) S = match S[i]? with
  | some (some t) => some t
  | _ => none := rfl
@[simp] theorem ownT_sub {i k : Nat} : ownT (.sub i k) S = match S[i]? with
  | some (some t) => t.parts[k]?.map U.toT
  | _ => none := rfl
@[simp] theorem argsT_nil : argsT [] S = some [] := rfl
@[simp] theorem argsT_tmp {t : T} {rs : List Rv} : argsT (.tmp t :: rs) S = match argsT rs S with
  | some ts => some (t :: ts)
  | none => none := rfl
@[simp] theorem argsT_slot {i : Nat} {rs : List Rv} : argsT (.slot i :: rs) S = match argsT rs S with
  | some ts => (match S[i]? with
      | some (some t) => if t.own = true ∧ rs.any (isSlot i) = true then none else some (t :: ts)
      | _ => none)
  | none => none := rfl
@[simp] theorem isSlot_slot {i j : Nat} : isSlot i (.slot j) = (i == j) := rfl
@[simp] theorem isSlot_tmp {i : Nat} {t : T} : isSlot i (.tmp t) = false := rfl
@[simp] theorem backS_nil {us : List T} : backS [] us S = S := rfl
@[simp] theorem backS_slot {i : Nat} {rs : List Rv} {u : T} {us : List T} : backS (.slot i :: rs) (u :: us) S = backS rs us (S.set i (some u)) := rfl
@[simp] theorem backS_tmp {t : T} {rs : List Rv} {u : T} {us : List T} : backS (.tmp t :: rs) (u :: us) S = backS rs us S := rfl
@[simp] theorem leOwn_nil : leOwn [] [] = true := rfl
@[simp] theorem leOwn_cons {u t : T} {us ts : List T} : leOwn (u :: us) (t :: ts) = (leT u t && leOwn us ts) := rfl
@[simp] theorem leT_fr {d : D} {t : T} : leT (.fr d) t = true := rfl
@[simp] theorem leT_lst {xs ys : List D} : leT (.lst xs) (.lst ys) = true := rfl
@[simp] theorem leT_dct {ks ks' : List Kx} {xs ys : List D} : leT (.dct ks xs) (.dct ks' ys) = true := rfl
@[simp] theorem leT_insN {c c' : Nat} {ns ns' : List Str} {us ws : List U} : leT (.insN c ns us) (.insN c' ns' ws) = leP us ws := rfl
@[simp] theorem leT_dctN {ks ks' : List Key} {us ws : List U} : leT (.dctN ks us) (.dctN ks' ws) = leP us ws := rfl
@[simp] theorem leP_nil {ws : List U} : leP [] ws = true := by cases ws <;> rfl
@[simp] theorem leP_cons {x y : U} {xs ys : List U} : leP (x :: xs) (y :: ys) = ((!x.own || y.own) && leP xs ys) := rfl
@[simp] theorem uown_fr {d : D} : (U.fr d).own = false := rfl
@[simp] theorem uown_lst {ds : List D} : (U.lst ds).own = true := rfl
@[simp] theorem uown_dct {ks : List Kx} {vs : List D} : (U.dct ks vs).own = true := rfl
@[simp] theorem uview_fr {d : D} : (U.fr d).view = d := rfl
@[simp] theorem uview_lst {ds : List D} : (U.lst ds).view = .lst ds := rfl
@[simp] theorem uview_dct {ks : List Kx} {vs : List D} : (U.dct ks vs).view = .dct ks vs := rfl
@[simp] theorem utoT_fr {d : D} : (U.fr d).toT = .fr d := rfl
@[simp] theorem utoT_lst {ds : List D} : (U.lst ds).toT = .lst ds := rfl
@[simp] theorem utoT_dct {ks : List Kx} {vs : List D} : (U.dct ks vs).toT = .dct ks vs := rfl
@[simp] theorem ttoU_fr {d : D} : (T.fr d).toU = some (.fr d) := rfl
@[simp] theorem ttoU_lst {ds : List D} : (T.lst ds).toU = some (.lst ds) := rfl
@[simp] theorem ttoU_dct {ks : List Kx} {vs : List D} : (T.dct ks vs).toU = some (.dct ks vs) := rfl
@[simp] theorem tmpsU_nil : tmpsU [] = some [] := rfl
@[simp] theorem tmpsU_cons {t : T} {rs : List Rv} : tmpsU (.tmp t :: rs) = match t.toU with
  | some u => (tmpsU rs).map (u :: ·)
  | none => none := rfl
@[simp] theorem own_fr {d : D} : (T.fr d).own = false := rfl
@[simp] theorem own_lst {ds : List D} : (T.lst ds).own = true := rfl
@[simp] theorem own_dct {ks : List Kx} {vs : List D} : (T.dct ks vs).own = true := rfl
@[simp] theorem own_ins {c : Nat} {ns : List Str} {vs : List D} : (T.ins c ns vs).own = true := rfl
@[simp] theorem own_insN {c : Nat} {ns : List Str} {us : List U} : (T.insN c ns us).own = true := rfl
@[simp] theorem own_dctN {ks : List Key} {us : List U} : (T.dctN ks us).own = true := rfl
@[simp] theorem nst_fr {d : D} : (T.fr d).nst = false := rfl
@[simp] theorem nst_lst {ds : List D} : (T.lst ds).nst = false := rfl
@[simp] theorem nst_dct {ks : List Kx} {vs : List D} : (T.dct ks vs).nst = false := rfl
@[simp] theorem nst_ins {c : Nat} {ns : List Str} {vs : List D} : (T.ins c ns vs).nst = false := rfl
@[simp] theorem view_fr {d : D} : (T.fr d).view = d := rfl
@[simp] theorem view_lst {ds : List D} : (T.lst ds).view = .lst ds := rfl
@[simp] theorem view_dct {ks : List Kx} {vs : List D} : (T.dct ks vs).view = .dct ks vs := rfl
@[simp] theorem view_ins {c : Nat} {ns : List Str} {vs : List D} : (T.ins c ns vs).view = .ins c ns vs := rfl
@[simp] theorem view_insN {c : Nat} {ns : List Str} {us : List U} : (T.insN c ns us).view = .insN c ns := rfl
@[simp] theorem view_dctN {ks : List Key} {us : List U} : (T.dctN ks us).view = .dctN := rfl
@[simp] theorem frz_fr {d : D} : (T.fr d).frz = d := rfl
@[simp] theorem frz_lst {ds : List D} : (T.lst ds).frz = .lst ds := rfl
@[simp] theorem frz_dct {ks : List Kx} {vs : List D} : (T.dct ks vs).frz = .dct ks vs := rfl
@[simp] theorem frz_ins {c : Nat} {ns : List Str} {vs : List D} : (T.ins c ns vs).frz = .ins c ns vs := rfl
@[simp] theorem frz_insN {c : Nat} {ns : List Str} {us : List U} : (T.insN c ns us).frz = .ins c ns (us.map U.view) := rfl
@[simp] theorem frz_dctN {ks : List Key} {us : List U} : (T.dctN ks us).frz = .dct (ks.map .k) (us.map U.view) := rfl
@[simp] theorem parts_insN {c : Nat} {ns : List Str} {us : List U} : (T.insN c ns us).parts = us := rfl
@[simp] theorem parts_dctN {ks : List Key} {us : List U} : (T.dctN ks us).parts = us := rfl
@[simp] theorem setP_insN {c k : Nat} {ns : List Str} {us : List U} {u : U} : (T.insN c ns us).setP k u = .insN c ns (us.set k u) := rfl
@[simp] theorem setP_dctN {k : Nat} {ks : List Key} {us : List U} {u : U} : (T.dctN ks us).setP k u = .dctN ks (us.set k u) := rfl
@[simp] theorem okMut_ap {t t' : T} : okMut t t' = (t.own && t'.own && !t.nst && !t'.nst) := rfl
@[simp] theorem frzA_nil : frzA [] = [] := rfl
@[simp] theorem frzA_some {t : T} : frzA (some t :: S) = some (.fr t.frz) :: frzA S := rfl
@[simp] theorem frzA_none : frzA (none :: S) = none :: frzA S := rfl
@[simp] theorem posOf_nil {x : α} [DecidableEq α] : posOf x [] = none := rfl
@[simp] theorem posOf_cons {x y : α} {r : List α} [DecidableEq α] : posOf x (y :: r) = if y = x then some 0 else (posOf x r).map (· + 1) := rfl
@[simp] theorem immT_fr {d : D} : immT (.fr d) = imm d := rfl
@[simp] theorem immT_lst {ds : List D} : immT (.lst ds) = imms ds := rfl
@[simp] theorem immT_dct {ks : List Kx} {vs : List D} : immT (.dct ks vs) = imms vs := rfl
@[simp] theorem imms_nil : imms [] = true := rfl
@[simp] theorem imms_cons {d : D} {ds : List D} : imms (d :: ds) = (imm d && imms ds) := by rw [imms]
@[simp] theorem imm_int {i : Int} : imm (.int i) = true := by rw [imm]
@[simp] theorem imm_str {i : Str} : imm (.str i) = true := by rw [imm]
@[simp] theorem imm_bl {b : Bool} : imm (.bl b) = true := by rw [imm]
@[simp] theorem imm_non : imm .non = true := by rw [imm]
@[simp] theorem imm_tup {ds : List D} : imm (.tup ds) = imms ds := by rw [imm]
@[simp] theorem size_line : sizeLine = 16777216 := rfl
@[simp] theorem keyX_int {i : Int} : keyX (.int i) = some (.k (.inl i)) := rfl
@[simp] theorem keyX_str {x : Str} : keyX (.str x) = some (.k (.inr x)) := rfl
@[simp] theorem keyX_pair {x : Str} {i : Int} : keyX (.tup [.str x, .int i]) = some (.t [.inr x, .inl i]) := rfl
@[simp] theorem isDct_dct {ks : List Kx} {vs : List D} : isDct (.dct ks vs) = true := rfl
@[simp] theorem isLst_lst {ds : List D} : isLst (.lst ds) = true := rfl
@[simp] theorem isDctT_dct {ks : List Kx} {vs : List D} : isDctT (.dct ks vs) = true := rfl
@[simp] theorem idx_dct {ks : List Kx} {vs : List D} {d : D} : idxD (.dct ks vs) d = (keyX d).bind fun k => (atX ks vs k).map .fr := by cases d <;> rfl
@[simp] theorem idx_lst {ds : List D} {i : Int} : idxD (.lst ds) (.int i) = (atI ds i).map .fr := rfl
@[simp] theorem idx_tup {ds : List D} {i : Int} : idxD (.tup ds) (.int i) = (atI ds i).map .fr := rfl
@[simp] theorem idx_scr {ds : List D} {i : Int} : idxD (.scr ds) (.int i) = (atI ds i).map .fr := rfl
theorem atI_nat {γ : Type} {xs : List γ} {n : Nat} : atI xs (OfNat.ofNat n : Int) = xs[n]? := by
  show (ixN xs.length (OfNat.ofNat n : Int)).bind (fun j => xs[j]?) = _
  unfold ixN
  rw [if_pos (show (0 : Int) ≤ (OfNat.ofNat n : Int) from Int.natCast_nonneg n)]
  split
  · rfl
  · rename_i h
    have h2 : ¬ n < xs.length := fun z => h (Int.ofNat_lt.mpr z)
    rw [List.getElem?_eq_none (by omega)]
    rfl
theorem atI_lt {γ : Type} {xs : List γ} {i : Int} (h0 : 0 ≤ i) (h1 : i < xs.length) : ∃ x, atI xs i = some x ∧ x ∈ xs := by
  obtain ⟨n, rfl⟩ := Int.eq_ofNat_of_zero_le h0
  have h2 : n < xs.length := Int.ofNat_lt.mp h1
  refine ⟨xs[n], ?_, List.getElem_mem h2⟩
  unfold atI ixN
  rw [if_pos h0, if_pos h1]
  show xs[n]? = _
  rw [List.getElem?_eq_getElem h2]
@[simp] theorem atI0 {γ : Type} {xs : List γ} : atI xs 0 = xs[0]? := atI_nat (n := 0)
@[simp] theorem atI1 {γ : Type} {xs : List γ} : atI xs 1 = xs[1]? := atI_nat (n := 1)
@[simp] theorem atI2 {γ : Type} {xs : List γ} : atI xs 2 = xs[2]? := atI_nat (n := 2)
@[simp] theorem posI {i : Nat} : ((OfNat.ofNat i : Int)).toNat = i := rfl
@[simp] theorem add_int {i j : Int} : addD (.int i) (.int j) = some (.fr (.int (i + j))) := rfl
@[simp] theorem sub_int {i j : Int} : subD (.int i) (.int j) = some (.fr (.int (i - j))) := rfl
@[simp] theorem add_tup {a b : List D} : addD (.tup a) (.tup b) = if a.length + b.length ≤ sizeLine then some (.fr (.tup (a ++ b))) else none := rfl
@[simp] theorem add_lst {a b : List D} : addD (.lst a) (.lst b) = if a.length + b.length ≤ sizeLine then some (.lst (a ++ b)) else none := rfl
@[simp] theorem add_str {a b : Str} : addD (.str a) (.str b) = if a.length + b.length ≤ sizeLine then some (.fr (.str (a ++ b))) else none := rfl
@[simp] theorem gt_int {i j : Int} : gtD (.int i) (.int j) = some (.fr (.bl (decide (j < i)))) := rfl
@[simp] theorem lt_int {i j : Int} : ltD (.int i) (.int j) = some (.fr (.bl (decide (i < j)))) := rfl
@[simp] theorem ge_int {i j : Int} : geD (.int i) (.int j) = some (.fr (.bl (decide (j ≤ i)))) := rfl
@[simp] theorem le_int {i j : Int} : leD (.int i) (.int j) = some (.fr (.bl (decide (i ≤ j)))) := rfl
@[simp] theorem le_str {i j : Str} : leD (.str i) (.str j) = some (.fr (.bl (!ltS j i))) := rfl
@[simp] theorem mod_int {i j : Int} : modD (.int i) (.int j) = if 0 < j then some (.fr (.int (i % j))) else none := rfl
@[simp] theorem fdiv_int {i j : Int} : fdivD (.int i) (.int j) = if 0 < j ∧ j.natAbs.log2 < 9000 then some (.fr (.int (i / j))) else none := rfl
@[simp] theorem isN_ap {x y : D} : isND x y = if y.isNon = true then some (.fr (.bl x.isNon)) else none := rfl
@[simp] theorem notN_ap {x y : D} : notND x y = if y.isNon = true then some (.fr (.bl (!x.isNon))) else none := rfl
@[simp] theorem seqD_lst {ds : List D} : seqD (.lst ds) = some ds := rfl
@[simp] theorem seqD_tup {ds : List D} : seqD (.tup ds) = some ds := rfl
@[simp] theorem seqD_str {x : Str} : seqD (.str x) = some (x.cps.toList.map fun c => .str ⟨#[c]⟩) := rfl
@[simp] theorem runD_ap {N np : Nat} {fx : Nat → Bool} {b : MS} {ts : List T} (h : ts.length = np) : runD N np fx b ts = match b (ts.map some ++ List.replicate (N - np) none) with
    | .nx S => (match outsF fx S 0 ts with
      | some us => .ret (.fr .non) us
      | none => .stuck)
    | .rt r S => (match retv np r S with
      | some (t, S') => (match outsF fx S' 0 ts with
        | some us => .ret t us
        | none => .stuck)
      | none => .stuck)
    | .exc x S => (match outsF fx S 0 ts with
      | some us => .exc x us
      | none => .stuck)
    | _ => .stuck := by
  unfold runD
  rw [if_pos h]
  try rfl
@[simp] theorem retv_tmp {np : Nat} {t : T} : retv np (.tmp t) S = some (t, S) := rfl
@[simp] theorem retv_slot {np i : Nat} : retv np (.slot i) S = match S[i]? with
    | some (some t) => if i < np then some (.fr t.frz, S.set i (some (.fr t.frz))) else some (t, S.set i none)
    | _ => none := rfl
@[simp] theorem outsF_nil {fx : Nat → Bool} {p : Nat} : outsF fx S p [] = some [] := rfl
@[simp] theorem outsF_cons {fx : Nat → Bool} {p : Nat} {t : T} {ts : List T} : outsF fx S p (t :: ts) = match outsF fx S (p + 1) ts with
    | some us => if fx p = true then (match S[p]? with
        | some (some u) => if leT u t = true then some (u :: us) else none
        | _ => none)
      else if t.own = true then none else some (t :: us)
    | none => none := rfl
end
end DL

set_option Elab.async false
set_option linter.all false
namespace DL
open PySem L2
section
variable {α β : Type} [DecidableEq α]
def lk (l : List (α × β)) (k : α) : Option β := (l.find? fun p => decide (p.1 = k)).map (·.2)
def put : List (α × β) → α → β → List (α × β)
  | [], k, v => [(k, v)]
  | p :: r, k, v => if p.1 = k then (k, v) :: r else p :: put r k v
def del (l : List (α × β)) (k : α) : List (α × β) := l.filter fun p => decide (p.1 ≠ k)
abbrev nd (l : List (α × β)) : Prop := (l.map (·.1)).Nodup
@[simp] theorem lk_nil {k : α} : lk ([] : List (α × β)) k = none := rfl
theorem lk_cons {p : α × β} {r : List (α × β)} {k : α} : lk (p :: r) k = if p.1 = k then some p.2 else lk r k := by
  unfold lk
  rw [List.find?_cons]
  by_cases h : p.1 = k
  · rw [if_pos h, decide_eq_true h]; rfl
  · rw [if_neg h, decide_eq_false h]
theorem lk_none {l : List (α × β)} {k : α} : lk l k = none ↔ k ∉ l.map (·.1) := by
  induction l with
  | nil => simp
  | cons p r ih =>
    rw [lk_cons]
    by_cases h : p.1 = k
    · simp [h]
    · rw [if_neg h, ih, List.map_cons, List.mem_cons, not_or]
      exact ⟨fun z => ⟨fun e => h e.symm, z⟩, fun z => z.2⟩
theorem lk_mem {l : List (α × β)} {k : α} {v : β} (h : lk l k = some v) : (k, v) ∈ l := by
  induction l with
  | nil => simp at h
  | cons p r ih =>
    rw [lk_cons] at h
    by_cases e : p.1 = k
    · rw [if_pos e] at h
      cases h
      subst e
      exact List.mem_cons_self
    · rw [if_neg e] at h
      exact List.mem_cons_of_mem _ (ih h)
theorem lk_of_mem {l : List (α × β)} {k : α} {v : β} (n : nd l) (h : (k, v) ∈ l) : lk l k = some v := by
  induction l with
  | nil => simp at h
  | cons p r ih =>
    rw [lk_cons]
    have n2 : p.1 ∉ r.map (·.1) ∧ nd r := List.nodup_cons.mp n
    rcases List.mem_cons.mp h with e | e
    · subst e; rw [if_pos rfl]
    · rw [if_neg fun z => n2.1 (by rw [z]; exact List.mem_map.mpr ⟨_, e, rfl⟩)]
      exact ih n2.2 e
theorem lk_put {l : List (α × β)} {k j : α} {v : β} : lk (put l k v) j = if k = j then some v else lk l j := by
  induction l with
  | nil =>
    show lk [(k, v)] j = _
    rw [lk_cons]
  | cons p r ih =>
    unfold put
    by_cases h : p.1 = k
    · rw [if_pos h, lk_cons, lk_cons]
      by_cases e : k = j
      · rw [if_pos e, if_pos e]
      · rw [if_neg e, if_neg e, if_neg (by rw [h]; exact e)]
    · rw [if_neg h, lk_cons, ih, lk_cons]
      by_cases e : p.1 = j
      · rw [if_pos e, if_pos e, if_neg fun z => h (by rw [e, z])]
      · rw [if_neg e, if_neg e]
theorem put_keys {l : List (α × β)} {k : α} {v : β} : (put l k v).map (·.1) = if k ∈ l.map (·.1) then l.map (·.1) else l.map (·.1) ++ [k] := by
  induction l with
  | nil => rfl
  | cons p r ih =>
    unfold put
    by_cases h : p.1 = k
    · rw [if_pos h, List.map_cons, if_pos (by rw [List.map_cons, h]; exact List.mem_cons_self), List.map_cons, h]
    · rw [if_neg h, List.map_cons, ih, List.map_cons]
      by_cases e : k ∈ r.map (·.1)
      · rw [if_pos e, if_pos (List.mem_cons_of_mem _ e)]
      · rw [if_neg e, if_neg (by rw [List.mem_cons, not_or]; exact ⟨fun z => h z.symm, e⟩)]; rfl
theorem put_nd {l : List (α × β)} {k : α} {v : β} (n : nd l) : nd (put l k v) := by
  unfold nd
  rw [put_keys]
  split
  · exact n
  · rename_i h
    refine List.nodup_append.mpr ⟨n, by simp, ?_⟩
    intro a ha b hb
    rw [List.mem_singleton] at hb
    subst hb
    intro e
    subst e
    exact h ha
theorem put_len {l : List (α × β)} {k : α} {v : β} : (put l k v).length ≤ l.length + 1 := by
  have h := congrArg List.length (put_keys (l := l) (k := k) (v := v))
  rw [List.length_map] at h
  rw [h]
  split <;> simp
theorem put_new {l : List (α × β)} {k : α} {v : β} (h : k ∉ l.map (·.1)) : put l k v = l ++ [(k, v)] := by
  induction l with
  | nil => rfl
  | cons p r ih =>
    rw [List.map_cons, List.mem_cons, not_or] at h
    unfold put
    rw [if_neg fun z => h.1 z.symm, ih h.2]
    rfl
theorem put_key {l : List (α × β)} {k j : α} {v : β} (h : j ∈ (put l k v).map (·.1)) : j = k ∨ j ∈ l.map (·.1) := by
  rw [put_keys] at h
  split at h
  · exact .inr h
  · rcases List.mem_append.mp h with h | h
    · exact .inr h
    · exact .inl (List.mem_singleton.mp h)
theorem del_keys {l : List (α × β)} {k j : α} (h : j ∈ (del l k).map (·.1)) : j ∈ l.map (·.1) ∧ j ≠ k := by
  obtain ⟨p, hp, rfl⟩ := List.mem_map.mp h
  obtain ⟨h1, h2⟩ := List.mem_filter.mp hp
  exact ⟨List.mem_map.mpr ⟨p, h1, rfl⟩, of_decide_eq_true h2⟩
theorem del_nd {l : List (α × β)} {k : α} (n : nd l) : nd (del l k) := List.Nodup.sublist (List.Sublist.map _ List.filter_sublist) n
theorem del_len {l : List (α × β)} {k : α} : (del l k).length ≤ l.length := List.length_filter_le _ _
theorem lk_del {l : List (α × β)} {k j : α} : lk (del l k) j = if k = j then none else lk l j := by
  induction l with
  | nil => simp [del]
  | cons p r ih =>
    unfold del at ih ⊢
    rw [List.filter_cons]
    by_cases h : p.1 = k
    · rw [if_neg (by simp [h]), ih, lk_cons]
      by_cases e : k = j
      · rw [if_pos e, if_pos e]
      · rw [if_neg e, if_neg e, if_neg (by rw [h]; exact e)]
    · rw [if_pos (by simp [h]), lk_cons, ih, lk_cons]
      by_cases e : p.1 = j
      · rw [if_pos e, if_pos e, if_neg fun z => h (by rw [e, z])]
      · rw [if_neg e, if_neg e]
theorem del_new {l : List (α × β)} {k : α} (h : k ∉ l.map (·.1)) : del l k = l := by
  unfold del
  rw [List.filter_eq_self]
  intro p hp
  exact decide_eq_true fun z => h (List.mem_map.mpr ⟨p, hp, z⟩)
variable {kf : α → Kx} {vf : β → D}
theorem at_enc (hk : ∀ a b, kf a = kf b → a = b) {l : List (α × β)} {k : α} : atX (l.map fun p => kf p.1) (l.map fun p => vf p.2) (kf k) = (lk l k).map vf := by
  unfold atX
  induction l with
  | nil => rfl
  | cons p r ih =>
    rw [List.map_cons, List.map_cons, List.zip_cons_cons, List.find?_cons, lk_cons]
    by_cases h : p.1 = k
    · rw [if_pos h]
      simp [h]
    · rw [if_neg h]
      simp only [show decide (kf p.1 = kf k) = false from decide_eq_false fun z => h (hk _ _ z)]
      exact ih
theorem has_enc (hk : ∀ a b, kf a = kf b → a = b) {l : List (α × β)} {k : α} : (l.map fun p => kf p.1).contains (kf k) = true ↔ k ∈ l.map (·.1) := by
  rw [List.contains_iff_mem, List.mem_map, List.mem_map]
  exact ⟨fun ⟨p, h1, h2⟩ => ⟨p, h1, hk _ _ h2⟩, fun ⟨p, h1, h2⟩ => ⟨p, h1, by rw [h2]⟩⟩
theorem rep_enc (hk : ∀ a b, kf a = kf b → a = b) {l : List (α × β)} {k : α} {v : β} (n : nd l) (h : k ∈ l.map (·.1)) : repX (l.map fun p => kf p.1) (l.map fun p => vf p.2) (kf k) (vf v) = (put l k v).map fun p => vf p.2 := by
  have self : ∀ l : List (α × β), k ∉ l.map (·.1) → repX (l.map fun p => kf p.1) (l.map fun p => vf p.2) (kf k) (vf v) = l.map fun p => vf p.2 := by
    intro l
    induction l with
    | nil => intro _; rfl
    | cons p r ih =>
      intro h
      rw [List.map_cons, List.mem_cons, not_or] at h
      show (if kf p.1 = kf k then vf v else vf p.2) :: repX (r.map fun p => kf p.1) (r.map fun p => vf p.2) (kf k) (vf v) = _
      rw [ih h.2, if_neg fun z => h.1 (hk _ _ z).symm]
      rfl
  induction l with
  | nil => simp at h
  | cons p r ih =>
    have n2 : p.1 ∉ r.map (·.1) ∧ nd r := List.nodup_cons.mp n
    show (if kf p.1 = kf k then vf v else vf p.2) :: repX (r.map fun p => kf p.1) (r.map fun p => vf p.2) (kf k) (vf v) = _
    unfold put
    by_cases e : p.1 = k
    · subst e
      rw [if_pos rfl, if_pos rfl, self r n2.1]
      rfl
    · rw [if_neg fun z => e (hk _ _ z), if_neg e, ih n2.2 ((List.mem_cons.mp h).resolve_left fun z => e z.symm)]
      rfl
theorem put_enc (hk : ∀ a b, kf a = kf b → a = b) {l : List (α × β)} {k : α} {v : β} (n : nd l) : putX (l.map fun p => kf p.1) (l.map fun p => vf p.2) (kf k) (vf v) = ((put l k v).map fun p => kf p.1, (put l k v).map fun p => vf p.2) := by
  unfold putX
  by_cases h : k ∈ l.map (·.1)
  · rw [if_pos ((has_enc hk).mpr h), rep_enc hk n h]
    have e : (put l k v).map (fun p => kf p.1) = ((put l k v).map (·.1)).map kf := by simp
    rw [e, put_keys, if_pos h]
    simp
  · rw [if_neg fun z => h ((has_enc hk).mp z), put_new h]
    simp
theorem drop_enc (hk : ∀ a b, kf a = kf b → a = b) {l : List (α × β)} {k : α} : dropX (l.map fun p => kf p.1) (l.map fun p => vf p.2) (kf k) = ((del l k).map fun p => kf p.1, (del l k).map fun p => vf p.2) := by
  induction l with
  | nil => rfl
  | cons p r ih =>
    rw [List.map_cons, List.map_cons, dropX]
    unfold del at ih ⊢
    rw [List.filter_cons, ih]
    by_cases h : p.1 = k
    · rw [if_pos (by rw [h]), if_neg (by simp [h])]
    · rw [if_neg fun z => h (hk _ _ z), if_pos (by simp [h])]
      rfl
def same (eqv : β → β → Bool) (a b : List (α × β)) : Bool := (a.length == b.length) && a.all fun p => match lk b p.1 with
  | some w => eqv p.2 w
  | none => false
theorem allO_fn {γ : Type} {f : γ → Option Bool} {g : γ → Bool} : ∀ {l : List γ}, (∀ x ∈ l, f x = some (g x)) → allO (l.map f) = some (l.all g)
  | [], _ => rfl
  | x :: l, h => by
    rw [List.map_cons, h x List.mem_cons_self]
    show (allO (l.map f)).map (fun c => g x && c) = _
    rw [allO_fn fun y hy => h y (List.mem_cons_of_mem _ hy)]
    rfl
theorem eqP_enc (hk : ∀ a b, kf a = kf b → a = b) {n : Nat} {eqv : β → β → Bool} (he : ∀ v w, eqF n (vf v) (vf w) = some (eqv v w)) {a b : List (α × β)} :
    eqP1 n (a.map fun p => kf p.1) (a.map fun p => vf p.2) (b.map fun p => kf p.1) (b.map fun p => vf p.2) = some (same eqv a b) := by
  unfold eqP1 same
  rw [List.length_map, List.length_map]
  by_cases h : a.length = b.length
  · rw [if_pos h, show (a.length == b.length) = true by simp [h], Bool.true_and]
    rw [List.zip_map', List.map_map]
    refine allO_fn fun p _ => ?_
    show (match atX (b.map fun p => kf p.1) (b.map fun p => vf p.2) (kf p.1) with
      | none => some false
      | some d => eqF n (vf p.2) d) = _
    rw [at_enc hk]
    cases lk b p.1 with
    | none => rfl
    | some w => exact he _ _
  · rw [if_neg h, show (a.length == b.length) = false by simp [h], Bool.false_and]
end
section
variable {α : Type} [DecidableEq α]
theorem nodup_le : ∀ {a b : List α}, a.Nodup → (∀ x ∈ a, x ∈ b) → a.length ≤ b.length
  | [], _, _, _ => Nat.zero_le _
  | x :: a, b, n, h => by
    obtain ⟨n1, n2⟩ := List.nodup_cons.mp n
    have hx := h x List.mem_cons_self
    have e : b.length = (b.erase x).length + 1 := by
      rw [List.length_erase_of_mem hx]
      have := List.length_pos_of_mem hx
      omega
    rw [e]
    refine Nat.succ_le_succ (nodup_le n2 fun y hy => ?_)
    exact (List.mem_erase_of_ne fun z => n1 (by rw [← z]; exact hy)).mpr (h y (List.mem_cons_of_mem _ hy))
end
section
variable {α β : Type} [DecidableEq α] [DecidableEq β]
theorem same_iff {eqv : β → β → Bool} (hq : ∀ v w, eqv v w = true ↔ v = w) {a b : List (α × β)} (na : nd a) (nb : nd b) : same eqv a b = true ↔ ∀ k, lk a k = lk b k := by
  have key : ∀ {a b : List (α × β)}, (∀ k, lk a k = lk b k) → nd a → a.length ≤ b.length := fun {a b} h na => by
    have := nodup_le (a := a.map (·.1)) (b := b.map (·.1)) na fun x hx => by
      refine Classical.byContradiction fun z => ?_
      have := h x
      rw [lk_none.mpr z] at this
      exact lk_none.mp this hx
    simpa using this
  unfold same
  rw [Bool.and_eq_true, List.all_eq_true]
  constructor
  · intro ⟨h1, h2⟩ k
    have hl : a.length = b.length := by simpa using h1
    have sub : ∀ x ∈ a.map (·.1), x ∈ b.map (·.1) := fun x hx => by
      obtain ⟨p, hp, rfl⟩ := List.mem_map.mp hx
      have := h2 p hp
      refine Classical.byContradiction fun z => ?_
      rw [lk_none.mpr z] at this
      cases this
    cases e : lk a k with
    | some v =>
      have h3 := h2 _ (lk_mem e)
      cases e2 : lk b k with
      | none => simp [e2] at h3
      | some w =>
        simp only [e2] at h3
        rw [(hq _ _).mp h3]
    | none =>
      refine (lk_none.mpr fun z => ?_).symm
      have n2 : (k :: a.map (·.1)).Nodup := List.nodup_cons.mpr ⟨lk_none.mp e, na⟩
      have := nodup_le n2 (b := b.map (·.1)) fun x hx => by
        rcases List.mem_cons.mp hx with rfl | hx
        · exact z
        · exact sub x hx
      simp at this
      omega
  · intro h
    refine ⟨?_, fun p hp => ?_⟩
    · have h1 := key h na
      have h2 := key (fun k => (h k).symm) nb
      simp
      omega
    · rw [← h, lk_of_mem na (show (p.1, p.2) ∈ a from hp)]
      exact (hq _ _).mpr rfl
end
end DL

set_option Elab.async false
set_option linter.all false
set_option maxRecDepth 100000
set_option maxHeartbeats 0
namespace K77
open PySem PySem.Spec PyProof.Rows L2 DL
def top (i : Nat) : Stmt := PySem.Challenge.pw_wholeback_k77_ledgers_told.main.body.getD i (.Pass ⟨0, 0, 0, 0⟩)
def kt (P : Program) (w : World) (K : PySem.W.Frag) : Kt := ⟨K, fun c => match c with | 0 => He.ga K "Ledger" | _ => 0, P, w⟩
def isTab : List (Tg × Tg × Bool) := [(.ty "int", .ty "int", true), (.ty "bool", .ty "int", true), (.ty "str", .ty "int", false), (.ty "NoneType", .ty "int", false), (.ty "list", .ty "int", false), (.ty "tuple", .ty "int", false), (.ty "dict", .ty "int", false), (.cls 0, .ty "int", false), (.ty "int", .ty "bool", false), (.ty "bool", .ty "bool", true), (.ty "str", .ty "bool", false), (.ty "NoneType", .ty "bool", false), (.ty "list", .ty "bool", false), (.ty "tuple", .ty "bool", false), (.ty "dict", .ty "bool", false), (.cls 0, .ty "bool", false), (.ty "int", .ty "str", false), (.ty "bool", .ty "str", false), (.ty "str", .ty "str", true), (.ty "NoneType", .ty "str", false), (.ty "list", .ty "str", false), (.ty "tuple", .ty "str", false), (.ty "dict", .ty "str", false), (.cls 0, .ty "str", false), (.ty "int", .ty "list", false), (.ty "bool", .ty "list", false), (.ty "str", .ty "list", false), (.ty "NoneType", .ty "list", false), (.ty "list", .ty "list", true), (.ty "tuple", .ty "list", false), (.ty "dict", .ty "list", false), (.cls 0, .ty "list", false), (.ty "int", .ty "tuple", false), (.ty "bool", .ty "tuple", false), (.ty "str", .ty "tuple", false), (.ty "NoneType", .ty "tuple", false), (.ty "list", .ty "tuple", false), (.ty "tuple", .ty "tuple", true), (.ty "dict", .ty "tuple", false), (.cls 0, .ty "tuple", false), (.ty "int", .ty "dict", false), (.ty "bool", .ty "dict", false), (.ty "str", .ty "dict", false), (.ty "NoneType", .ty "dict", false), (.ty "list", .ty "dict", false), (.ty "tuple", .ty "dict", false), (.ty "dict", .ty "dict", true), (.cls 0, .ty "dict", false), (.ty "int", .cls 0, false), (.ty "bool", .cls 0, false), (.ty "str", .cls 0, false), (.ty "NoneType", .cls 0, false), (.ty "list", .cls 0, false), (.ty "tuple", .cls 0, false), (.ty "dict", .cls 0, false), (.cls 0, .cls 0, true)]
def isT : IsT := fun t u => (isTab.find? fun q => decide (q.1 = t) && decide (q.2.1 = u)).map fun q => q.2.2
def nfT (c : Nat) : Tg → Bool := fun t => decide (t = .cls c) || decide (t = .ty "dict") || decide (t = .ty "int") || decide (t = .ty "NoneType")
structure Tx (K : PySem.W.Frag) (mg : Str → Option Value) : Prop where
  b_int : mg "int" = none
  b_isinstance : mg "isinstance" = none
  b_bool : mg "bool" = none
  b_str : mg "str" = none
  g_WORDS : mg "WORDS" = some (.ref (He.ga K "WORDS")) ∧ WrT K (He.ga K "WORDS") ((["store", "given", "local", "job", "end", "set", "take", "atomic", "repeat", "in", "send", "read"] : List Str).map V.str)
  b_len : mg "len" = none
  g_MAX_LETTERS : ∃ t, mg "MAX_LETTERS" = some (.int 8 t)
  b_all : mg "all" = none
  b_abs : mg "abs" = none
  b_dict : mg "dict" = none
  cl_Ledger : Cls K (He.ga K "Ledger")
  na_Ledger_own_ids : NoAttr K (He.ga K "Ledger") "own_ids"
  na_Ledger_own_copies : NoAttr K (He.ga K "Ledger") "own_copies"
  na_Ledger_own_runs : NoAttr K (He.ga K "Ledger") "own_runs"
  b_sorted : mg "sorted" = none
  c_Ledger : mg "Ledger" = some (.ref (He.ga K "Ledger"))
  g_MAX_NUMBER : ∃ t, mg "MAX_NUMBER" = some (.int 99 t)
  b_min : mg "min" = none
  b_max : mg "max" = none
  b_range : mg "range" = none
  nf_Ledger : ∀ t, nfT 0 t = true → PySem.W.notFirst K (He.ga K "Ledger") (t.val (kt P w K)) = true
  triv : True
variable {P : Program} {w : World} {K : PySem.W.Frag} {mg : Str → Option Value} {base : Heap} {f : Addr} {fd : FuncData}
abbrev s_is_integer : Stmt := top 11
abbrev N_is_integer : List Str := ["candidate"]
def x_is_integer : Nat → Bool := fun p => p == 0
def b_is_integer : MS := (sRet (eAnd (eCB (isiD isT) (eCons (eVar 0) (eCons (eC (.ty "int")) eNil))) (eNot (eCB (isiD isT) (eCons (eVar 0) (eCons (eC (.ty "bool")) eNil))))))
def f_is_integer : FD := runD 1 1 x_is_integer b_is_integer
theorem sc_is_integer : FnScope N_is_integer ["candidate"] (defScope s_is_integer) := ⟨rfl, rfl, rfl, by decide +kernel, rfl, by decide +kernel, by decide +kernel⟩
theorem ok_is_integer (T : Tx K mg) (O : IsOk (kt P w K) isT)  (F : FunD K "is_integer" "is_integer" (defArgs s_is_integer) (defBody s_is_integer) (defScope s_is_integer) [] [] f fd) : FnOk P w K mg base CX0 1 f fd ["candidate"] (spD (kt P w K) f_is_integer) :=
  have sc := sc_is_integer
  fnD_ok (k := 0) F sc fun cdv A outer s H E hr =>
    have hu := hr.units
    have hk : K = (kt P w K).K := rfl
    have hp := passes_of (X := cxOf CX0 P w K mg base N_is_integer "is_integer" (defScope s_is_integer) f cdv A outer s H E) rfl
    (dss_one (ds_ret (de_and (de_callB (v_isi O) c_isi rfl T.b_isinstance rfl (da_cons (de_var 0 (pv 0)) (da_cons (de_bty T.b_int rfl) da_nil))) (de_one (de_not (de_callB (v_isi O) c_isi rfl T.b_isinstance rfl (da_cons (de_var 0 (pv 0)) (da_cons (de_bty T.b_bool rfl) da_nil))))))))
abbrev s_is_name : Stmt := top 15
abbrev N_is_name : List Str := ["candidate", "letter"]
def x_is_name : Nat → Bool := fun p => p == 0
def b_is_name : MS := (sSeq (sIf (bOr (bNot (bOf (eCB (isiD isT) (eCons (eVar 0) (eCons (eC (.ty "str")) eNil))))) (bOr (bOf (eBin (indD false) (eVar 0) (eC (.ktup ((["store", "given", "local", "job", "end", "set", "take", "atomic", "repeat", "in", "send", "read"] : List Str).map D.str))))) (bNot (bOf (eChain leD leD (eC (.int 1)) (eCB len2D (eCons (eVar 0) eNil)) (eC (.int 8))))))) (sRet (eC (.bl false))) sNx)
      (sRet (eCB allD (eCons (eComp [1] (eIt (eVar 0) seqD) (gN 1) bYes (eChain leD leD (eC (.str "a")) (eVar 1) (eC (.str "z")))) eNil))))
def f_is_name : FD := runD 2 1 x_is_name b_is_name
theorem sc_is_name : FnScope N_is_name ["candidate"] (defScope s_is_name) := ⟨rfl, rfl, rfl, by decide +kernel, rfl, by decide +kernel, by decide +kernel⟩
theorem ok_is_name (T : Tx K mg) (O : IsOk (kt P w K) isT)  (F : FunD K "is_name" "is_name" (defArgs s_is_name) (defBody s_is_name) (defScope s_is_name) [] [] f fd) : FnOk P w K mg base CX0 1 f fd ["candidate"] (spD (kt P w K) f_is_name) :=
  have sc := sc_is_name
  fnD_ok (k := 0) F sc fun cdv A outer s H E hr =>
    have hu := hr.units
    have hk : K = (kt P w K).K := rfl
    have hp := passes_of (X := cxOf CX0 P w K mg base N_is_name "is_name" (defScope s_is_name) f cdv A outer s H E) rfl
    (dss_cons (ds_if (PW.pt (dw_or (dt_not (dt_val (de_callB (v_isi O) c_isi rfl T.b_isinstance rfl (da_cons (de_var 0 (pv 0)) (da_cons (de_bty T.b_str rfl) da_nil))))) (dw_or (dt_cmp (op_inX hk hu) (v_inX false) (de_var 0 (pv 0)) (de_globT (hk := rfl) T.g_WORDS) (by with_unfolding_all rfl)) (dw_or1 (dt_not (dt_chain op_leDD v_cmp op_leDD v_cmp de_int (de_callB v_len2 c_len2 rfl T.b_len rfl (da_cons (de_var 0 (pv 0)) da_nil)) (de_globI T.g_MAX_LETTERS))))))) (dss_one (ds_ret de_bl)) dss_nil)
      (dss_one (ds_ret (de_callB v_all (cr_all rfl) rfl T.b_all rfl (da_cons (de_lc (own := [("letter", 1)]) rfl sc.nd (di_seq hk (de_var 0 (pv 0))) (blkOk_by (own := [("letter", 1)]) (N := N_is_name) (sc := defScope s_is_name) (by decide +kernel)) (fun _ _ _ _ _ => (pg_name (i := 1) sc.nd rfl (by first | exact Or.inl rfl | exact Or.inr rfl))) (tg_name (i := 1) (show 1 < 2 from by decide) (by decide)) (fun _ _ _ _ _ => dts_nil) (fun _ _ _ _ _ => (de_chain op_leDD v_cmp op_leDD v_cmp de_str (de_var 1 (pv 1)) de_str))) da_nil)))))
abbrev s__law_pool : Stmt := top 21
abbrev N__law_pool : List Str := ["script", "k", "cell", "size", "seed"]
def x__law_pool : Nat → Bool := fun p => p == 0 || p == 1
def b__law_pool : MS := (sSeq (sAsg 2 (eC (.int 0)))
      (sSeq (sIf (bOf (eBin ltD (eVar 1) (eCB len2D (eCons (eVar 0) eNil)))) (sAsg 2 (eBin idxD (eVar 0) (eVar 1))) sNx)
      (sSeq (sAsg 3 (eCB absD (eCons (eVar 2) eNil)))
      (sSeq (sAsg 4 (eBin modD (eBin mul2D (eBin addD (eBin addD (eBin modD (eVar 3) (eC (.int 2147483629))) (eBin mul2D (eC (.int 7919)) (eVar 1))) (eC (.int 31))) (eC (.int 48271))) (eC (.int 2147483647))))
      (sRet (eLst (eCons (eBin mul2D (eVar 3) (eCB intD (eCons (eBin geD (eVar 3) (eBin powD (eC (.int 10)) (eC (.int 18)))) eNil))) (eCons (eVar 4) eNil))))))))
def f__law_pool : FD := runD 5 2 x__law_pool b__law_pool
theorem sc__law_pool : FnScope N__law_pool ["script", "k"] (defScope s__law_pool) := ⟨rfl, rfl, rfl, by decide +kernel, rfl, by decide +kernel, by decide +kernel⟩
theorem ok__law_pool (T : Tx K mg) (O : IsOk (kt P w K) isT)  (F : FunD K "_law_pool" "_law_pool" (defArgs s__law_pool) (defBody s__law_pool) (defScope s__law_pool) [] [] f fd) : FnOk P w K mg base CX0 1 f fd ["script", "k"] (spD (kt P w K) f__law_pool) :=
  have sc := sc__law_pool
  fnD_ok (k := 0) F sc fun cdv A outer s H E hr =>
    have hu := hr.units
    have hk : K = (kt P w K).K := rfl
    have hp := passes_of (X := cxOf CX0 P w K mg base N__law_pool "_law_pool" (defScope s__law_pool) f cdv A outer s H E) rfl
    (dss_cons (ds_set (i := 2) sc.nd rfl (by first | exact Or.inl rfl | exact Or.inr rfl) de_int (by decide))
      (dss_cons (ds_if (dt_cmp op_ltDD v_cmp (de_var 1 (pv 1)) (de_callB v_len2 c_len2 rfl T.b_len rfl (da_cons (de_var 0 (pv 0)) da_nil)) (nomark _)) (dss_one (ds_set (i := 2) sc.nd rfl (by first | exact Or.inl rfl | exact Or.inr rfl) (de_ix hk hu (de_var 0 (pv 0)) (de_var 1 (pv 1)) fun _ _ => rfl) (by decide))) dss_nil)
      (dss_cons (ds_set (i := 3) sc.nd rfl (by first | exact Or.inl rfl | exact Or.inr rfl) (de_callB v_abs call_abs rfl T.b_abs rfl (da_cons (de_var 2 (pv 2)) da_nil)) (by decide))
      (dss_cons (ds_set (i := 4) sc.nd rfl (by first | exact Or.inl rfl | exact Or.inr rfl) (de_bin op_mod v_mod (de_bin op_mul2 v_mul2 (de_bin op_addD v_add (de_bin op_addD v_add (de_bin op_mod v_mod (de_var 3 (pv 3)) de_int) (de_bin op_mul2 v_mul2 de_int (de_var 1 (pv 1)))) de_int) de_int) de_int) (by decide))
      (dss_one (ds_ret (de_lst (da_cons (de_bin op_mul2 v_mul2 (de_var 3 (pv 3)) (de_callTy v_int call_int1 rfl T.b_int rfl (da_cons (de_cmp op_geDD v_cmp (de_var 3 (pv 3)) (de_bin op_pow v_pow de_int de_int) (nomark _)) da_nil))) (da_cons (de_var 4 (pv 4)) da_nil)))))))))
abbrev s__law_draw : Stmt := top 22
abbrev N__law_draw : List Str := ["pool", "count", "found"]
def x__law_draw : Nat → Bool := fun p => p == 0 || p == 1
def b__law_draw : MS := (sSeq (sIf (bOf (eBin gtD (eBin idxD (eVar 0) (eC (.int 0))) (eC (.int 0)))) (sSeq (sAsg 2 (eBin modD (eBin idxD (eVar 0) (eC (.int 0))) (eVar 1)))
      (sSeq (sSto setG2 (eCons (eBin fdivD (eBin idxD (eVar 0) (eC (.int 0))) (eVar 1)) (eCons (eVar 0) (eCons (eC (.int 0)) eNil))))
      (sRet (eVar 2)))) sNx)
      (sSeq (sSto setG2 (eCons (eBin modD (eBin addD (eBin mul2D (eBin idxD (eVar 0) (eC (.int 1))) (eC (.int 48271))) (eC (.int 11))) (eC (.int 2147483647))) (eCons (eVar 0) (eCons (eC (.int 1)) eNil))))
      (sRet (eBin modD (eBin fdivD (eBin modD (eBin mul2D (eBin idxD (eVar 0) (eC (.int 1))) (eBin idxD (eVar 0) (eC (.int 1)))) (eC (.int 2147483629))) (eC (.int 64))) (eVar 1)))))
def f__law_draw : FD := runD 3 2 x__law_draw b__law_draw
theorem sc__law_draw : FnScope N__law_draw ["pool", "count"] (defScope s__law_draw) := ⟨rfl, rfl, rfl, by decide +kernel, rfl, by decide +kernel, by decide +kernel⟩
theorem ok__law_draw (T : Tx K mg) (O : IsOk (kt P w K) isT)  (F : FunD K "_law_draw" "_law_draw" (defArgs s__law_draw) (defBody s__law_draw) (defScope s__law_draw) [] [] f fd) : FnOk P w K mg base CX0 1 f fd ["pool", "count"] (spD (kt P w K) f__law_draw) :=
  have sc := sc__law_draw
  fnD_ok (k := 0) F sc fun cdv A outer s H E hr =>
    have hu := hr.units
    have hk : K = (kt P w K).K := rfl
    have hp := passes_of (X := cxOf CX0 P w K mg base N__law_draw "_law_draw" (defScope s__law_draw) f cdv A outer s H E) rfl
    (dss_cons (ds_if (dt_cmp op_gtDD v_cmp (de_ix hk hu (de_var 0 (pv 0)) de_int fun _ _ => rfl) de_int (nomark _)) (dss_cons (ds_set (i := 2) sc.nd rfl (by first | exact Or.inl rfl | exact Or.inr rfl) (de_bin op_mod v_mod (de_ix hk hu (de_var 0 (pv 0)) de_int fun _ _ => rfl) (de_var 1 (pv 1))) (by decide))
      (dss_cons (ds_sub2 hu (de_bin op_fdivW v_fdiv (de_ix hk hu (de_var 0 (pv 0)) de_int fun _ _ => rfl) (de_var 1 (pv 1))) (de_var 0 (pv 0)) de_int)
      (dss_one (ds_ret (de_var 2 (pv 2)))))) dss_nil)
      (dss_cons (ds_sub2 hu (de_bin op_mod v_mod (de_bin op_addD v_add (de_bin op_mul2 v_mul2 (de_ix hk hu (de_var 0 (pv 0)) de_int fun _ _ => rfl) de_int) de_int) de_int) (de_var 0 (pv 0)) de_int)
      (dss_one (ds_ret (de_bin op_mod v_mod (de_bin op_fdivW v_fdiv (de_bin op_mod v_mod (de_bin op_mul2 v_mul2 (de_ix hk hu (de_var 0 (pv 0)) de_int fun _ _ => rfl) (de_ix hk hu (de_var 0 (pv 0)) de_int fun _ _ => rfl)) de_int) de_int) (de_var 1 (pv 1)))))))
abbrev s__law_book : Stmt := top 23
abbrev N__law_book : List Str := []
def x__law_book : Nat → Bool := fun p => false
def b__law_book : MS := (sRet (eDispN ["runs", "copies", "kept", "done"] (eCons eDict0 (eCons eDict0 (eCons eDict0 (eCons eDict0 eNil))))))
def f__law_book : FD := runD 0 0 x__law_book b__law_book
theorem sc__law_book : FnScope N__law_book [] (defScope s__law_book) := ⟨rfl, rfl, rfl, by decide +kernel, rfl, by decide +kernel, by decide +kernel⟩
theorem ok__law_book (T : Tx K mg) (O : IsOk (kt P w K) isT)  (F : FunD K "_law_book" "_law_book" (defArgs s__law_book) (defBody s__law_book) (defScope s__law_book) [] [] f fd) : FnOk P w K mg base CX0 1 f fd [] (spD (kt P w K) f__law_book) :=
  have sc := sc__law_book
  fnD_ok (k := 0) F sc fun cdv A outer s H E hr =>
    have hu := hr.units
    have hk : K = (kt P w K).K := rfl
    have hp := passes_of (X := cxOf CX0 P w K mg base N__law_book "_law_book" (defScope s__law_book) f cdv A outer s H E) rfl
    (dss_one (ds_ret (de_disp (ks := ["runs", "copies", "kept", "done"]) (pv_cons de_dict0 (pv_cons de_dict0 (pv_cons de_dict0 (pv_cons de_dict0 pv_nil)))) (by decide) rfl rfl (by intro z; cases z) (by decide) rfl)))
abbrev s__law_noted : Stmt := top 24
abbrev N__law_noted : List Str := ["book", "event", "word", "run", "here", "runs", "copies", "is_new", "kept", "done"]
def x__law_noted : Nat → Bool := fun p => p == 0 || p == 1
def b__law_noted : MS := (sSeq (sPar 2 3 (eCons (eBin idxD (eVar 1) (eC (.int 0))) (eCons (eBin idxD (eVar 1) (eC (.int 1))) eNil)))
      (sSeq (sAsg 4 (eSl (eVar 1) (some (eC (.int 1))) none))
      (sSeq (sIf (bOf (eBin eqDW (eVar 2) (eC (.str "begin")))) (sAli 5 0 "runs" [sAliS [(5, 0, "runs")] (5, 0, "runs") 3 (eC (.bl true))] sNx) sNx)
      (sSeq (sIf (bOf (eBin eqDW (eVar 2) (eC (.str "close")))) (sAli 5 0 "runs" [sAliS [(5, 0, "runs")] (5, 0, "runs") 3 (eC (.bl false))] sNx) sNx)
      (sSeq (sIf (bOf (eBin eqDW (eVar 2) (eC (.str "send")))) (sAli 6 0 "copies" [sAliS [(6, 0, "copies")] (6, 0, "copies") 4 (eBin addD (eGet2 (eVar 6) (eVar 4) (eC (.int 0))) (eC (.int 1)))] sNx) sNx)
      (sSeq (sIf (bOf (eBin (indD false) (eVar 2) (eLst (eCons (eC (.str "arrive")) (eCons (eC (.str "lose")) eNil))))) (sAli 6 0 "copies" [sAliS [(6, 0, "copies")] (6, 0, "copies") 4 (eBin subD (eBin idxD (eVar 6) (eVar 4)) (eC (.int 1)))] sNx) sNx)
      (sSeq (sIf (bOf (eBin eqDW (eVar 2) (eC (.str "arrive")))) (sSeq (sAsg 7 (eBor (eBin (indD true) (eVar 4) (eBin idxD (eVar 0) (eC (.str "kept"))))))
      (sAli2 8 9 0 "kept" "done" [sAliS [(8, 0, "kept"), (9, 0, "done")] (8, 0, "kept") 4 (eC (.bl true)), sAliS [(8, 0, "kept"), (9, 0, "done")] (9, 0, "done") 4 (eBin addD (eGet2 (eVar 9) (eVar 4) (eC (.int 0))) (eCB intD (eCons (eVar 7) eNil)))] (sRet (eVar 7)))) sNx)
      (sSeq (sIf (bOf (eBin eqDW (eVar 2) (eC (.str "forget")))) (sDrop (eMutO isDctT dpop1G (eIxP "kept" (eVar 0)) (eCons (eVar 4) eNil))) sNx)
      (sRet (eC .non))))))))))
def f__law_noted : FD := runD 10 2 x__law_noted b__law_noted
theorem sc__law_noted : FnScope N__law_noted ["book", "event"] (defScope s__law_noted) := ⟨rfl, rfl, rfl, by decide +kernel, rfl, by decide +kernel, by decide +kernel⟩
theorem ok__law_noted (T : Tx K mg) (O : IsOk (kt P w K) isT)  (F : FunD K "_law_noted" "_law_noted" (defArgs s__law_noted) (defBody s__law_noted) (defScope s__law_noted) [] [] f fd) : FnOk P w K mg base CX0 1 f fd ["book", "event"] (spD (kt P w K) f__law_noted) :=
  have sc := sc__law_noted
  fnD_ok (k := 0) F sc fun cdv A outer s H E hr =>
    have hu := hr.units
    have hk : K = (kt P w K).K := rfl
    have hp := passes_of (X := cxOf CX0 P w K mg base N__law_noted "_law_noted" (defScope s__law_noted) f cdv A outer s H E) rfl
    (dss_cons (ds_par (i := 2) (j := 3) rfl sc.nd rfl rfl (by decide) rfl rfl (da_cons (de_ix hk hu (de_var 1 (pv 1)) de_int fun _ _ => rfl) (da_cons (de_ix hk hu (de_var 1 (pv 1)) de_int fun _ _ => rfl) da_nil)) rfl (by decide) (by decide))
      (dss_cons (ds_set (i := 4) sc.nd rfl (by first | exact Or.inl rfl | exact Or.inr rfl) (de_sl hk (de_var 1 (pv 1)) (do_some de_int) do_none) (by decide))
      (dss_cons (ds_if (dt_cmp (op_eqW hk hu) v_eqW (de_var 2 (pv 2)) de_str (nomark _)) (dss_ali (i := 0) (j := 5) sc.nd rfl (by first | exact Or.inl rfl | exact Or.inr rfl) (de_ixP hk hu (de_var 0 (pv 0)) fun _ _ => rfl) (als_cons (ali_store (W := W0) (A := [(5, 0, "runs")]) (a := (5, 0, "runs")) (h := 3) (by simp) hu (pv 5) (pv 3) de_bl) (als_nil dss_nil)) (by decide)) dss_nil)
      (dss_cons (ds_if (dt_cmp (op_eqW hk hu) v_eqW (de_var 2 (pv 2)) de_str (nomark _)) (dss_ali (i := 0) (j := 5) sc.nd rfl (by first | exact Or.inl rfl | exact Or.inr rfl) (de_ixP hk hu (de_var 0 (pv 0)) fun _ _ => rfl) (als_cons (ali_store (W := W0) (A := [(5, 0, "runs")]) (a := (5, 0, "runs")) (h := 3) (by simp) hu (pv 5) (pv 3) de_bl) (als_nil dss_nil)) (by decide)) dss_nil)
      (dss_cons (ds_if (dt_cmp (op_eqW hk hu) v_eqW (de_var 2 (pv 2)) de_str (nomark _)) (dss_ali (i := 0) (j := 6) sc.nd rfl (by first | exact Or.inl rfl | exact Or.inr rfl) (de_ixP hk hu (de_var 0 (pv 0)) fun _ _ => rfl) (als_cons (ali_store (W := W0) (A := [(6, 0, "copies")]) (a := (6, 0, "copies")) (h := 4) (by simp) hu (pv 6) (pv 4) (de_bin op_addD v_add (de_get2 hu (de_var 6 (pv 6)) (de_var 4 (pv 4)) de_int ⟨rfl, rfl, rfl, rfl⟩) de_int)) (als_nil dss_nil)) (by decide)) dss_nil)
      (dss_cons (ds_if (dt_cmp (op_inX hk hu) (v_inX false) (de_var 2 (pv 2)) (de_lst (da_cons de_str (da_cons de_str da_nil))) (by with_unfolding_all rfl)) (dss_ali (i := 0) (j := 6) sc.nd rfl (by first | exact Or.inl rfl | exact Or.inr rfl) (de_ixP hk hu (de_var 0 (pv 0)) fun _ _ => rfl) (als_cons (ali_store (W := W0) (A := [(6, 0, "copies")]) (a := (6, 0, "copies")) (h := 4) (by simp) hu (pv 6) (pv 4) (de_bin op_sub v_sub (de_ix hk hu (de_var 6 (pv 6)) (de_var 4 (pv 4)) fun _ _ => rfl) de_int)) (als_nil dss_nil)) (by decide)) dss_nil)
      (dss_cons (ds_if (dt_cmp (op_eqW hk hu) v_eqW (de_var 2 (pv 2)) de_str (nomark _)) (dss_cons (ds_set (i := 7) sc.nd rfl (by first | exact Or.inl rfl | exact Or.inr rfl) (de_bor (de_cmp (op_notInX hk hu) (v_inX true) (de_var 4 (pv 4)) (de_ix hk hu (de_var 0 (pv 0)) de_str fun _ _ => rfl) (by with_unfolding_all rfl))) (by decide))
      (dss_ali2 (i := 0) (j1 := 8) (j2 := 9) rfl sc.nd rfl rfl (by decide) rfl rfl (de_ixP hk hu (de_var 0 (pv 0)) fun _ _ => rfl) (de_ixP hk hu (de_var 0 (pv 0)) fun _ _ => rfl) (da_cons (de_ixP hk hu (de_var 0 (pv 0)) fun _ _ => rfl) (da_cons (de_ixP hk hu (de_var 0 (pv 0)) fun _ _ => rfl) da_nil)) rfl (als_cons (ali_store (W := W0) (A := [(8, 0, "kept"), (9, 0, "done")]) (a := (8, 0, "kept")) (h := 4) (by simp) hu (pv 8) (pv 4) de_bl) (als_cons (ali_store (W := W0) (A := [(8, 0, "kept"), (9, 0, "done")]) (a := (9, 0, "done")) (h := 4) (by simp) hu (pv 9) (pv 4) (de_bin op_addD v_add (de_get2 hu (de_var 9 (pv 9)) (de_var 4 (pv 4)) de_int ⟨rfl, rfl, rfl, rfl⟩) (de_callTy v_int call_int1 rfl T.b_int rfl (da_cons (de_var 7 (pv 7)) da_nil)))) (als_nil (dss_one (ds_ret (de_var 7 (pv 7))))))) (by decide) (by decide))) dss_nil)
      (dss_cons (ds_if (dt_cmp (op_eqW hk hu) v_eqW (de_var 2 (pv 2)) de_str (nomark _)) (dss_one (ds_expr (de_dpop hk hu (de_ixP hk hu (de_var 0 (pv 0)) fun _ _ => rfl) (da_cons (de_var 4 (pv 4)) da_nil)))) dss_nil)
      (dss_one (ds_ret de_non))))))))))
abbrev s__law_needed : Stmt := top 25
abbrev N__law_needed : List Str := ["book", "here"]
def x__law_needed : Nat → Bool := fun p => p == 0 || p == 1
def b__law_needed : MS := (sSeq (sIf (bOf (eBin gtD (eGet2 (eBin idxD (eVar 0) (eC (.str "copies"))) (eVar 1) (eC (.int 0))) (eC (.int 0)))) (sRet (eLst (eCons (eBin addD (eTup (eCons (eC (.str "arrive")) eNil)) (eVar 1)) eNil))) sNx)
      (sSeq (sIf (bOf (eBin idxD (eBin idxD (eVar 0) (eC (.str "runs"))) (eBin idxD (eVar 1) (eC (.int 0))))) (sRet (eLst (eCons (eBin addD (eTup (eCons (eC (.str "send")) eNil)) (eVar 1)) (eCons (eBin addD (eTup (eCons (eC (.str "arrive")) eNil)) (eVar 1)) eNil)))) sNx)
      (sRet (eC .non))))
def f__law_needed : FD := runD 2 2 x__law_needed b__law_needed
theorem sc__law_needed : FnScope N__law_needed ["book", "here"] (defScope s__law_needed) := ⟨rfl, rfl, rfl, by decide +kernel, rfl, by decide +kernel, by decide +kernel⟩
theorem ok__law_needed (T : Tx K mg) (O : IsOk (kt P w K) isT)  (F : FunD K "_law_needed" "_law_needed" (defArgs s__law_needed) (defBody s__law_needed) (defScope s__law_needed) [] [] f fd) : FnOk P w K mg base CX0 1 f fd ["book", "here"] (spD (kt P w K) f__law_needed) :=
  have sc := sc__law_needed
  fnD_ok (k := 0) F sc fun cdv A outer s H E hr =>
    have hu := hr.units
    have hk : K = (kt P w K).K := rfl
    have hp := passes_of (X := cxOf CX0 P w K mg base N__law_needed "_law_needed" (defScope s__law_needed) f cdv A outer s H E) rfl
    (dss_cons (ds_if (dt_cmp op_gtDD v_cmp (de_get2 hu (de_ix hk hu (de_var 0 (pv 0)) de_str fun _ _ => rfl) (de_var 1 (pv 1)) de_int ⟨rfl, rfl, rfl, rfl⟩) de_int (nomark _)) (dss_one (ds_ret (de_lst (da_cons (de_bin op_addD v_add (de_tup (da_cons de_str da_nil)) (de_var 1 (pv 1))) da_nil)))) dss_nil)
      (dss_cons (ds_if (dt_val (de_ix hk hu (de_ix hk hu (de_var 0 (pv 0)) de_str fun _ _ => rfl) (de_ix hk hu (de_var 1 (pv 1)) de_int fun _ _ => rfl) fun _ _ => rfl)) (dss_one (ds_ret (de_lst (da_cons (de_bin op_addD v_add (de_tup (da_cons de_str da_nil)) (de_var 1 (pv 1))) (da_cons (de_bin op_addD v_add (de_tup (da_cons de_str da_nil)) (de_var 1 (pv 1))) da_nil))))) dss_nil)
      (dss_one (ds_ret de_non))))
abbrev s__law_what_is_left : Stmt := top 30
abbrev N__law_what_is_left : List Str := ["book", "copies", "one"]
def x__law_what_is_left : Nat → Bool := fun p => p == 0
def b__law_what_is_left : MS := (sSeq (sAsg 1 (eCB dictT (eCons (eCompP [2] 0 (some "copies") (gN 2) (bOf (eBin gtD (eBin idxD (eBin idxD (eVar 0) (eC (.str "copies"))) (eVar 2)) (eC (.int 0)))) (eTup (eCons (eVar 2) (eCons (eBin idxD (eBin idxD (eVar 0) (eC (.str "copies"))) (eVar 2)) eNil)))) eNil)))
      (sRet (eTup (eCons (eBin idxD (eVar 0) (eC (.str "runs"))) (eCons (eVar 1) (eCons (eBin idxD (eVar 0) (eC (.str "kept"))) eNil))))))
def f__law_what_is_left : FD := runD 3 1 x__law_what_is_left b__law_what_is_left
theorem sc__law_what_is_left : FnScope N__law_what_is_left ["book"] (defScope s__law_what_is_left) := ⟨rfl, rfl, rfl, by decide +kernel, rfl, by decide +kernel, by decide +kernel⟩
theorem ok__law_what_is_left (T : Tx K mg) (O : IsOk (kt P w K) isT)  (F : FunD K "_law_what_is_left" "_law_what_is_left" (defArgs s__law_what_is_left) (defBody s__law_what_is_left) (defScope s__law_what_is_left) [] [] f fd) : FnOk P w K mg base CX0 1 f fd ["book"] (spD (kt P w K) f__law_what_is_left) :=
  have sc := sc__law_what_is_left
  fnD_ok (k := 0) F sc fun cdv A outer s H E hr =>
    have hu := hr.units
    have hk : K = (kt P w K).K := rfl
    have hp := passes_of (X := cxOf CX0 P w K mg base N__law_what_is_left "_law_what_is_left" (defScope s__law_what_is_left) f cdv A outer s H E) rfl
    (dss_cons (ds_set (i := 1) sc.nd rfl (by first | exact Or.inl rfl | exact Or.inr rfl) (de_callTy v_dictT (cr_dictP rfl hu) rfl T.b_dict rfl (da_cons (de_lcP (own := [("one", 2)]) rfl sc.nd (path_ix hk hu (pv 0) fun _ _ => rfl) (blkOk_by (own := [("one", 2)]) (N := N__law_what_is_left) (sc := defScope s__law_what_is_left) (by decide +kernel)) (fun _ _ _ _ _ => (pg_name (i := 2) sc.nd rfl (by first | exact Or.inl rfl | exact Or.inr rfl))) (tg_name (i := 2) (show 2 < 3 from by decide) (by decide)) (fun _ _ _ _ _ => (dts_one (dt_cmp op_gtDD v_cmp (de_ix hk hu (de_ix hk hu (de_var 0 (pv 0)) de_str fun _ _ => rfl) (de_var 2 (pv 2)) fun _ _ => rfl) de_int (nomark _)))) (fun _ _ _ _ _ => (de_tup (da_cons (de_var 2 (pv 2)) (da_cons (de_ix hk hu (de_ix hk hu (de_var 0 (pv 0)) de_str fun _ _ => rfl) (de_var 2 (pv 2)) fun _ _ => rfl) da_nil))))) da_nil)) (by decide))
      (dss_one (ds_ret (de_tup (da_cons (de_ix hk hu (de_var 0 (pv 0)) de_str fun _ _ => rfl) (da_cons (de_var 1 (pv 1)) (da_cons (de_ix hk hu (de_var 0 (pv 0)) de_str fun _ _ => rfl) da_nil)))))))
abbrev s_Ledger___init__ : Stmt := inClass (top 19) 0
abbrev N_Ledger___init__ : List Str := ["self"]
theorem sc_Ledger___init__ : FnScope N_Ledger___init__ ["self"] (defScope s_Ledger___init__) := ⟨rfl, rfl, rfl, by decide +kernel, rfl, by decide +kernel, by decide +kernel⟩
theorem ok_Ledger___init__ (T : Tx K mg) (F : FunD K "__init__" "Ledger.__init__" (defArgs s_Ledger___init__) (defBody s_Ledger___init__) (defScope s_Ledger___init__) [] [] f fd) : FnOk P w K mg base CX0 1 f fd ["self"] (spNew (He.ga K "Ledger") ["own_runs", "own_copies", "own_ids"]) :=
  have sc := sc_Ledger___init__
  fnNew_ok (k := 0) F sc rfl (by decide) fun cdv A outer s H E hr => (init_cons (pv 0) T.cl_Ledger T.na_Ledger_own_runs (init_cons (pv 0) T.cl_Ledger T.na_Ledger_own_copies (init_cons (pv 0) T.cl_Ledger T.na_Ledger_own_ids init_nil)))
abbrev s_Ledger_check_open : Stmt := inClass (top 19) 2
abbrev N_Ledger_check_open : List Str := ["self", "run"]
def x_Ledger_check_open : Nat → Bool := fun p => p == 0 || p == 1
def b_Ledger_check_open : MS := (sIf (bNot (bOf (eBin idxD (eUn (fieldD [0] "own_runs") (eVar 0)) (eVar 1)))) sStuck sNx)
def f_Ledger_check_open : FD := runD 2 2 x_Ledger_check_open b_Ledger_check_open
theorem sc_Ledger_check_open : FnScope N_Ledger_check_open ["self", "run"] (defScope s_Ledger_check_open) := ⟨rfl, rfl, rfl, by decide +kernel, rfl, by decide +kernel, by decide +kernel⟩
theorem ok_Ledger_check_open (T : Tx K mg) (O : IsOk (kt P w K) isT)  (F : FunD K "check_open" "Ledger.check_open" (defArgs s_Ledger_check_open) (defBody s_Ledger_check_open) (defScope s_Ledger_check_open) [] [] f fd) : FnOk P w K mg base CX0 1 f fd ["self", "run"] (spD (kt P w K) f_Ledger_check_open) :=
  have sc := sc_Ledger_check_open
  fnD_ok (k := 0) F sc fun cdv A outer s H E hr =>
    have hu := hr.units
    have hk : K = (kt P w K).K := rfl
    have hp := passes_of (X := cxOf CX0 P w K mg base N_Ledger_check_open "Ledger.check_open" (defScope s_Ledger_check_open) f cdv A outer s H E) rfl
    (dss_one (ds_if (dt_not (dt_val (de_ix hk hu (de_attr [0] hk (by intro c hc; simp only [List.mem_cons, List.not_mem_nil, or_false] at hc; subst hc; exact ⟨T.cl_Ledger, T.na_Ledger_own_runs⟩) (de_var 0 (pv 0))) (de_var 1 (pv 1)) fun _ _ => rfl))) (dss_one ds_never) dss_nil))
abbrev s_Ledger_kept : Stmt := inClass (top 19) 12
abbrev N_Ledger_kept : List Str := ["self"]
def x_Ledger_kept : Nat → Bool := fun p => p == 0
def b_Ledger_kept : MS := (sRet (eCB sortD2 (eCons (eUn (fieldD [0] "own_ids") (eVar 0)) eNil)))
def f_Ledger_kept : FD := runD 1 1 x_Ledger_kept b_Ledger_kept
theorem sc_Ledger_kept : FnScope N_Ledger_kept ["self"] (defScope s_Ledger_kept) := ⟨rfl, rfl, rfl, by decide +kernel, rfl, by decide +kernel, by decide +kernel⟩
theorem ok_Ledger_kept (T : Tx K mg) (O : IsOk (kt P w K) isT)  (F : FunD K "kept" "Ledger.kept" (defArgs s_Ledger_kept) (defBody s_Ledger_kept) (defScope s_Ledger_kept) [] [] f fd) : FnOk P w K mg base CX0 1 f fd ["self"] (spD (kt P w K) f_Ledger_kept) :=
  have sc := sc_Ledger_kept
  fnD_ok (k := 0) F sc fun cdv A outer s H E hr =>
    have hu := hr.units
    have hk : K = (kt P w K).K := rfl
    have hp := passes_of (X := cxOf CX0 P w K mg base N_Ledger_kept "Ledger.kept" (defScope s_Ledger_kept) f cdv A outer s H E) rfl
    (dss_one (ds_ret (de_callB v_sort2 (c_sort2 rfl) rfl T.b_sorted rfl (da_cons (de_attr [0] hk (by intro c hc; simp only [List.mem_cons, List.not_mem_nil, or_false] at hc; subst hc; exact ⟨T.cl_Ledger, T.na_Ledger_own_ids⟩) (de_var 0 (pv 0))) da_nil))))
abbrev s_Ledger___eq__ : Stmt := inClass (top 19) 14
abbrev N_Ledger___eq__ : List Str := ["self", "other"]
def x_Ledger___eq__ : Nat → Bool := fun p => p == 0 || p == 1
def b_Ledger___eq__ : MS := (sSeq (sIf (bNot (bOf (eCB (isiD isT) (eCons (eVar 1) (eCons (eC (.cls 0)) eNil))))) (sRet (eC (.bl false))) sNx)
      (sRet (eAnd (eBin eqDW (eUn (fieldD [0] "own_runs") (eVar 0)) (eUn (fieldD [0] "own_runs") (eVar 1))) (eAnd (eBin eqDW (eUn (fieldD [0] "own_copies") (eVar 0)) (eUn (fieldD [0] "own_copies") (eVar 1))) (eBin eqDW (eUn (fieldD [0] "own_ids") (eVar 0)) (eUn (fieldD [0] "own_ids") (eVar 1)))))))
def f_Ledger___eq__ : FD := runD 2 2 x_Ledger___eq__ b_Ledger___eq__
theorem sc_Ledger___eq__ : FnScope N_Ledger___eq__ ["self", "other"] (defScope s_Ledger___eq__) := ⟨rfl, rfl, rfl, by decide +kernel, rfl, by decide +kernel, by decide +kernel⟩
theorem ok_Ledger___eq__ (T : Tx K mg) (O : IsOk (kt P w K) isT)  (F : FunD K "__eq__" "Ledger.__eq__" (defArgs s_Ledger___eq__) (defBody s_Ledger___eq__) (defScope s_Ledger___eq__) [] [] f fd) : FnOk P w K mg base CX0 1 f fd ["self", "other"] (spD (kt P w K) f_Ledger___eq__) :=
  have sc := sc_Ledger___eq__
  fnD_ok (k := 0) F sc fun cdv A outer s H E hr =>
    have hu := hr.units
    have hk : K = (kt P w K).K := rfl
    have hp := passes_of (X := cxOf CX0 P w K mg base N_Ledger___eq__ "Ledger.__eq__" (defScope s_Ledger___eq__) f cdv A outer s H E) rfl
    (dss_cons (ds_if (dt_not (dt_val (de_callB (v_isi O) c_isi rfl T.b_isinstance rfl (da_cons (de_var 1 (pv 1)) (da_cons (de_globC (c := 0) T.c_Ledger) da_nil))))) (dss_one (ds_ret de_bl)) dss_nil)
      (dss_one (ds_ret (de_and (de_cmp (op_eqW hk hu) v_eqW (de_attr [0] hk (by intro c hc; simp only [List.mem_cons, List.not_mem_nil, or_false] at hc; subst hc; exact ⟨T.cl_Ledger, T.na_Ledger_own_runs⟩) (de_var 0 (pv 0))) (de_attr [0] hk (by intro c hc; simp only [List.mem_cons, List.not_mem_nil, or_false] at hc; subst hc; exact ⟨T.cl_Ledger, T.na_Ledger_own_runs⟩) (de_var 1 (pv 1))) (nomark _)) (de_and (de_cmp (op_eqW hk hu) v_eqW (de_attr [0] hk (by intro c hc; simp only [List.mem_cons, List.not_mem_nil, or_false] at hc; subst hc; exact ⟨T.cl_Ledger, T.na_Ledger_own_copies⟩) (de_var 0 (pv 0))) (de_attr [0] hk (by intro c hc; simp only [List.mem_cons, List.not_mem_nil, or_false] at hc; subst hc; exact ⟨T.cl_Ledger, T.na_Ledger_own_copies⟩) (de_var 1 (pv 1))) (nomark _)) (de_one (de_cmp (op_eqW hk hu) v_eqW (de_attr [0] hk (by intro c hc; simp only [List.mem_cons, List.not_mem_nil, or_false] at hc; subst hc; exact ⟨T.cl_Ledger, T.na_Ledger_own_ids⟩) (de_var 0 (pv 0))) (de_attr [0] hk (by intro c hc; simp only [List.mem_cons, List.not_mem_nil, or_false] at hc; subst hc; exact ⟨T.cl_Ledger, T.na_Ledger_own_ids⟩) (de_var 1 (pv 1))) (nomark _))))))))
abbrev s_check_name : Stmt := top 18
abbrev N_check_name : List Str := ["run"]
def x_check_name : Nat → Bool := fun p => p == 0
def b_check_name : MS := (sIf (bNot (bOf (eCall f_is_name (eCons (eVar 0) eNil)))) sStuck sNx)
def f_check_name : FD := runD 1 1 x_check_name b_check_name
theorem sc_check_name : FnScope N_check_name ["run"] (defScope s_check_name) := ⟨rfl, rfl, rfl, by decide +kernel, rfl, by decide +kernel, by decide +kernel⟩
theorem ok_check_name (T : Tx K mg) (O : IsOk (kt P w K) isT) (D_is_name : DefOk P w K mg base CX0 1 (kt P w K) "is_name" f_is_name) (F : FunD K "check_name" "check_name" (defArgs s_check_name) (defBody s_check_name) (defScope s_check_name) [] [] f fd) : FnOk P w K mg base CX0 2 f fd ["run"] (spD (kt P w K) f_check_name) :=
  have sc := sc_check_name
  fnD_ok (k := 1) F sc fun cdv A outer s H E hr =>
    have hu := hr.units
    have hk : K = (kt P w K).K := rfl
    have hp := passes_of (X := cxOf CX0 P w K mg base N_check_name "check_name" (defScope s_check_name) f cdv A outer s H E) rfl
    (dss_one (ds_if (dt_not (dt_val (de_call D_is_name (hr.mono (by decide)) (at0 _) rfl (da_cons (de_var 0 (pv 0)) da_nil)))) (dss_one ds_never) dss_nil))
abbrev s__law_events : Stmt := top 26
abbrev N__law_events : List Str := ["pool", "book", "many", "some", "name", "here", "number"]
def x__law_events : Nat → Bool := fun p => p == 0 || p == 1
def b__law_events : MS := (sSeq (sAsg 2 (eCB len2D (eCons (eBin idxD (eVar 1) (eC (.str "runs"))) eNil)))
      (sSeq (sAsg 3 (eLst (eCons (eTup (eCons (eC (.str "begin")) (eCons (eBin addD (eBin addD (eC (.str "x")) (eBin sIxD (eC (.str "abcdefghijklm")) (eBin fdivD (eVar 2) (eC (.int 13))))) (eBin sIxD (eC (.str "abcdefghijklm")) (eBin modD (eVar 2) (eC (.int 13))))) eNil))) eNil)))
      (sSeq (sForP 1 (some "runs") (gN 4) (sIf (bOf (eBin idxD (eBin idxD (eVar 1) (eC (.str "runs"))) (eVar 4))) (sAsg 3 (eBin addD (eBin addD (eVar 3) (eBin mul2D (eComp [6] (eIt (eLst (eCons (eC (.int 0)) (eCons (eC (.int 1)) (eCons (eC (.int 99)) eNil)))) seqD) (gN 6) bYes (eTup (eCons (eC (.str "send")) (eCons (eVar 4) (eCons (eVar 6) eNil))))) (eC (.int 2)))) (eLst (eCons (eTup (eCons (eC (.str "close")) (eCons (eVar 4) eNil))) eNil)))) sNx))
      (sSeq (sForP 1 (some "copies") (gN 5) (sIf (bOf (eBin gtD (eBin idxD (eBin idxD (eVar 1) (eC (.str "copies"))) (eVar 5)) (eC (.int 0)))) (sAsg 3 (eBin addD (eVar 3) (eLst (eCons (eBin addD (eTup (eCons (eC (.str "arrive")) eNil)) (eVar 5)) (eCons (eBin addD (eTup (eCons (eC (.str "arrive")) eNil)) (eVar 5)) (eCons (eBin addD (eTup (eCons (eC (.str "lose")) eNil)) (eVar 5)) eNil)))))) sNx))
      (sSeq (sForP 1 (some "kept") (gN 5) (sIf (bOf (eBin isND (eCall f__law_needed (eCons (eVar 1) (eCons (eVar 5) eNil))) (eC .non))) (sDrop (eMut isLst appG (eVar 3) (eCons (eBin addD (eTup (eCons (eC (.str "forget")) eNil)) (eVar 5)) eNil))) sNx))
      (sRet (eVar 3)))))))
def f__law_events : FD := runD 7 2 x__law_events b__law_events
theorem sc__law_events : FnScope N__law_events ["pool", "book"] (defScope s__law_events) := ⟨rfl, rfl, rfl, by decide +kernel, rfl, by decide +kernel, by decide +kernel⟩
theorem ok__law_events (T : Tx K mg) (O : IsOk (kt P w K) isT) (D__law_needed : DefOk P w K mg base CX0 1 (kt P w K) "_law_needed" f__law_needed) (F : FunD K "_law_events" "_law_events" (defArgs s__law_events) (defBody s__law_events) (defScope s__law_events) [] [] f fd) : FnOk P w K mg base CX0 2 f fd ["pool", "book"] (spD (kt P w K) f__law_events) :=
  have sc := sc__law_events
  fnD_ok (k := 1) F sc fun cdv A outer s H E hr =>
    have hu := hr.units
    have hk : K = (kt P w K).K := rfl
    have hp := passes_of (X := cxOf CX0 P w K mg base N__law_events "_law_events" (defScope s__law_events) f cdv A outer s H E) rfl
    (dss_cons (ds_set (i := 2) sc.nd rfl (by first | exact Or.inl rfl | exact Or.inr rfl) (de_callB v_len2 c_len2 rfl T.b_len rfl (da_cons (de_ix hk hu (de_var 1 (pv 1)) de_str fun _ _ => rfl) da_nil)) (by decide))
      (dss_cons (ds_set (i := 3) sc.nd rfl (by first | exact Or.inl rfl | exact Or.inr rfl) (de_lst (da_cons (de_tup (da_cons de_str (da_cons (de_bin op_addD v_add (de_bin op_addD v_add de_str (de_ixS de_str (de_bin op_fdivW v_fdiv (de_var 2 (pv 2)) de_int) fun _ _ => rfl)) (de_ixS de_str (de_bin op_mod v_mod (de_var 2 (pv 2)) de_int) fun _ _ => rfl)) da_nil))) da_nil)) (by decide))
      (dss_cons (ds_forP hp rfl (path_ix hk hu (pv 1) fun _ _ => rfl) (pg_name (i := 4) sc.nd rfl (by first | exact Or.inl rfl | exact Or.inr rfl)) (tg_name (i := 4) (show 4 < 7 from by decide) (by decide)) (dss_one (ds_if (dt_val (de_ix hk hu (de_ix hk hu (de_var 1 (pv 1)) de_str fun _ _ => rfl) (de_var 4 (pv 4)) fun _ _ => rfl)) (dss_one (ds_set (i := 3) sc.nd rfl (by first | exact Or.inl rfl | exact Or.inr rfl) (de_bin op_addD v_add (de_bin op_addD v_add (de_var 3 (pv 3)) (de_bin op_mul2 v_mul2 (de_lc (own := [("number", 6)]) rfl sc.nd (di_seq hk (de_lst (da_cons de_int (da_cons de_int (da_cons de_int da_nil))))) (blkOk_by (own := [("number", 6)]) (N := N__law_events) (sc := defScope s__law_events) (by decide +kernel)) (fun _ _ _ _ _ => (pg_name (i := 6) sc.nd rfl (by first | exact Or.inl rfl | exact Or.inr rfl))) (tg_name (i := 6) (show 6 < 7 from by decide) (by decide)) (fun _ _ _ _ _ => dts_nil) (fun _ _ _ _ _ => (de_tup (da_cons de_str (da_cons (de_var 4 (pv 4)) (da_cons (de_var 6 (pv 6)) da_nil)))))) de_int)) (de_lst (da_cons (de_tup (da_cons de_str (da_cons (de_var 4 (pv 4)) da_nil))) da_nil))) (by decide))) dss_nil)))
      (dss_cons (ds_forP hp rfl (path_ix hk hu (pv 1) fun _ _ => rfl) (pg_name (i := 5) sc.nd rfl (by first | exact Or.inl rfl | exact Or.inr rfl)) (tg_name (i := 5) (show 5 < 7 from by decide) (by decide)) (dss_one (ds_if (dt_cmp op_gtDD v_cmp (de_ix hk hu (de_ix hk hu (de_var 1 (pv 1)) de_str fun _ _ => rfl) (de_var 5 (pv 5)) fun _ _ => rfl) de_int (nomark _)) (dss_one (ds_set (i := 3) sc.nd rfl (by first | exact Or.inl rfl | exact Or.inr rfl) (de_bin op_addD v_add (de_var 3 (pv 3)) (de_lst (da_cons (de_bin op_addD v_add (de_tup (da_cons de_str da_nil)) (de_var 5 (pv 5))) (da_cons (de_bin op_addD v_add (de_tup (da_cons de_str da_nil)) (de_var 5 (pv 5))) (da_cons (de_bin op_addD v_add (de_tup (da_cons de_str da_nil)) (de_var 5 (pv 5))) da_nil))))) (by decide))) dss_nil)))
      (dss_cons (ds_forP hp rfl (path_ix hk hu (pv 1) fun _ _ => rfl) (pg_name (i := 5) sc.nd rfl (by first | exact Or.inl rfl | exact Or.inr rfl)) (tg_name (i := 5) (show 5 < 7 from by decide) (by decide)) (dss_one (ds_if (dt_cmp op_isN v_isN (de_call D__law_needed (hr.mono (by decide)) (at0 _) rfl (da_cons (de_var 1 (pv 1)) (da_cons (de_var 5 (pv 5)) da_nil))) de_non (nomark _)) (dss_one (ds_expr (de_append hk (de_var 3 (pv 3)) (da_cons (de_bin op_addD v_add (de_tup (da_cons de_str da_nil)) (de_var 5 (pv 5))) da_nil)))) dss_nil)))
      (dss_one (ds_ret (de_var 3 (pv 3)))))))))
abbrev s__law_ledger_due : Stmt := top 29
abbrev N__law_ledger_due : List Str := ["book", "rows", "one", "danger"]
def x__law_ledger_due : Nat → Bool := fun p => p == 0
def b__law_ledger_due : MS := (sSeq (sAsg 1 (eComp [2] (eIt (eCB sortD2 (eCons (eBin idxD (eVar 0) (eC (.str "kept"))) eNil)) seqD) (gN 2) bYes (eTup (eCons (eVar 2) (eCons (eCall f__law_needed (eCons (eVar 0) (eCons (eVar 2) eNil))) eNil)))))
      (sRet (eTup (eCons (eVar 1) (eCons (eComp [2, 3] (eIt (eVar 1) seqD) (gT 2 (gsC (gN 2) (gsC (gN 3) gsN))) (bOf (eBin isND (eVar 3) (eC .non))) (eVar 2)) eNil)))))
def f__law_ledger_due : FD := runD 4 1 x__law_ledger_due b__law_ledger_due
theorem sc__law_ledger_due : FnScope N__law_ledger_due ["book"] (defScope s__law_ledger_due) := ⟨rfl, rfl, rfl, by decide +kernel, rfl, by decide +kernel, by decide +kernel⟩
theorem ok__law_ledger_due (T : Tx K mg) (O : IsOk (kt P w K) isT) (D__law_needed : DefOk P w K mg base CX0 1 (kt P w K) "_law_needed" f__law_needed) (F : FunD K "_law_ledger_due" "_law_ledger_due" (defArgs s__law_ledger_due) (defBody s__law_ledger_due) (defScope s__law_ledger_due) [] [] f fd) : FnOk P w K mg base CX0 2 f fd ["book"] (spD (kt P w K) f__law_ledger_due) :=
  have sc := sc__law_ledger_due
  fnD_ok (k := 1) F sc fun cdv A outer s H E hr =>
    have hu := hr.units
    have hk : K = (kt P w K).K := rfl
    have hp := passes_of (X := cxOf CX0 P w K mg base N__law_ledger_due "_law_ledger_due" (defScope s__law_ledger_due) f cdv A outer s H E) rfl
    (dss_cons (ds_setLc (i := 1) (own := [("one", 2)]) rfl sc.nd rfl rfl (sw_true rfl rfl rfl (by decide +kernel)) (di_seq hk (de_callB v_sort2 (c_sort2 rfl) rfl T.b_sorted rfl (da_cons (de_ix hk hu (de_var 0 (pv 0)) de_str fun _ _ => rfl) da_nil))) (blkOk_by (own := [("one", 2)]) (N := N__law_ledger_due) (sc := defScope s__law_ledger_due) (by decide +kernel)) (fun _ _ _ _ _ => (pg_name (i := 2) sc.nd rfl (by first | exact Or.inl rfl | exact Or.inr rfl))) (tg_name (i := 2) (show 2 < 4 from by decide) (by decide)) (fun _ _ _ _ _ => dts_nil) (fun _ _ _ _ _ => (de_tup (da_cons (de_var 2 (pv 2)) (da_cons (de_call D__law_needed (hr.mono (by decide)) (at0 _) rfl (da_cons (de_var 0 (pv 0)) (da_cons (de_var 2 (pv 2)) da_nil))) da_nil)))) (by decide))
      (dss_one (ds_ret (de_tup (da_cons (de_var 1 (pv 1)) (da_cons (de_lc (own := [("one", 2), ("danger", 3)]) rfl sc.nd (di_seq hk (de_var 1 (pv 1))) (blkOk_by (own := [("one", 2), ("danger", 3)]) (N := N__law_ledger_due) (sc := defScope s__law_ledger_due) (by decide +kernel)) (fun _ _ _ _ _ => (pg_tup (n := 2) rfl (pgs_cons (pg_name (i := 2) sc.nd rfl (by first | exact Or.inl rfl | exact Or.inr rfl)) (pgs_cons (pg_name (i := 3) sc.nd rfl (by first | exact Or.inl rfl | exact Or.inr rfl)) pgs_nil)))) (tg_tup (m := 2) (tgs_cons (tg_name (i := 2) (show 2 < 4 from by decide) (by decide)) (tgs_cons (tg_name (i := 3) (show 3 < 4 from by decide) (by decide)) tgs_nil))) (fun _ _ _ _ _ => (dts_one (dt_cmp op_isN v_isN (de_var 3 (pv 3)) de_non (nomark _)))) (fun _ _ _ _ _ => (de_var 2 (pv 2)))) da_nil))))))
abbrev s_Ledger_check_id : Stmt := inClass (top 19) 1
abbrev N_Ledger_check_id : List Str := ["self", "run", "number"]
def x_Ledger_check_id : Nat → Bool := fun p => p == 0 || p == 1 || p == 2
def b_Ledger_check_id : MS := (sSeq (sDrop (eCall f_check_name (eCons (eVar 1) eNil)))
      (sSeq (sIf (bOr (bNot (bOf (eCall f_is_integer (eCons (eVar 2) eNil)))) (bNot (bOf (eChain leD leD (eC (.int 0)) (eVar 2) (eC (.int 99)))))) sStuck sNx)
      (sIf (bOf (eBin (indD true) (eVar 1) (eUn (fieldD [0] "own_runs") (eVar 0)))) sStuck sNx)))
def f_Ledger_check_id : FD := runD 3 3 x_Ledger_check_id b_Ledger_check_id
theorem sc_Ledger_check_id : FnScope N_Ledger_check_id ["self", "run", "number"] (defScope s_Ledger_check_id) := ⟨rfl, rfl, rfl, by decide +kernel, rfl, by decide +kernel, by decide +kernel⟩
theorem ok_Ledger_check_id (T : Tx K mg) (O : IsOk (kt P w K) isT) (D_check_name : DefOk P w K mg base CX0 2 (kt P w K) "check_name" f_check_name) (D_is_integer : DefOk P w K mg base CX0 1 (kt P w K) "is_integer" f_is_integer) (F : FunD K "check_id" "Ledger.check_id" (defArgs s_Ledger_check_id) (defBody s_Ledger_check_id) (defScope s_Ledger_check_id) [] [] f fd) : FnOk P w K mg base CX0 3 f fd ["self", "run", "number"] (spD (kt P w K) f_Ledger_check_id) :=
  have sc := sc_Ledger_check_id
  fnD_ok (k := 2) F sc fun cdv A outer s H E hr =>
    have hu := hr.units
    have hk : K = (kt P w K).K := rfl
    have hp := passes_of (X := cxOf CX0 P w K mg base N_Ledger_check_id "Ledger.check_id" (defScope s_Ledger_check_id) f cdv A outer s H E) rfl
    (dss_cons (ds_expr (de_call D_check_name (hr.mono (by decide)) (at0 _) rfl (da_cons (de_var 1 (pv 1)) da_nil)))
      (dss_cons (ds_if (PW.pt (dw_or (dt_not (dt_val (de_call D_is_integer (hr.mono (by decide)) (at0 _) rfl (da_cons (de_var 2 (pv 2)) da_nil)))) (dw_or1 (dt_not (dt_chain op_leDD v_cmp op_leDD v_cmp de_int (de_var 2 (pv 2)) (de_globI T.g_MAX_NUMBER)))))) (dss_one ds_never) dss_nil)
      (dss_one (ds_if (dt_cmp (op_notInX hk hu) (v_inX true) (de_var 1 (pv 1)) (de_attr [0] hk (by intro c hc; simp only [List.mem_cons, List.not_mem_nil, or_false] at hc; subst hc; exact ⟨T.cl_Ledger, T.na_Ledger_own_runs⟩) (de_var 0 (pv 0))) (by with_unfolding_all rfl)) (dss_one ds_never) dss_nil))))
abbrev s_Ledger_begin : Stmt := inClass (top 19) 4
abbrev N_Ledger_begin : List Str := ["self", "run"]
def x_Ledger_begin : Nat → Bool := fun p => p == 0 || p == 1
def b_Ledger_begin : MS := (sSeq (sDrop (eCall f_check_name (eCons (eVar 1) eNil)))
      (sSeq (sIf (bBor (bOf (eBin (indD false) (eVar 1) (eUn (fieldD [0] "own_runs") (eVar 0))))) sStuck sNx)
      (sSto setG2 (eCons (eC (.bl true)) (eCons (eFldP [0] "own_runs" (eVar 0)) (eCons (eVar 1) eNil))))))
def f_Ledger_begin : FD := runD 2 2 x_Ledger_begin b_Ledger_begin
theorem sc_Ledger_begin : FnScope N_Ledger_begin ["self", "run"] (defScope s_Ledger_begin) := ⟨rfl, rfl, rfl, by decide +kernel, rfl, by decide +kernel, by decide +kernel⟩
theorem ok_Ledger_begin (T : Tx K mg) (O : IsOk (kt P w K) isT) (D_check_name : DefOk P w K mg base CX0 2 (kt P w K) "check_name" f_check_name) (F : FunD K "begin" "Ledger.begin" (defArgs s_Ledger_begin) (defBody s_Ledger_begin) (defScope s_Ledger_begin) [] [] f fd) : FnOk P w K mg base CX0 3 f fd ["self", "run"] (spD (kt P w K) f_Ledger_begin) :=
  have sc := sc_Ledger_begin
  fnD_ok (k := 2) F sc fun cdv A outer s H E hr =>
    have hu := hr.units
    have hk : K = (kt P w K).K := rfl
    have hp := passes_of (X := cxOf CX0 P w K mg base N_Ledger_begin "Ledger.begin" (defScope s_Ledger_begin) f cdv A outer s H E) rfl
    (dss_cons (ds_expr (de_call D_check_name (hr.mono (by decide)) (at0 _) rfl (da_cons (de_var 1 (pv 1)) da_nil)))
      (dss_cons (ds_if (dt_bor (dt_cmp (op_inX hk hu) (v_inX false) (de_var 1 (pv 1)) (de_attr [0] hk (by intro c hc; simp only [List.mem_cons, List.not_mem_nil, or_false] at hc; subst hc; exact ⟨T.cl_Ledger, T.na_Ledger_own_runs⟩) (de_var 0 (pv 0))) (by with_unfolding_all rfl))) (dss_one ds_never) dss_nil)
      (dss_one (ds_sub2 hu de_bl (de_fldP [0] hk (by intro c hc; simp only [List.mem_cons, List.not_mem_nil, or_false] at hc; subst hc; exact ⟨T.cl_Ledger, T.na_Ledger_own_runs⟩) (de_var 0 (pv 0))) (de_var 1 (pv 1))))))
abbrev s_Ledger_close : Stmt := inClass (top 19) 6
abbrev N_Ledger_close : List Str := ["self", "run"]
def x_Ledger_close : Nat → Bool := fun p => p == 0 || p == 1
def b_Ledger_close : MS := (sSeq (sDrop (eCall f_check_name (eCons (eVar 1) eNil)))
      (sSeq (sIf (bBor (bOf (eBin (indD true) (eVar 1) (eUn (fieldD [0] "own_runs") (eVar 0))))) sStuck sNx)
      (sSeq (sDrop (eBor (eMeth 0 "check_open" f_Ledger_check_open (eVar 0) (eCons (eVar 1) eNil))))
      (sSto setG2 (eCons (eC (.bl false)) (eCons (eFldP [0] "own_runs" (eVar 0)) (eCons (eVar 1) eNil)))))))
def f_Ledger_close : FD := runD 2 2 x_Ledger_close b_Ledger_close
theorem sc_Ledger_close : FnScope N_Ledger_close ["self", "run"] (defScope s_Ledger_close) := ⟨rfl, rfl, rfl, by decide +kernel, rfl, by decide +kernel, by decide +kernel⟩
theorem ok_Ledger_close (T : Tx K mg) (O : IsOk (kt P w K) isT) (D_check_name : DefOk P w K mg base CX0 2 (kt P w K) "check_name" f_check_name) (M_Ledger_check_open : MethOk P w K mg base CX0 1 (kt P w K) 0 "check_open" f_Ledger_check_open) (F : FunD K "close" "Ledger.close" (defArgs s_Ledger_close) (defBody s_Ledger_close) (defScope s_Ledger_close) [] [] f fd) : FnOk P w K mg base CX0 3 f fd ["self", "run"] (spD (kt P w K) f_Ledger_close) :=
  have sc := sc_Ledger_close
  fnD_ok (k := 2) F sc fun cdv A outer s H E hr =>
    have hu := hr.units
    have hk : K = (kt P w K).K := rfl
    have hp := passes_of (X := cxOf CX0 P w K mg base N_Ledger_close "Ledger.close" (defScope s_Ledger_close) f cdv A outer s H E) rfl
    (dss_cons (ds_expr (de_call D_check_name (hr.mono (by decide)) (at0 _) rfl (da_cons (de_var 1 (pv 1)) da_nil)))
      (dss_cons (ds_if (dt_bor (dt_cmp (op_notInX hk hu) (v_inX true) (de_var 1 (pv 1)) (de_attr [0] hk (by intro c hc; simp only [List.mem_cons, List.not_mem_nil, or_false] at hc; subst hc; exact ⟨T.cl_Ledger, T.na_Ledger_own_runs⟩) (de_var 0 (pv 0))) (by with_unfolding_all rfl))) (dss_one ds_never) dss_nil)
      (dss_cons (ds_expr (de_bor (de_meth M_Ledger_check_open T.cl_Ledger (hr.mono (by decide)) (at0 _) (de_var 0 (pv 0)) (da_cons (de_var 1 (pv 1)) da_nil))))
      (dss_one (ds_sub2 hu de_bl (de_fldP [0] hk (by intro c hc; simp only [List.mem_cons, List.not_mem_nil, or_false] at hc; subst hc; exact ⟨T.cl_Ledger, T.na_Ledger_own_runs⟩) (de_var 0 (pv 0))) (de_var 1 (pv 1)))))))
abbrev s_Ledger_check_kept : Stmt := inClass (top 19) 3
abbrev N_Ledger_check_kept : List Str := ["self", "run", "number"]
def x_Ledger_check_kept : Nat → Bool := fun p => p == 0 || p == 1 || p == 2
def b_Ledger_check_kept : MS := (sSeq (sDrop (eMeth 0 "check_id" f_Ledger_check_id (eVar 0) (eCons (eVar 1) (eCons (eVar 2) eNil))))
      (sIf (bOf (eBin (indD true) (eTup (eCons (eVar 1) (eCons (eVar 2) eNil))) (eUn (fieldD [0] "own_ids") (eVar 0)))) sStuck sNx))
def f_Ledger_check_kept : FD := runD 3 3 x_Ledger_check_kept b_Ledger_check_kept
theorem sc_Ledger_check_kept : FnScope N_Ledger_check_kept ["self", "run", "number"] (defScope s_Ledger_check_kept) := ⟨rfl, rfl, rfl, by decide +kernel, rfl, by decide +kernel, by decide +kernel⟩
theorem ok_Ledger_check_kept (T : Tx K mg) (O : IsOk (kt P w K) isT) (M_Ledger_check_id : MethOk P w K mg base CX0 3 (kt P w K) 0 "check_id" f_Ledger_check_id) (F : FunD K "check_kept" "Ledger.check_kept" (defArgs s_Ledger_check_kept) (defBody s_Ledger_check_kept) (defScope s_Ledger_check_kept) [] [] f fd) : FnOk P w K mg base CX0 5 f fd ["self", "run", "number"] (spD (kt P w K) f_Ledger_check_kept) :=
  have sc := sc_Ledger_check_kept
  fnD_ok (k := 4) F sc fun cdv A outer s H E hr =>
    have hu := hr.units
    have hk : K = (kt P w K).K := rfl
    have hp := passes_of (X := cxOf CX0 P w K mg base N_Ledger_check_kept "Ledger.check_kept" (defScope s_Ledger_check_kept) f cdv A outer s H E) rfl
    (dss_cons (ds_expr (de_meth M_Ledger_check_id T.cl_Ledger (hr.mono (by decide)) (at0 _) (de_var 0 (pv 0)) (da_cons (de_var 1 (pv 1)) (da_cons (de_var 2 (pv 2)) da_nil))))
      (dss_one (ds_if (dt_cmp (op_notInX hk hu) (v_inX true) (de_tup (da_cons (de_var 1 (pv 1)) (da_cons (de_var 2 (pv 2)) da_nil))) (de_attr [0] hk (by intro c hc; simp only [List.mem_cons, List.not_mem_nil, or_false] at hc; subst hc; exact ⟨T.cl_Ledger, T.na_Ledger_own_ids⟩) (de_var 0 (pv 0))) (by with_unfolding_all rfl)) (dss_one ds_never) dss_nil)))
abbrev s_Ledger_send : Stmt := inClass (top 19) 5
abbrev N_Ledger_send : List Str := ["self", "run", "number"]
def x_Ledger_send : Nat → Bool := fun p => p == 0 || p == 1 || p == 2
def b_Ledger_send : MS := (sSeq (sDrop (eBor (eMeth 0 "check_id" f_Ledger_check_id (eVar 0) (eCons (eVar 1) (eCons (eVar 2) eNil)))))
      (sSeq (sDrop (eBor (eMeth 0 "check_open" f_Ledger_check_open (eVar 0) (eCons (eVar 1) eNil))))
      (sSto setG2 (eCons (eBor (eBin addD (eGet2 (eUn (fieldD [0] "own_copies") (eVar 0)) (eTup (eCons (eVar 1) (eCons (eVar 2) eNil))) (eC (.int 0))) (eC (.int 1)))) (eCons (eFldP [0] "own_copies" (eVar 0)) (eCons (eTup (eCons (eVar 1) (eCons (eVar 2) eNil))) eNil))))))
def f_Ledger_send : FD := runD 3 3 x_Ledger_send b_Ledger_send
theorem sc_Ledger_send : FnScope N_Ledger_send ["self", "run", "number"] (defScope s_Ledger_send) := ⟨rfl, rfl, rfl, by decide +kernel, rfl, by decide +kernel, by decide +kernel⟩
theorem ok_Ledger_send (T : Tx K mg) (O : IsOk (kt P w K) isT) (M_Ledger_check_id : MethOk P w K mg base CX0 3 (kt P w K) 0 "check_id" f_Ledger_check_id) (M_Ledger_check_open : MethOk P w K mg base CX0 1 (kt P w K) 0 "check_open" f_Ledger_check_open) (F : FunD K "send" "Ledger.send" (defArgs s_Ledger_send) (defBody s_Ledger_send) (defScope s_Ledger_send) [] [] f fd) : FnOk P w K mg base CX0 5 f fd ["self", "run", "number"] (spD (kt P w K) f_Ledger_send) :=
  have sc := sc_Ledger_send
  fnD_ok (k := 4) F sc fun cdv A outer s H E hr =>
    have hu := hr.units
    have hk : K = (kt P w K).K := rfl
    have hp := passes_of (X := cxOf CX0 P w K mg base N_Ledger_send "Ledger.send" (defScope s_Ledger_send) f cdv A outer s H E) rfl
    (dss_cons (ds_expr (de_bor (de_meth M_Ledger_check_id T.cl_Ledger (hr.mono (by decide)) (at0 _) (de_var 0 (pv 0)) (da_cons (de_var 1 (pv 1)) (da_cons (de_var 2 (pv 2)) da_nil)))))
      (dss_cons (ds_expr (de_bor (de_meth M_Ledger_check_open T.cl_Ledger (hr.mono (by decide)) (at0 _) (de_var 0 (pv 0)) (da_cons (de_var 1 (pv 1)) da_nil))))
      (dss_one (ds_sub2 hu (de_bor (de_bin op_addD v_add (de_get2 hu (de_attr [0] hk (by intro c hc; simp only [List.mem_cons, List.not_mem_nil, or_false] at hc; subst hc; exact ⟨T.cl_Ledger, T.na_Ledger_own_copies⟩) (de_var 0 (pv 0))) (de_tup (da_cons (de_var 1 (pv 1)) (da_cons (de_var 2 (pv 2)) da_nil))) de_int ⟨rfl, rfl, rfl, rfl⟩) de_int)) (de_fldP [0] hk (by intro c hc; simp only [List.mem_cons, List.not_mem_nil, or_false] at hc; subst hc; exact ⟨T.cl_Ledger, T.na_Ledger_own_copies⟩) (de_var 0 (pv 0))) (de_tup (da_cons (de_var 1 (pv 1)) (da_cons (de_var 2 (pv 2)) da_nil)))))))
abbrev s_Ledger_take_copy : Stmt := inClass (top 19) 7
abbrev N_Ledger_take_copy : List Str := ["self", "run", "number", "left"]
def x_Ledger_take_copy : Nat → Bool := fun p => p == 0 || p == 1 || p == 2
def b_Ledger_take_copy : MS := (sSeq (sDrop (eBor (eMeth 0 "check_id" f_Ledger_check_id (eVar 0) (eCons (eVar 1) (eCons (eVar 2) eNil)))))
      (sSeq (sIf (bBor (bOf (eBin (indD true) (eTup (eCons (eVar 1) (eCons (eVar 2) eNil))) (eUn (fieldD [0] "own_copies") (eVar 0))))) sStuck sNx)
      (sSeq (sAsg 3 (eBin subD (eMutO isDctT dpop1G (eFldP [0] "own_copies" (eVar 0)) (eCons (eTup (eCons (eVar 1) (eCons (eVar 2) eNil))) eNil)) (eC (.int 1))))
      (sIf (bOf (eBin gtD (eVar 3) (eC (.int 0)))) (sSto setG2 (eCons (eVar 3) (eCons (eFldP [0] "own_copies" (eVar 0)) (eCons (eTup (eCons (eVar 1) (eCons (eVar 2) eNil))) eNil)))) sNx))))
def f_Ledger_take_copy : FD := runD 4 3 x_Ledger_take_copy b_Ledger_take_copy
theorem sc_Ledger_take_copy : FnScope N_Ledger_take_copy ["self", "run", "number"] (defScope s_Ledger_take_copy) := ⟨rfl, rfl, rfl, by decide +kernel, rfl, by decide +kernel, by decide +kernel⟩
theorem ok_Ledger_take_copy (T : Tx K mg) (O : IsOk (kt P w K) isT) (M_Ledger_check_id : MethOk P w K mg base CX0 3 (kt P w K) 0 "check_id" f_Ledger_check_id) (F : FunD K "take_copy" "Ledger.take_copy" (defArgs s_Ledger_take_copy) (defBody s_Ledger_take_copy) (defScope s_Ledger_take_copy) [] [] f fd) : FnOk P w K mg base CX0 5 f fd ["self", "run", "number"] (spD (kt P w K) f_Ledger_take_copy) :=
  have sc := sc_Ledger_take_copy
  fnD_ok (k := 4) F sc fun cdv A outer s H E hr =>
    have hu := hr.units
    have hk : K = (kt P w K).K := rfl
    have hp := passes_of (X := cxOf CX0 P w K mg base N_Ledger_take_copy "Ledger.take_copy" (defScope s_Ledger_take_copy) f cdv A outer s H E) rfl
    (dss_cons (ds_expr (de_bor (de_meth M_Ledger_check_id T.cl_Ledger (hr.mono (by decide)) (at0 _) (de_var 0 (pv 0)) (da_cons (de_var 1 (pv 1)) (da_cons (de_var 2 (pv 2)) da_nil)))))
      (dss_cons (ds_if (dt_bor (dt_cmp (op_notInX hk hu) (v_inX true) (de_tup (da_cons (de_var 1 (pv 1)) (da_cons (de_var 2 (pv 2)) da_nil))) (de_attr [0] hk (by intro c hc; simp only [List.mem_cons, List.not_mem_nil, or_false] at hc; subst hc; exact ⟨T.cl_Ledger, T.na_Ledger_own_copies⟩) (de_var 0 (pv 0))) (by with_unfolding_all rfl))) (dss_one ds_never) dss_nil)
      (dss_cons (ds_set (i := 3) sc.nd rfl (by first | exact Or.inl rfl | exact Or.inr rfl) (de_bin op_sub v_sub (de_dpop hk hu (de_fldP [0] hk (by intro c hc; simp only [List.mem_cons, List.not_mem_nil, or_false] at hc; subst hc; exact ⟨T.cl_Ledger, T.na_Ledger_own_copies⟩) (de_var 0 (pv 0))) (da_cons (de_tup (da_cons (de_var 1 (pv 1)) (da_cons (de_var 2 (pv 2)) da_nil))) da_nil)) de_int) (by decide))
      (dss_one (ds_if (dt_cmp op_gtDD v_cmp (de_var 3 (pv 3)) de_int (nomark _)) (dss_one (ds_sub2 hu (de_var 3 (pv 3)) (de_fldP [0] hk (by intro c hc; simp only [List.mem_cons, List.not_mem_nil, or_false] at hc; subst hc; exact ⟨T.cl_Ledger, T.na_Ledger_own_copies⟩) (de_var 0 (pv 0))) (de_tup (da_cons (de_var 1 (pv 1)) (da_cons (de_var 2 (pv 2)) da_nil))))) dss_nil)))))
abbrev s_Ledger_arrive : Stmt := inClass (top 19) 8
abbrev N_Ledger_arrive : List Str := ["self", "run", "number", "is_new"]
def x_Ledger_arrive : Nat → Bool := fun p => p == 0 || p == 1 || p == 2
def b_Ledger_arrive : MS := (sSeq (sDrop (eMeth 0 "take_copy" f_Ledger_take_copy (eVar 0) (eCons (eVar 1) (eCons (eVar 2) eNil))))
      (sSeq (sAsg 3 (eBor (eBin (indD true) (eTup (eCons (eVar 1) (eCons (eVar 2) eNil))) (eUn (fieldD [0] "own_ids") (eVar 0)))))
      (sSeq (sSto setG2 (eCons (eC (.bl true)) (eCons (eFldP [0] "own_ids" (eVar 0)) (eCons (eTup (eCons (eVar 1) (eCons (eVar 2) eNil))) eNil))))
      (sRet (eVar 3)))))
def f_Ledger_arrive : FD := runD 4 3 x_Ledger_arrive b_Ledger_arrive
theorem sc_Ledger_arrive : FnScope N_Ledger_arrive ["self", "run", "number"] (defScope s_Ledger_arrive) := ⟨rfl, rfl, rfl, by decide +kernel, rfl, by decide +kernel, by decide +kernel⟩
theorem ok_Ledger_arrive (T : Tx K mg) (O : IsOk (kt P w K) isT) (M_Ledger_take_copy : MethOk P w K mg base CX0 5 (kt P w K) 0 "take_copy" f_Ledger_take_copy) (F : FunD K "arrive" "Ledger.arrive" (defArgs s_Ledger_arrive) (defBody s_Ledger_arrive) (defScope s_Ledger_arrive) [] [] f fd) : FnOk P w K mg base CX0 7 f fd ["self", "run", "number"] (spD (kt P w K) f_Ledger_arrive) :=
  have sc := sc_Ledger_arrive
  fnD_ok (k := 6) F sc fun cdv A outer s H E hr =>
    have hu := hr.units
    have hk : K = (kt P w K).K := rfl
    have hp := passes_of (X := cxOf CX0 P w K mg base N_Ledger_arrive "Ledger.arrive" (defScope s_Ledger_arrive) f cdv A outer s H E) rfl
    (dss_cons (ds_expr (de_meth M_Ledger_take_copy T.cl_Ledger (hr.mono (by decide)) (at0 _) (de_var 0 (pv 0)) (da_cons (de_var 1 (pv 1)) (da_cons (de_var 2 (pv 2)) da_nil))))
      (dss_cons (ds_set (i := 3) sc.nd rfl (by first | exact Or.inl rfl | exact Or.inr rfl) (de_bor (de_cmp (op_notInX hk hu) (v_inX true) (de_tup (da_cons (de_var 1 (pv 1)) (da_cons (de_var 2 (pv 2)) da_nil))) (de_attr [0] hk (by intro c hc; simp only [List.mem_cons, List.not_mem_nil, or_false] at hc; subst hc; exact ⟨T.cl_Ledger, T.na_Ledger_own_ids⟩) (de_var 0 (pv 0))) (by with_unfolding_all rfl))) (by decide))
      (dss_cons (ds_sub2 hu de_bl (de_fldP [0] hk (by intro c hc; simp only [List.mem_cons, List.not_mem_nil, or_false] at hc; subst hc; exact ⟨T.cl_Ledger, T.na_Ledger_own_ids⟩) (de_var 0 (pv 0))) (de_tup (da_cons (de_var 1 (pv 1)) (da_cons (de_var 2 (pv 2)) da_nil))))
      (dss_one (ds_ret (de_var 3 (pv 3)))))))
abbrev s_Ledger_lose : Stmt := inClass (top 19) 9
abbrev N_Ledger_lose : List Str := ["self", "run", "number"]
def x_Ledger_lose : Nat → Bool := fun p => p == 0 || p == 1 || p == 2
def b_Ledger_lose : MS := (sDrop (eMeth 0 "take_copy" f_Ledger_take_copy (eVar 0) (eCons (eVar 1) (eCons (eVar 2) eNil))))
def f_Ledger_lose : FD := runD 3 3 x_Ledger_lose b_Ledger_lose
theorem sc_Ledger_lose : FnScope N_Ledger_lose ["self", "run", "number"] (defScope s_Ledger_lose) := ⟨rfl, rfl, rfl, by decide +kernel, rfl, by decide +kernel, by decide +kernel⟩
theorem ok_Ledger_lose (T : Tx K mg) (O : IsOk (kt P w K) isT) (M_Ledger_take_copy : MethOk P w K mg base CX0 5 (kt P w K) 0 "take_copy" f_Ledger_take_copy) (F : FunD K "lose" "Ledger.lose" (defArgs s_Ledger_lose) (defBody s_Ledger_lose) (defScope s_Ledger_lose) [] [] f fd) : FnOk P w K mg base CX0 7 f fd ["self", "run", "number"] (spD (kt P w K) f_Ledger_lose) :=
  have sc := sc_Ledger_lose
  fnD_ok (k := 6) F sc fun cdv A outer s H E hr =>
    have hu := hr.units
    have hk : K = (kt P w K).K := rfl
    have hp := passes_of (X := cxOf CX0 P w K mg base N_Ledger_lose "Ledger.lose" (defScope s_Ledger_lose) f cdv A outer s H E) rfl
    (dss_one (ds_expr (de_meth M_Ledger_take_copy T.cl_Ledger (hr.mono (by decide)) (at0 _) (de_var 0 (pv 0)) (da_cons (de_var 1 (pv 1)) (da_cons (de_var 2 (pv 2)) da_nil)))))
abbrev s_Ledger_danger : Stmt := inClass (top 19) 11
abbrev N_Ledger_danger : List Str := ["self", "run", "number", "arrival"]
def x_Ledger_danger : Nat → Bool := fun p => p == 0 || p == 1 || p == 2
def b_Ledger_danger : MS := (sSeq (sDrop (eMeth 0 "check_kept" f_Ledger_check_kept (eVar 0) (eCons (eVar 1) (eCons (eVar 2) eNil))))
      (sSeq (sAsg 3 (eTup (eCons (eC (.str "arrive")) (eCons (eVar 1) (eCons (eVar 2) eNil)))))
      (sSeq (sIf (bOf (eBin (indD false) (eTup (eCons (eVar 1) (eCons (eVar 2) eNil))) (eUn (fieldD [0] "own_copies") (eVar 0)))) (sRet (eLst (eCons (eVar 3) eNil))) sNx)
      (sRet (eIf (bOf (eBin idxD (eUn (fieldD [0] "own_runs") (eVar 0)) (eVar 1))) (eLst (eCons (eTup (eCons (eC (.str "send")) (eCons (eVar 1) (eCons (eVar 2) eNil)))) (eCons (eVar 3) eNil))) (eC .non))))))
def f_Ledger_danger : FD := runD 4 3 x_Ledger_danger b_Ledger_danger
theorem sc_Ledger_danger : FnScope N_Ledger_danger ["self", "run", "number"] (defScope s_Ledger_danger) := ⟨rfl, rfl, rfl, by decide +kernel, rfl, by decide +kernel, by decide +kernel⟩
theorem ok_Ledger_danger (T : Tx K mg) (O : IsOk (kt P w K) isT) (M_Ledger_check_kept : MethOk P w K mg base CX0 5 (kt P w K) 0 "check_kept" f_Ledger_check_kept) (F : FunD K "danger" "Ledger.danger" (defArgs s_Ledger_danger) (defBody s_Ledger_danger) (defScope s_Ledger_danger) [] [] f fd) : FnOk P w K mg base CX0 7 f fd ["self", "run", "number"] (spD (kt P w K) f_Ledger_danger) :=
  have sc := sc_Ledger_danger
  fnD_ok (k := 6) F sc fun cdv A outer s H E hr =>
    have hu := hr.units
    have hk : K = (kt P w K).K := rfl
    have hp := passes_of (X := cxOf CX0 P w K mg base N_Ledger_danger "Ledger.danger" (defScope s_Ledger_danger) f cdv A outer s H E) rfl
    (dss_cons (ds_expr (de_meth M_Ledger_check_kept T.cl_Ledger (hr.mono (by decide)) (at0 _) (de_var 0 (pv 0)) (da_cons (de_var 1 (pv 1)) (da_cons (de_var 2 (pv 2)) da_nil))))
      (dss_cons (ds_set (i := 3) sc.nd rfl (by first | exact Or.inl rfl | exact Or.inr rfl) (de_tup (da_cons de_str (da_cons (de_var 1 (pv 1)) (da_cons (de_var 2 (pv 2)) da_nil)))) (by decide))
      (dss_cons (ds_if (dt_cmp (op_inX hk hu) (v_inX false) (de_tup (da_cons (de_var 1 (pv 1)) (da_cons (de_var 2 (pv 2)) da_nil))) (de_attr [0] hk (by intro c hc; simp only [List.mem_cons, List.not_mem_nil, or_false] at hc; subst hc; exact ⟨T.cl_Ledger, T.na_Ledger_own_copies⟩) (de_var 0 (pv 0))) (by with_unfolding_all rfl)) (dss_one (ds_ret (de_lst (da_cons (de_var 3 (pv 3)) da_nil)))) dss_nil)
      (dss_one (ds_ret (de_ifExp (dt_val (de_ix hk hu (de_attr [0] hk (by intro c hc; simp only [List.mem_cons, List.not_mem_nil, or_false] at hc; subst hc; exact ⟨T.cl_Ledger, T.na_Ledger_own_runs⟩) (de_var 0 (pv 0))) (de_var 1 (pv 1)) fun _ _ => rfl)) (de_lst (da_cons (de_tup (da_cons de_str (da_cons (de_var 1 (pv 1)) (da_cons (de_var 2 (pv 2)) da_nil)))) (da_cons (de_var 3 (pv 3)) da_nil))) de_non))))))
abbrev s_Ledger_forget : Stmt := inClass (top 19) 10
abbrev N_Ledger_forget : List Str := ["self", "run", "number"]
def x_Ledger_forget : Nat → Bool := fun p => p == 0 || p == 1 || p == 2
def b_Ledger_forget : MS := (sSeq (sDrop (eBor (eMeth 0 "check_kept" f_Ledger_check_kept (eVar 0) (eCons (eVar 1) (eCons (eVar 2) eNil)))))
      (sSeq (sIf (bBor (bOf (eBin notND (eMeth 0 "danger" f_Ledger_danger (eVar 0) (eCons (eVar 1) (eCons (eVar 2) eNil))) (eC .non)))) sStuck sNx)
      (sDrop (eMutO isDctT dpop1G (eFldP [0] "own_ids" (eVar 0)) (eCons (eTup (eCons (eVar 1) (eCons (eVar 2) eNil))) eNil)))))
def f_Ledger_forget : FD := runD 3 3 x_Ledger_forget b_Ledger_forget
theorem sc_Ledger_forget : FnScope N_Ledger_forget ["self", "run", "number"] (defScope s_Ledger_forget) := ⟨rfl, rfl, rfl, by decide +kernel, rfl, by decide +kernel, by decide +kernel⟩
theorem ok_Ledger_forget (T : Tx K mg) (O : IsOk (kt P w K) isT) (M_Ledger_check_kept : MethOk P w K mg base CX0 5 (kt P w K) 0 "check_kept" f_Ledger_check_kept) (M_Ledger_danger : MethOk P w K mg base CX0 7 (kt P w K) 0 "danger" f_Ledger_danger) (F : FunD K "forget" "Ledger.forget" (defArgs s_Ledger_forget) (defBody s_Ledger_forget) (defScope s_Ledger_forget) [] [] f fd) : FnOk P w K mg base CX0 9 f fd ["self", "run", "number"] (spD (kt P w K) f_Ledger_forget) :=
  have sc := sc_Ledger_forget
  fnD_ok (k := 8) F sc fun cdv A outer s H E hr =>
    have hu := hr.units
    have hk : K = (kt P w K).K := rfl
    have hp := passes_of (X := cxOf CX0 P w K mg base N_Ledger_forget "Ledger.forget" (defScope s_Ledger_forget) f cdv A outer s H E) rfl
    (dss_cons (ds_expr (de_bor (de_meth M_Ledger_check_kept T.cl_Ledger (hr.mono (by decide)) (at0 _) (de_var 0 (pv 0)) (da_cons (de_var 1 (pv 1)) (da_cons (de_var 2 (pv 2)) da_nil)))))
      (dss_cons (ds_if (dt_bor (dt_cmp op_notN v_notN (de_meth M_Ledger_danger T.cl_Ledger (hr.mono (by decide)) (at0 _) (de_var 0 (pv 0)) (da_cons (de_var 1 (pv 1)) (da_cons (de_var 2 (pv 2)) da_nil))) de_non (nomark _))) (dss_one ds_never) dss_nil)
      (dss_one (ds_expr (de_dpop hk hu (de_fldP [0] hk (by intro c hc; simp only [List.mem_cons, List.not_mem_nil, or_false] at hc; subst hc; exact ⟨T.cl_Ledger, T.na_Ledger_own_ids⟩) (de_var 0 (pv 0))) (da_cons (de_tup (da_cons (de_var 1 (pv 1)) (da_cons (de_var 2 (pv 2)) da_nil))) da_nil))))))
abbrev s_Ledger_forgettable : Stmt := inClass (top 19) 13
abbrev N_Ledger_forgettable : List Str := ["self", "one"]
def x_Ledger_forgettable : Nat → Bool := fun p => p == 0
def b_Ledger_forgettable : MS := (sRet (eComp [1] (eIt (eMeth 0 "kept" f_Ledger_kept (eVar 0) eNil) seqD) (gN 1) (bOf (eBin isND (eMeth 0 "danger" f_Ledger_danger (eVar 0) (eCons (eBin idxD (eVar 1) (eC (.int 0))) (eCons (eBin idxD (eVar 1) (eC (.int 1))) eNil))) (eC .non))) (eVar 1)))
def f_Ledger_forgettable : FD := runD 2 1 x_Ledger_forgettable b_Ledger_forgettable
theorem sc_Ledger_forgettable : FnScope N_Ledger_forgettable ["self"] (defScope s_Ledger_forgettable) := ⟨rfl, rfl, rfl, by decide +kernel, rfl, by decide +kernel, by decide +kernel⟩
theorem ok_Ledger_forgettable (T : Tx K mg) (O : IsOk (kt P w K) isT) (M_Ledger_kept : MethOk P w K mg base CX0 1 (kt P w K) 0 "kept" f_Ledger_kept) (M_Ledger_danger : MethOk P w K mg base CX0 7 (kt P w K) 0 "danger" f_Ledger_danger) (F : FunD K "forgettable" "Ledger.forgettable" (defArgs s_Ledger_forgettable) (defBody s_Ledger_forgettable) (defScope s_Ledger_forgettable) [] [] f fd) : FnOk P w K mg base CX0 9 f fd ["self"] (spD (kt P w K) f_Ledger_forgettable) :=
  have sc := sc_Ledger_forgettable
  fnD_ok (k := 8) F sc fun cdv A outer s H E hr =>
    have hu := hr.units
    have hk : K = (kt P w K).K := rfl
    have hp := passes_of (X := cxOf CX0 P w K mg base N_Ledger_forgettable "Ledger.forgettable" (defScope s_Ledger_forgettable) f cdv A outer s H E) rfl
    (dss_one (ds_ret (de_lc (own := [("one", 1)]) rfl sc.nd (di_seq hk (de_meth0 M_Ledger_kept T.cl_Ledger (hr.mono (by decide)) (at0 _) (de_var 0 (pv 0)))) (blkOk_by (own := [("one", 1)]) (N := N_Ledger_forgettable) (sc := defScope s_Ledger_forgettable) (by decide +kernel)) (fun _ _ _ _ _ => (pg_name (i := 1) sc.nd rfl (by first | exact Or.inl rfl | exact Or.inr rfl))) (tg_name (i := 1) (show 1 < 2 from by decide) (by decide)) (fun _ _ _ _ _ => (dts_one (dt_cmp op_isN v_isN (de_meth M_Ledger_danger T.cl_Ledger (hr.mono (by decide)) (at0 _) (de_var 0 (pv 0)) (da_cons (de_ix hk hu (de_var 1 (pv 1)) de_int fun _ _ => rfl) (da_cons (de_ix hk hu (de_var 1 (pv 1)) de_int fun _ _ => rfl) da_nil))) de_non (nomark _)))) (fun _ _ _ _ _ => (de_var 1 (pv 1))))))
abbrev s__law_tell : Stmt := top 27
abbrev N__law_tell : List Str := ["ledger", "event"]
def x__law_tell : Nat → Bool := fun p => p == 0 || p == 1
def b__law_tell : MS := (sSeq (sIf (bOf (eBin eqDW (eBin idxD (eVar 1) (eC (.int 0))) (eC (.str "begin")))) (sRet (eMeth 0 "begin" f_Ledger_begin (eVar 0) (eCons (eBin idxD (eVar 1) (eC (.int 1))) eNil))) sNx)
      (sSeq (sIf (bOf (eBin eqDW (eBin idxD (eVar 1) (eC (.int 0))) (eC (.str "close")))) (sRet (eMeth 0 "close" f_Ledger_close (eVar 0) (eCons (eBin idxD (eVar 1) (eC (.int 1))) eNil))) sNx)
      (sSeq (sIf (bOf (eBin eqDW (eBin idxD (eVar 1) (eC (.int 0))) (eC (.str "send")))) (sRet (eMeth 0 "send" f_Ledger_send (eVar 0) (eCons (eBin idxD (eVar 1) (eC (.int 1))) (eCons (eBin idxD (eVar 1) (eC (.int 2))) eNil)))) sNx)
      (sSeq (sIf (bOf (eBin eqDW (eBin idxD (eVar 1) (eC (.int 0))) (eC (.str "arrive")))) (sRet (eMeth 0 "arrive" f_Ledger_arrive (eVar 0) (eCons (eBin idxD (eVar 1) (eC (.int 1))) (eCons (eBin idxD (eVar 1) (eC (.int 2))) eNil)))) sNx)
      (sSeq (sIf (bOf (eBin eqDW (eBin idxD (eVar 1) (eC (.int 0))) (eC (.str "lose")))) (sRet (eMeth 0 "lose" f_Ledger_lose (eVar 0) (eCons (eBin idxD (eVar 1) (eC (.int 1))) (eCons (eBin idxD (eVar 1) (eC (.int 2))) eNil)))) sNx)
      (sRet (eMeth 0 "forget" f_Ledger_forget (eVar 0) (eCons (eBin idxD (eVar 1) (eC (.int 1))) (eCons (eBin idxD (eVar 1) (eC (.int 2))) eNil)))))))))
def f__law_tell : FD := runD 2 2 x__law_tell b__law_tell
theorem sc__law_tell : FnScope N__law_tell ["ledger", "event"] (defScope s__law_tell) := ⟨rfl, rfl, rfl, by decide +kernel, rfl, by decide +kernel, by decide +kernel⟩
theorem ok__law_tell (T : Tx K mg) (O : IsOk (kt P w K) isT) (M_Ledger_begin : MethOk P w K mg base CX0 3 (kt P w K) 0 "begin" f_Ledger_begin) (M_Ledger_close : MethOk P w K mg base CX0 3 (kt P w K) 0 "close" f_Ledger_close) (M_Ledger_send : MethOk P w K mg base CX0 5 (kt P w K) 0 "send" f_Ledger_send) (M_Ledger_arrive : MethOk P w K mg base CX0 7 (kt P w K) 0 "arrive" f_Ledger_arrive) (M_Ledger_lose : MethOk P w K mg base CX0 7 (kt P w K) 0 "lose" f_Ledger_lose) (M_Ledger_forget : MethOk P w K mg base CX0 9 (kt P w K) 0 "forget" f_Ledger_forget) (F : FunD K "_law_tell" "_law_tell" (defArgs s__law_tell) (defBody s__law_tell) (defScope s__law_tell) [] [] f fd) : FnOk P w K mg base CX0 11 f fd ["ledger", "event"] (spD (kt P w K) f__law_tell) :=
  have sc := sc__law_tell
  fnD_ok (k := 10) F sc fun cdv A outer s H E hr =>
    have hu := hr.units
    have hk : K = (kt P w K).K := rfl
    have hp := passes_of (X := cxOf CX0 P w K mg base N__law_tell "_law_tell" (defScope s__law_tell) f cdv A outer s H E) rfl
    (dss_cons (ds_if (dt_cmp (op_eqW hk hu) v_eqW (de_ix hk hu (de_var 1 (pv 1)) de_int fun _ _ => rfl) de_str (nomark _)) (dss_one (ds_ret (de_meth M_Ledger_begin T.cl_Ledger (hr.mono (by decide)) (at0 _) (de_var 0 (pv 0)) (da_cons (de_ix hk hu (de_var 1 (pv 1)) de_int fun _ _ => rfl) da_nil)))) dss_nil)
      (dss_cons (ds_if (dt_cmp (op_eqW hk hu) v_eqW (de_ix hk hu (de_var 1 (pv 1)) de_int fun _ _ => rfl) de_str (nomark _)) (dss_one (ds_ret (de_meth M_Ledger_close T.cl_Ledger (hr.mono (by decide)) (at0 _) (de_var 0 (pv 0)) (da_cons (de_ix hk hu (de_var 1 (pv 1)) de_int fun _ _ => rfl) da_nil)))) dss_nil)
      (dss_cons (ds_if (dt_cmp (op_eqW hk hu) v_eqW (de_ix hk hu (de_var 1 (pv 1)) de_int fun _ _ => rfl) de_str (nomark _)) (dss_one (ds_ret (de_meth M_Ledger_send T.cl_Ledger (hr.mono (by decide)) (at0 _) (de_var 0 (pv 0)) (da_cons (de_ix hk hu (de_var 1 (pv 1)) de_int fun _ _ => rfl) (da_cons (de_ix hk hu (de_var 1 (pv 1)) de_int fun _ _ => rfl) da_nil))))) dss_nil)
      (dss_cons (ds_if (dt_cmp (op_eqW hk hu) v_eqW (de_ix hk hu (de_var 1 (pv 1)) de_int fun _ _ => rfl) de_str (nomark _)) (dss_one (ds_ret (de_meth M_Ledger_arrive T.cl_Ledger (hr.mono (by decide)) (at0 _) (de_var 0 (pv 0)) (da_cons (de_ix hk hu (de_var 1 (pv 1)) de_int fun _ _ => rfl) (da_cons (de_ix hk hu (de_var 1 (pv 1)) de_int fun _ _ => rfl) da_nil))))) dss_nil)
      (dss_cons (ds_if (dt_cmp (op_eqW hk hu) v_eqW (de_ix hk hu (de_var 1 (pv 1)) de_int fun _ _ => rfl) de_str (nomark _)) (dss_one (ds_ret (de_meth M_Ledger_lose T.cl_Ledger (hr.mono (by decide)) (at0 _) (de_var 0 (pv 0)) (da_cons (de_ix hk hu (de_var 1 (pv 1)) de_int fun _ _ => rfl) (da_cons (de_ix hk hu (de_var 1 (pv 1)) de_int fun _ _ => rfl) da_nil))))) dss_nil)
      (dss_one (ds_ret (de_meth M_Ledger_forget T.cl_Ledger (hr.mono (by decide)) (at0 _) (de_var 0 (pv 0)) (da_cons (de_ix hk hu (de_var 1 (pv 1)) de_int fun _ _ => rfl) (da_cons (de_ix hk hu (de_var 1 (pv 1)) de_int fun _ _ => rfl) da_nil))))))))))
abbrev s__law_ledger_shown : Stmt := top 28
abbrev N__law_ledger_shown : List Str := ["ledger", "rows", "one"]
def x__law_ledger_shown : Nat → Bool := fun p => p == 0
def b__law_ledger_shown : MS := (sSeq (sAsg 1 (eComp [2] (eIt (eMeth 0 "kept" f_Ledger_kept (eVar 0) eNil) seqD) (gN 2) bYes (eTup (eCons (eVar 2) (eCons (eMeth 0 "danger" f_Ledger_danger (eVar 0) (eCons (eBin idxD (eVar 2) (eC (.int 0))) (eCons (eBin idxD (eVar 2) (eC (.int 1))) eNil))) eNil)))))
      (sRet (eTup (eCons (eVar 1) (eCons (eMeth 0 "forgettable" f_Ledger_forgettable (eVar 0) eNil) eNil)))))
def f__law_ledger_shown : FD := runD 3 1 x__law_ledger_shown b__law_ledger_shown
theorem sc__law_ledger_shown : FnScope N__law_ledger_shown ["ledger"] (defScope s__law_ledger_shown) := ⟨rfl, rfl, rfl, by decide +kernel, rfl, by decide +kernel, by decide +kernel⟩
theorem ok__law_ledger_shown (T : Tx K mg) (O : IsOk (kt P w K) isT) (M_Ledger_danger : MethOk P w K mg base CX0 7 (kt P w K) 0 "danger" f_Ledger_danger) (M_Ledger_kept : MethOk P w K mg base CX0 1 (kt P w K) 0 "kept" f_Ledger_kept) (M_Ledger_forgettable : MethOk P w K mg base CX0 9 (kt P w K) 0 "forgettable" f_Ledger_forgettable) (F : FunD K "_law_ledger_shown" "_law_ledger_shown" (defArgs s__law_ledger_shown) (defBody s__law_ledger_shown) (defScope s__law_ledger_shown) [] [] f fd) : FnOk P w K mg base CX0 11 f fd ["ledger"] (spD (kt P w K) f__law_ledger_shown) :=
  have sc := sc__law_ledger_shown
  fnD_ok (k := 10) F sc fun cdv A outer s H E hr =>
    have hu := hr.units
    have hk : K = (kt P w K).K := rfl
    have hp := passes_of (X := cxOf CX0 P w K mg base N__law_ledger_shown "_law_ledger_shown" (defScope s__law_ledger_shown) f cdv A outer s H E) rfl
    (dss_cons (ds_setLc (i := 1) (own := [("one", 2)]) rfl sc.nd rfl rfl (sw_true rfl rfl rfl (by decide +kernel)) (di_seq hk (de_meth0 M_Ledger_kept T.cl_Ledger (hr.mono (by decide)) (at0 _) (de_var 0 (pv 0)))) (blkOk_by (own := [("one", 2)]) (N := N__law_ledger_shown) (sc := defScope s__law_ledger_shown) (by decide +kernel)) (fun _ _ _ _ _ => (pg_name (i := 2) sc.nd rfl (by first | exact Or.inl rfl | exact Or.inr rfl))) (tg_name (i := 2) (show 2 < 3 from by decide) (by decide)) (fun _ _ _ _ _ => dts_nil) (fun _ _ _ _ _ => (de_tup (da_cons (de_var 2 (pv 2)) (da_cons (de_meth M_Ledger_danger T.cl_Ledger (hr.mono (by decide)) (at0 _) (de_var 0 (pv 0)) (da_cons (de_ix hk hu (de_var 2 (pv 2)) de_int fun _ _ => rfl) (da_cons (de_ix hk hu (de_var 2 (pv 2)) de_int fun _ _ => rfl) da_nil))) da_nil)))) (by decide))
      (dss_one (ds_ret (de_tup (da_cons (de_var 1 (pv 1)) (da_cons (de_meth0 M_Ledger_forgettable T.cl_Ledger (hr.mono (by decide)) (at0 _) (de_var 0 (pv 0))) da_nil))))))
abbrev s_law : Stmt := top 31
abbrev N_law : List Str := ["script", "k", "pool", "ledger", "other", "book", "more", "turn", "some", "event", "odd"]
def x_law : Nat → Bool := fun p => p == 0
def b_law : MS := (sSeq (sFor (eItL (eCons (eCB max2D (eCons (eC (.int 1)) (eCons (eCB min2D (eCons (eC (.int 5)) (eCons (eCB len2D (eCons (eVar 0) eNil)) eNil))) eNil))) eNil) rng1D) (gN 1) (sSeq (sAsg 2 (eCall f__law_pool (eCons (eVar 0) (eCons (eVar 1) eNil))))
      (sSeq (sParN [3, 4] (eCons (eNewN 0 ["own_runs", "own_copies", "own_ids"]) (eCons (eNewN 0 ["own_runs", "own_copies", "own_ids"]) eNil)))
      (sSeq (sPar 5 6 (eCons (eCall f__law_book eNil) (eCons (eCall f__law_book eNil) eNil)))
      (sSeq (sFor (eItL (eCons (eCall f__law_draw (eCons (eVar 2) (eCons (eC (.int 41)) eNil))) eNil) rng1D) (gN 7) (sSeq (sAsg 8 (eBor (eCall f__law_events (eCons (eVar 2) (eCons (eVar 5) eNil)))))
      (sSeq (sAsg 9 (eBin idxD (eVar 8) (eCall f__law_draw (eCons (eVar 2) (eCons (eCB len2D (eCons (eVar 8) eNil)) eNil)))))
      (sSeq (sIf (bOf (eBin neD (eCall f__law_tell (eCons (eVar 3) (eCons (eVar 9) eNil))) (eCall f__law_noted (eCons (eVar 5) (eCons (eVar 9) eNil))))) (sRet (eC (.bl false))) sNx)
      (sSeq (sDrop (eMut isLst appG (eBor (eMeth 0 "kept" f_Ledger_kept (eVar 3) eNil)) (eCons (eC .non) eNil)))
      (sSeq (sIf (bBor (bOf (eBin neD (eCall f__law_ledger_shown (eCons (eVar 3) eNil)) (eCall f__law_ledger_due (eCons (eVar 5) eNil))))) (sRet (eC (.bl false))) sNx)
      (sSeq (sAsg 8 (eBor (eCall f__law_events (eCons (eVar 2) (eCons (eVar 6) eNil)))))
      (sSeq (sIf (bAnd (bOf (eBin (indD false) (eVar 9) (eVar 8))) (bOf (eBin gtD (eCall f__law_draw (eCons (eVar 2) (eCons (eC (.int 8)) eNil))) (eC (.int 0))))) (sSeq (sDrop (eCall f__law_tell (eCons (eVar 4) (eCons (eVar 9) eNil))))
      (sDrop (eCall f__law_noted (eCons (eVar 6) (eCons (eVar 9) eNil))))) sNx)
      (sIf (bBor (bOf (eBin neD (eCall (noX f_Ledger___eq__) (eCkA (ckEq 0 (nfT 0)) (eCons (eVar 3) (eCons (eVar 4) eNil)))) (eBin eqDW (eCall f__law_what_is_left (eCons (eVar 5) eNil)) (eCall f__law_what_is_left (eCons (eVar 6) eNil)))))) (sRet (eC (.bl false))) sNx)))))))))
      (sIf (bBor (bOf (eBin neD (eComp [10] (eIt (eLst (eCons (eVar 5) (eCons (eC .non) (eCons (eC (.int 5)) eNil)))) seqD) (gN 10) (bOf (eCall (noX f_Ledger___eq__) (eCkA (ckEq 0 (nfT 0)) (eCons (eVar 3) (eCons (eVar 10) eNil))))) (eVar 10)) (eLst eNil)))) (sRet (eC (.bl false))) sNx))))))
      (sRet (eC (.bl true))))
def f_law : FD := runD 11 1 x_law b_law
theorem sc_law : FnScope N_law ["script"] (defScope s_law) := ⟨rfl, rfl, rfl, by decide +kernel, rfl, by decide +kernel, by decide +kernel⟩
theorem ok_law (T : Tx K mg) (O : IsOk (kt P w K) isT) (D__law_pool : DefOk P w K mg base CX0 1 (kt P w K) "_law_pool" f__law_pool) (K_Ledger : NewOk P w K mg base CX0 1 (kt P w K) 0 "Ledger" ["own_runs", "own_copies", "own_ids"]) (D__law_book : DefOk P w K mg base CX0 1 (kt P w K) "_law_book" f__law_book) (D__law_draw : DefOk P w K mg base CX0 1 (kt P w K) "_law_draw" f__law_draw) (D__law_events : DefOk P w K mg base CX0 2 (kt P w K) "_law_events" f__law_events) (D__law_tell : DefOk P w K mg base CX0 11 (kt P w K) "_law_tell" f__law_tell) (D__law_noted : DefOk P w K mg base CX0 1 (kt P w K) "_law_noted" f__law_noted) (M_Ledger_kept : MethOk P w K mg base CX0 1 (kt P w K) 0 "kept" f_Ledger_kept) (D__law_ledger_shown : DefOk P w K mg base CX0 11 (kt P w K) "_law_ledger_shown" f__law_ledger_shown) (D__law_ledger_due : DefOk P w K mg base CX0 2 (kt P w K) "_law_ledger_due" f__law_ledger_due) (E_Ledger : EqOk P w K mg base 1 (kt P w K) 0 f_Ledger___eq__) (D__law_what_is_left : DefOk P w K mg base CX0 1 (kt P w K) "_law_what_is_left" f__law_what_is_left) (F : FunD K "law" "law" (defArgs s_law) (defBody s_law) (defScope s_law) [] [] f fd) : FnOk P w K mg base CX0 12 f fd ["script"] (spD (kt P w K) f_law) :=
  have sc := sc_law
  fnD_ok (k := 11) F sc fun cdv A outer s H E hr =>
    have hu := hr.units
    have hk : K = (kt P w K).K := rfl
    have hp := passes_of (X := cxOf CX0 P w K mg base N_law "law" (defScope s_law) f cdv A outer s H E) rfl
    (dss_cons (ds_for hp rfl (di_range1 rfl T.b_range (da_cons (de_callB v_max2 (call_max2 rfl) rfl T.b_max rfl (da_cons de_int (da_cons (de_callB v_min2 (call_min2 rfl) rfl T.b_min rfl (da_cons de_int (da_cons (de_callB v_len2 c_len2 rfl T.b_len rfl (da_cons (de_var 0 (pv 0)) da_nil)) da_nil))) da_nil))) da_nil)) (pg_name (i := 1) sc.nd rfl (by first | exact Or.inl rfl | exact Or.inr rfl)) (tg_name (i := 1) (show 1 < 11 from by decide) (by decide)) (dss_cons (ds_set (i := 2) sc.nd rfl (by first | exact Or.inl rfl | exact Or.inr rfl) (de_call D__law_pool (hr.mono (by decide)) (at0 _) rfl (da_cons (de_var 0 (pv 0)) (da_cons (de_var 1 (pv 1)) da_nil))) (by decide))
      (dss_cons (ds_parN (is := [3, 4]) (da_cons (de_newN K_Ledger (by decide) (hr.mono (by decide)) (at0 _) rfl) (da_cons (de_newN K_Ledger (by decide) (hr.mono (by decide)) (at0 _) rfl) da_nil)) rfl (pgs_cons (pg_name (i := 3) sc.nd rfl (by first | exact Or.inl rfl | exact Or.inr rfl)) (pgs_cons (pg_name (i := 4) sc.nd rfl (by first | exact Or.inl rfl | exact Or.inr rfl)) pgs_nil)) (show ∀ i ∈ [3, 4], x_law i = false ∧ i < 11 from by decide))
      (dss_cons (ds_par (i := 5) (j := 6) rfl sc.nd rfl rfl (by decide) rfl rfl (da_cons (de_call0 D__law_book (hr.mono (by decide)) (at0 _) rfl) (da_cons (de_call0 D__law_book (hr.mono (by decide)) (at0 _) rfl) da_nil)) rfl (by decide) (by decide))
      (dss_cons (ds_for hp rfl (di_range1 rfl T.b_range (da_cons (de_call D__law_draw (hr.mono (by decide)) (at0 _) rfl (da_cons (de_var 2 (pv 2)) (da_cons de_int da_nil))) da_nil)) (pg_name (i := 7) sc.nd rfl (by first | exact Or.inl rfl | exact Or.inr rfl)) (tg_name (i := 7) (show 7 < 11 from by decide) (by decide)) (dss_cons (ds_set (i := 8) sc.nd rfl (by first | exact Or.inl rfl | exact Or.inr rfl) (de_bor (de_call D__law_events (hr.mono (by decide)) (at0 _) rfl (da_cons (de_var 2 (pv 2)) (da_cons (de_var 5 (pv 5)) da_nil)))) (by decide))
      (dss_cons (ds_set (i := 9) sc.nd rfl (by first | exact Or.inl rfl | exact Or.inr rfl) (de_ix hk hu (de_var 8 (pv 8)) (de_call D__law_draw (hr.mono (by decide)) (at0 _) rfl (da_cons (de_var 2 (pv 2)) (da_cons (de_callB v_len2 c_len2 rfl T.b_len rfl (da_cons (de_var 8 (pv 8)) da_nil)) da_nil))) fun _ _ => rfl) (by decide))
      (dss_cons (ds_if (dt_cmp (op_neDD hk hu) v_ne (de_call D__law_tell (hr.mono (by decide)) (at0 _) rfl (da_cons (de_var 3 (pv 3)) (da_cons (de_var 9 (pv 9)) da_nil))) (de_call D__law_noted (hr.mono (by decide)) (at0 _) rfl (da_cons (de_var 5 (pv 5)) (da_cons (de_var 9 (pv 9)) da_nil))) (nomark _)) (dss_one (ds_ret de_bl)) dss_nil)
      (dss_cons (ds_expr (de_append hk (de_bor (de_meth0 M_Ledger_kept T.cl_Ledger (hr.mono (by decide)) (at0 _) (de_var 3 (pv 3)))) (da_cons de_non da_nil)))
      (dss_cons (ds_if (dt_bor (dt_cmp (op_neDD hk hu) v_ne (de_call D__law_ledger_shown (hr.mono (by decide)) (at0 _) rfl (da_cons (de_var 3 (pv 3)) da_nil)) (de_call D__law_ledger_due (hr.mono (by decide)) (at0 _) rfl (da_cons (de_var 5 (pv 5)) da_nil)) (nomark _))) (dss_one (ds_ret de_bl)) dss_nil)
      (dss_cons (ds_set (i := 8) sc.nd rfl (by first | exact Or.inl rfl | exact Or.inr rfl) (de_bor (de_call D__law_events (hr.mono (by decide)) (at0 _) rfl (da_cons (de_var 2 (pv 2)) (da_cons (de_var 6 (pv 6)) da_nil)))) (by decide))
      (dss_cons (ds_if (PW.pt (dw_and (dt_cmp (op_inX hk hu) (v_inX false) (de_var 9 (pv 9)) (de_var 8 (pv 8)) (by with_unfolding_all rfl)) (dw_and1 (dt_cmp op_gtDD v_cmp (de_call D__law_draw (hr.mono (by decide)) (at0 _) rfl (da_cons (de_var 2 (pv 2)) (da_cons de_int da_nil))) de_int (nomark _))))) (dss_cons (ds_expr (de_call D__law_tell (hr.mono (by decide)) (at0 _) rfl (da_cons (de_var 4 (pv 4)) (da_cons (de_var 9 (pv 9)) da_nil))))
      (dss_one (ds_expr (de_call D__law_noted (hr.mono (by decide)) (at0 _) rfl (da_cons (de_var 6 (pv 6)) (da_cons (de_var 9 (pv 9)) da_nil)))))) dss_nil)
      (dss_one (ds_if (dt_bor (dt_cmp (op_neDD hk hu) v_ne (de_ownEq E_Ledger (hr.mono (by decide : 1 ≤ 11)) T.nf_Ledger (de_var 3 (pv 3)) (de_var 4 (pv 4)) (nomark _)) (de_cmp (op_eqW hk hu) v_eqW (de_call D__law_what_is_left (hr.mono (by decide)) (at0 _) rfl (da_cons (de_var 5 (pv 5)) da_nil)) (de_call D__law_what_is_left (hr.mono (by decide)) (at0 _) rfl (da_cons (de_var 6 (pv 6)) da_nil)) (nomark _)) (nomark _))) (dss_one (ds_ret de_bl)) dss_nil))))))))))
      (dss_one (ds_if (dt_bor (dt_cmp (op_neDD hk hu) v_ne (de_lc (own := [("odd", 10)]) rfl sc.nd (di_seq hk (de_lst (da_cons (de_var 5 (pv 5)) (da_cons de_non (da_cons de_int da_nil))))) (blkOk_by (own := [("odd", 10)]) (N := N_law) (sc := defScope s_law) (by decide +kernel)) (fun _ _ _ _ _ => (pg_name (i := 10) sc.nd rfl (by first | exact Or.inl rfl | exact Or.inr rfl))) (tg_name (i := 10) (show 10 < 11 from by decide) (by decide)) (fun _ _ _ _ _ => (dts_one (dt_ownEq E_Ledger (hr.mono (by decide : 1 ≤ 11)) T.nf_Ledger (de_var 3 (pv 3)) (de_var 10 (pv 10)) (nomark _)))) (fun _ _ _ _ _ => (de_var 10 (pv 10)))) (de_lst da_nil) (nomark _))) (dss_one (ds_ret de_bl)) dss_nil)))))))
      (dss_one (ds_ret de_bl)))
end K77

set_option Elab.async false
set_option linter.all false
set_option maxRecDepth 100000
set_option maxHeartbeats 0
namespace K77
open PySem PySem.Spec PyProof.Rows L2 DL
def tv (K : PySem.W.Frag) : Tg → Value
  | .ty n => .type n
  | .cls c => .ref (match c with | 0 => He.ga K "Ledger" | _ => 0)
theorem tv_eq {P : Program} {w : World} {K : PySem.W.Frag} (t : Tg) : t.val (kt P w K) = tv K t := by cases t <;> rfl
def d_is_integer : He.DefD := ⟨("is_integer", none), "is_integer", "is_integer", defArgs s_is_integer, defBody s_is_integer, defScope s_is_integer, [], []⟩
def d_is_name : He.DefD := ⟨("is_name", none), "is_name", "is_name", defArgs s_is_name, defBody s_is_name, defScope s_is_name, [], []⟩
def d__law_pool : He.DefD := ⟨("_law_pool", none), "_law_pool", "_law_pool", defArgs s__law_pool, defBody s__law_pool, defScope s__law_pool, [], []⟩
def d__law_draw : He.DefD := ⟨("_law_draw", none), "_law_draw", "_law_draw", defArgs s__law_draw, defBody s__law_draw, defScope s__law_draw, [], []⟩
def d__law_book : He.DefD := ⟨("_law_book", none), "_law_book", "_law_book", defArgs s__law_book, defBody s__law_book, defScope s__law_book, [], []⟩
def d__law_noted : He.DefD := ⟨("_law_noted", none), "_law_noted", "_law_noted", defArgs s__law_noted, defBody s__law_noted, defScope s__law_noted, [], []⟩
def d__law_needed : He.DefD := ⟨("_law_needed", none), "_law_needed", "_law_needed", defArgs s__law_needed, defBody s__law_needed, defScope s__law_needed, [], []⟩
def d__law_what_is_left : He.DefD := ⟨("_law_what_is_left", none), "_law_what_is_left", "_law_what_is_left", defArgs s__law_what_is_left, defBody s__law_what_is_left, defScope s__law_what_is_left, [], []⟩
def d_Ledger___init__ : He.DefD := ⟨("Ledger", some "__init__"), "__init__", "Ledger.__init__", defArgs s_Ledger___init__, defBody s_Ledger___init__, defScope s_Ledger___init__, [], []⟩
def d_Ledger_check_open : He.DefD := ⟨("Ledger", some "check_open"), "check_open", "Ledger.check_open", defArgs s_Ledger_check_open, defBody s_Ledger_check_open, defScope s_Ledger_check_open, [], []⟩
def d_Ledger_kept : He.DefD := ⟨("Ledger", some "kept"), "kept", "Ledger.kept", defArgs s_Ledger_kept, defBody s_Ledger_kept, defScope s_Ledger_kept, [], []⟩
def d_Ledger___eq__ : He.DefD := ⟨("Ledger", some "__eq__"), "__eq__", "Ledger.__eq__", defArgs s_Ledger___eq__, defBody s_Ledger___eq__, defScope s_Ledger___eq__, [], []⟩
def d_check_name : He.DefD := ⟨("check_name", none), "check_name", "check_name", defArgs s_check_name, defBody s_check_name, defScope s_check_name, [], []⟩
def d__law_events : He.DefD := ⟨("_law_events", none), "_law_events", "_law_events", defArgs s__law_events, defBody s__law_events, defScope s__law_events, [], []⟩
def d__law_ledger_due : He.DefD := ⟨("_law_ledger_due", none), "_law_ledger_due", "_law_ledger_due", defArgs s__law_ledger_due, defBody s__law_ledger_due, defScope s__law_ledger_due, [], []⟩
def d_Ledger_check_id : He.DefD := ⟨("Ledger", some "check_id"), "check_id", "Ledger.check_id", defArgs s_Ledger_check_id, defBody s_Ledger_check_id, defScope s_Ledger_check_id, [], []⟩
def d_Ledger_begin : He.DefD := ⟨("Ledger", some "begin"), "begin", "Ledger.begin", defArgs s_Ledger_begin, defBody s_Ledger_begin, defScope s_Ledger_begin, [], []⟩
def d_Ledger_close : He.DefD := ⟨("Ledger", some "close"), "close", "Ledger.close", defArgs s_Ledger_close, defBody s_Ledger_close, defScope s_Ledger_close, [], []⟩
def d_Ledger_check_kept : He.DefD := ⟨("Ledger", some "check_kept"), "check_kept", "Ledger.check_kept", defArgs s_Ledger_check_kept, defBody s_Ledger_check_kept, defScope s_Ledger_check_kept, [], []⟩
def d_Ledger_send : He.DefD := ⟨("Ledger", some "send"), "send", "Ledger.send", defArgs s_Ledger_send, defBody s_Ledger_send, defScope s_Ledger_send, [], []⟩
def d_Ledger_take_copy : He.DefD := ⟨("Ledger", some "take_copy"), "take_copy", "Ledger.take_copy", defArgs s_Ledger_take_copy, defBody s_Ledger_take_copy, defScope s_Ledger_take_copy, [], []⟩
def d_Ledger_arrive : He.DefD := ⟨("Ledger", some "arrive"), "arrive", "Ledger.arrive", defArgs s_Ledger_arrive, defBody s_Ledger_arrive, defScope s_Ledger_arrive, [], []⟩
def d_Ledger_lose : He.DefD := ⟨("Ledger", some "lose"), "lose", "Ledger.lose", defArgs s_Ledger_lose, defBody s_Ledger_lose, defScope s_Ledger_lose, [], []⟩
def d_Ledger_danger : He.DefD := ⟨("Ledger", some "danger"), "danger", "Ledger.danger", defArgs s_Ledger_danger, defBody s_Ledger_danger, defScope s_Ledger_danger, [], []⟩
def d_Ledger_forget : He.DefD := ⟨("Ledger", some "forget"), "forget", "Ledger.forget", defArgs s_Ledger_forget, defBody s_Ledger_forget, defScope s_Ledger_forget, [], []⟩
def d_Ledger_forgettable : He.DefD := ⟨("Ledger", some "forgettable"), "forgettable", "Ledger.forgettable", defArgs s_Ledger_forgettable, defBody s_Ledger_forgettable, defScope s_Ledger_forgettable, [], []⟩
def d__law_tell : He.DefD := ⟨("_law_tell", none), "_law_tell", "_law_tell", defArgs s__law_tell, defBody s__law_tell, defScope s__law_tell, [], []⟩
def d__law_ledger_shown : He.DefD := ⟨("_law_ledger_shown", none), "_law_ledger_shown", "_law_ledger_shown", defArgs s__law_ledger_shown, defBody s__law_ledger_shown, defScope s__law_ledger_shown, [], []⟩
def d_law : He.DefD := ⟨("law", none), "law", "law", defArgs s_law, defBody s_law, defScope s_law, [], []⟩
def fn : List He.DefD := ([d_is_integer, d_is_name, d__law_pool, d__law_draw, d__law_book, d__law_noted, d__law_needed, d__law_what_is_left, d_Ledger___init__, d_Ledger_check_open, d_Ledger_kept, d_Ledger___eq__] : List He.DefD) ++ ([d_check_name, d__law_events, d__law_ledger_due, d_Ledger_check_id, d_Ledger_begin, d_Ledger_close, d_Ledger_check_kept, d_Ledger_send, d_Ledger_take_copy, d_Ledger_arrive, d_Ledger_lose, d_Ledger_danger] : List He.DefD) ++ ([d_Ledger_forget, d_Ledger_forgettable, d__law_tell, d__law_ledger_shown, d_law] : List He.DefD)
def fa : List He.Fa := ([.free "int", .free "isinstance", .free "bool", .free "str", .glo "WORDS", .free "len", .int "MAX_LETTERS" 8, .free "all", .free "abs", .free "dict", .cls "Ledger", .noat "Ledger" "own_ids"] : List He.Fa) ++ ([.noat "Ledger" "own_copies", .noat "Ledger" "own_runs", .free "sorted", .glo "Ledger", .int "MAX_NUMBER" 99, .free "min", .free "max", .free "range", .glo "is_integer", .glo "is_name", .glo "_law_pool", .glo "_law_draw"] : List He.Fa) ++ ([.glo "_law_book", .glo "_law_noted", .glo "_law_needed", .glo "_law_what_is_left", .mkr "Ledger", .meth "Ledger" "check_open", .meth "Ledger" "kept", .meth "Ledger" "__eq__", .glo "check_name", .glo "_law_events", .glo "_law_ledger_due", .meth "Ledger" "check_id"] : List He.Fa) ++ ([.meth "Ledger" "begin", .meth "Ledger" "close", .meth "Ledger" "check_kept", .meth "Ledger" "send", .meth "Ledger" "take_copy", .meth "Ledger" "arrive", .meth "Ledger" "lose", .meth "Ledger" "danger", .meth "Ledger" "forget", .meth "Ledger" "forgettable", .glo "_law_tell", .glo "_law_ledger_shown"] : List He.Fa) ++ ([.glo "law"] : List He.Fa)
def exs (K : PySem.W.Frag) : List Bool := [He.tupB K "WORDS" [.str "store", .str "given", .str "local", .str "job", .str "end", .str "set", .str "take", .str "atomic", .str "repeat", .str "in", .str "send", .str "read"],
  ([.cls 0, .ty "dict", .ty "int", .ty "NoneType"] : List Tg).all fun t => PySem.W.notFirst K (He.ga K "Ledger") (tv K t),
  He.eqO (PySem.W.findIn K (.ref (He.ga K "Ledger")) "__class__") (some (some (.builtin "object.__class__"))) && decide (PySem.W.mroIn K (He.ga K "Ledger") (.type "object") = some true),
  isTab.all fun q => decide (PySem.W.kitOne K (tv K q.1) (tv K q.2.1) = some q.2.2),
  He.eqO (PySem.W.specialIn K (.builtin "object.__class__") "__get__") (some (some (.builtin "getset_descriptor.__get__"))),
  decide (PySem.W.takesIn K (.builtin "object.__class__") = some true),
  noLst K]
def exB (K : PySem.W.Frag) : Bool := (exs K).all id
theorem exAt {K : PySem.W.Frag} (h : exB K = true) (i : Nat) {b : Bool} (e : (exs K)[i]? = some b) : b = true := List.all_eq_true.mp h b (List.mem_of_getElem? e)
theorem nf_of {K : PySem.W.Frag} {C : Addr} {c : Nat} {t : Tg} (h : (([.cls c, .ty "dict", .ty "int", .ty "NoneType"] : List Tg).all fun t => PySem.W.notFirst K C (tv K t)) = true) (ht : nfT c t = true) : PySem.W.notFirst K C (tv K t) = true := by
  unfold nfT at ht
  simp only [Bool.or_eq_true, decide_eq_true_eq] at ht
  exact List.all_eq_true.mp h t (by rcases ht with ((rfl | rfl) | rfl) | rfl <;> simp)
abbrev R : PySem.W.OpenRow := PySem.W.OpenLaw.row PySem.Challenge.rw_wholeback_k77_ledgers_told
abbrev hkX : PySem.W.Hook := He.hookX 5 fa fn [] [] exB
def obX (s : PySem.W.SharedT) : hkX.α := He.obsX 5 fa fn [] [] exB (HandSHeadRun.getT s)
theorem obX_eq (s : PySem.W.SharedT) : obX s = hkX.obs s.abs := He.obsX_eq (HandSHeadRun.getT_eq s)
def loose : List Str := (["__name__", "RetryError", "InvalidName", "InvalidNumber", "UnknownRun", "DuplicateRun", "ClosedRun", "NoCopy", "NotKept", "StillNeeded", "is_integer", "WORDS", "MAX_LETTERS", "is_name", "MAX_NUMBER", "check_name", "Ledger", "_law_pool", "_law_draw", "_law_book", "_law_noted", "_law_needed", "_law_events", "_law_tell", "_law_ledger_shown", "_law_ledger_due", "_law_what_is_left"] : List Str)
theorem run (w : World) : HandSHeadRun.RunEq R (PySem.W.view R.prog [31]) hkX obX 4000 loose w := by
  intro os
  kernel_rfl
theorem isOk {P : Program} {w : World} {h : Heap} {K : PySem.W.Frag} (c : He.SaysX fa fn [] [] exB w h K) : IsOk (kt P w K) isT := by
  refine ⟨fun t u b e => ?_, fun ci u b e => ?_, He.eqO_ok (exAt c.more 4 rfl), of_decide_eq_true (exAt c.more 5 rfl)⟩
  · obtain ⟨q, hq, rfl⟩ := Option.map_eq_some_iff.mp e
    have h1 := List.find?_some hq
    simp only [Bool.and_eq_true, decide_eq_true_eq] at h1
    obtain ⟨rfl, rfl⟩ := h1
    rw [tv_eq, tv_eq]
    exact of_decide_eq_true (List.all_eq_true.mp (exAt c.more 3 rfl) q (List.mem_of_find?_eq_some hq))
  · have hc : ci < 1 := by
      obtain ⟨q, hq, rfl⟩ := Option.map_eq_some_iff.mp e
      have h1 := List.find?_some hq
      simp only [Bool.and_eq_true, decide_eq_true_eq] at h1
      have h2 : (isTab.all fun q => match q.1 with | .cls c => decide (c < 1) | _ => true) = true := by decide +kernel
      have h3 := List.all_eq_true.mp h2 q (List.mem_of_find?_eq_some hq)
      rw [h1.1] at h3
      exact of_decide_eq_true h3
    match ci, hc with
    | 0, _ =>
      obtain ⟨g1, g2⟩ := He.ba (exAt c.more 2 rfl)
      exact ⟨He.cls_ok (c.t.d.fact 10 (f := .cls "Ledger") rfl), He.eqO_ok g1, of_decide_eq_true g2⟩
theorem tx {w : World} {h : Heap} {K : PySem.W.Frag} {mg : Str → Option Value} (X : K.In h) (G : h.Ns mainGlobals mg) (c : He.SaysX fa fn [] [] exB w h K) : Tx K mg := ⟨
  He.free_ok X G (c.t.d.fact 0 (f := .free "int") rfl),
  He.free_ok X G (c.t.d.fact 1 (f := .free "isinstance") rfl),
  He.free_ok X G (c.t.d.fact 2 (f := .free "bool") rfl),
  He.free_ok X G (c.t.d.fact 3 (f := .free "str") rfl),
  ⟨He.glo_ok X G (c.t.d.fact 4 (f := .glo "WORDS") rfl), (He.tupB_ok (vs := [.str "store", .str "given", .str "local", .str "job", .str "end", .str "set", .str "take", .str "atomic", .str "repeat", .str "in", .str "send", .str "read"]) (exAt c.more 0 rfl) fun _ => none).resolve_left (by rintro (h | ⟨_, h⟩) <;> cases h)⟩,
  He.free_ok X G (c.t.d.fact 5 (f := .free "len") rfl),
  He.int_ok X G (c.t.d.fact 6 (f := .int "MAX_LETTERS" 8) rfl),
  He.free_ok X G (c.t.d.fact 7 (f := .free "all") rfl),
  He.free_ok X G (c.t.d.fact 8 (f := .free "abs") rfl),
  He.free_ok X G (c.t.d.fact 9 (f := .free "dict") rfl),
  He.cls_ok (c.t.d.fact 10 (f := .cls "Ledger") rfl),
  He.noat_ok (c.t.d.fact 11 (f := .noat "Ledger" "own_ids") rfl),
  He.noat_ok (c.t.d.fact 12 (f := .noat "Ledger" "own_copies") rfl),
  He.noat_ok (c.t.d.fact 13 (f := .noat "Ledger" "own_runs") rfl),
  He.free_ok X G (c.t.d.fact 14 (f := .free "sorted") rfl),
  He.glo_ok X G (c.t.d.fact 15 (f := .glo "Ledger") rfl),
  He.int_ok X G (c.t.d.fact 16 (f := .int "MAX_NUMBER" 99) rfl),
  He.free_ok X G (c.t.d.fact 17 (f := .free "min") rfl),
  He.free_ok X G (c.t.d.fact 18 (f := .free "max") rfl),
  He.free_ok X G (c.t.d.fact 19 (f := .free "range") rfl),
  fun t ht => by rw [tv_eq]; exact nf_of (exAt c.more 1 rfl) ht, True.intro⟩
theorem facts {P : Program} {w : World} {K : PySem.W.Frag} {h : Heap} {mg : Str → Option Value} {f : Addr} (X : K.In h) (G : h.Ns mainGlobals mg) (hfa : mg ("law" : Str) = some (.ref f)) (c : He.SaysX fa fn [] [] exB w h K) :
    ∃ fd : FuncData, (∀ (s : Shared) (v : Value), BindsTo s fd ⟨[v], []⟩ [("script", v)]) ∧ ∀ base : Heap, K.In base → base.Ns mainGlobals mg → FnOk P w K mg base CX0 12 f fd ["script"] (spD (kt P w K) f_law) := by
  have T : Tx K mg := tx X G c
  have O : IsOk (kt P w K) isT := isOk c
  obtain ⟨fd_is_integer, F_is_integer⟩ := c.t.d.def_ 0 (d := d_is_integer) rfl
  obtain ⟨fd_is_name, F_is_name⟩ := c.t.d.def_ 1 (d := d_is_name) rfl
  obtain ⟨fd__law_pool, F__law_pool⟩ := c.t.d.def_ 2 (d := d__law_pool) rfl
  obtain ⟨fd__law_draw, F__law_draw⟩ := c.t.d.def_ 3 (d := d__law_draw) rfl
  obtain ⟨fd__law_book, F__law_book⟩ := c.t.d.def_ 4 (d := d__law_book) rfl
  obtain ⟨fd__law_noted, F__law_noted⟩ := c.t.d.def_ 5 (d := d__law_noted) rfl
  obtain ⟨fd__law_needed, F__law_needed⟩ := c.t.d.def_ 6 (d := d__law_needed) rfl
  obtain ⟨fd__law_what_is_left, F__law_what_is_left⟩ := c.t.d.def_ 7 (d := d__law_what_is_left) rfl
  obtain ⟨fd_Ledger___init__, F_Ledger___init__⟩ := c.t.d.def_ 8 (d := d_Ledger___init__) rfl
  obtain ⟨fd_Ledger_check_open, F_Ledger_check_open⟩ := c.t.d.def_ 9 (d := d_Ledger_check_open) rfl
  obtain ⟨fd_Ledger_kept, F_Ledger_kept⟩ := c.t.d.def_ 10 (d := d_Ledger_kept) rfl
  obtain ⟨fd_Ledger___eq__, F_Ledger___eq__⟩ := c.t.d.def_ 11 (d := d_Ledger___eq__) rfl
  obtain ⟨fd_check_name, F_check_name⟩ := c.t.d.def_ 12 (d := d_check_name) rfl
  obtain ⟨fd__law_events, F__law_events⟩ := c.t.d.def_ 13 (d := d__law_events) rfl
  obtain ⟨fd__law_ledger_due, F__law_ledger_due⟩ := c.t.d.def_ 14 (d := d__law_ledger_due) rfl
  obtain ⟨fd_Ledger_check_id, F_Ledger_check_id⟩ := c.t.d.def_ 15 (d := d_Ledger_check_id) rfl
  obtain ⟨fd_Ledger_begin, F_Ledger_begin⟩ := c.t.d.def_ 16 (d := d_Ledger_begin) rfl
  obtain ⟨fd_Ledger_close, F_Ledger_close⟩ := c.t.d.def_ 17 (d := d_Ledger_close) rfl
  obtain ⟨fd_Ledger_check_kept, F_Ledger_check_kept⟩ := c.t.d.def_ 18 (d := d_Ledger_check_kept) rfl
  obtain ⟨fd_Ledger_send, F_Ledger_send⟩ := c.t.d.def_ 19 (d := d_Ledger_send) rfl
  obtain ⟨fd_Ledger_take_copy, F_Ledger_take_copy⟩ := c.t.d.def_ 20 (d := d_Ledger_take_copy) rfl
  obtain ⟨fd_Ledger_arrive, F_Ledger_arrive⟩ := c.t.d.def_ 21 (d := d_Ledger_arrive) rfl
  obtain ⟨fd_Ledger_lose, F_Ledger_lose⟩ := c.t.d.def_ 22 (d := d_Ledger_lose) rfl
  obtain ⟨fd_Ledger_danger, F_Ledger_danger⟩ := c.t.d.def_ 23 (d := d_Ledger_danger) rfl
  obtain ⟨fd_Ledger_forget, F_Ledger_forget⟩ := c.t.d.def_ 24 (d := d_Ledger_forget) rfl
  obtain ⟨fd_Ledger_forgettable, F_Ledger_forgettable⟩ := c.t.d.def_ 25 (d := d_Ledger_forgettable) rfl
  obtain ⟨fd__law_tell, F__law_tell⟩ := c.t.d.def_ 26 (d := d__law_tell) rfl
  obtain ⟨fd__law_ledger_shown, F__law_ledger_shown⟩ := c.t.d.def_ 27 (d := d__law_ledger_shown) rfl
  obtain ⟨fd_law, F_law⟩ := c.t.d.def_ 28 (d := d_law) rfl
  have e := hfa.symm.trans (He.glo_ok X G (c.t.d.fact 48 (f := .glo "law") rfl))
  cases e
  have b := FunD.bindsA (ps := ["script"]) F_law fun _ _ _ _ _ _ us hl => match us, hl with | [_], _ => rfl
  refine ⟨fd_law, fun s v => b s [v] rfl, fun base _ _ => ?_⟩
  have D_is_integer : DefOk P w K mg base CX0 1 (kt P w K) "is_integer" f_is_integer := ⟨⟨_, _, _, He.glo_ok X G (c.t.d.fact 20 (f := .glo "is_integer") rfl), F_is_integer.kp, (FunD.bindsN (ps := ["candidate"]) F_is_integer fun _ _ _ _ _ _ us hl => match us, hl with | [_], _ => rfl), ok_is_integer T O  F_is_integer⟩⟩
  have D_is_name : DefOk P w K mg base CX0 1 (kt P w K) "is_name" f_is_name := ⟨⟨_, _, _, He.glo_ok X G (c.t.d.fact 21 (f := .glo "is_name") rfl), F_is_name.kp, (FunD.bindsN (ps := ["candidate"]) F_is_name fun _ _ _ _ _ _ us hl => match us, hl with | [_], _ => rfl), ok_is_name T O  F_is_name⟩⟩
  have D__law_pool : DefOk P w K mg base CX0 1 (kt P w K) "_law_pool" f__law_pool := ⟨⟨_, _, _, He.glo_ok X G (c.t.d.fact 22 (f := .glo "_law_pool") rfl), F__law_pool.kp, (FunD.bindsN (ps := ["script", "k"]) F__law_pool fun _ _ _ _ _ _ us hl => match us, hl with | [_, _], _ => rfl), ok__law_pool T O  F__law_pool⟩⟩
  have D__law_draw : DefOk P w K mg base CX0 1 (kt P w K) "_law_draw" f__law_draw := ⟨⟨_, _, _, He.glo_ok X G (c.t.d.fact 23 (f := .glo "_law_draw") rfl), F__law_draw.kp, (FunD.bindsN (ps := ["pool", "count"]) F__law_draw fun _ _ _ _ _ _ us hl => match us, hl with | [_, _], _ => rfl), ok__law_draw T O  F__law_draw⟩⟩
  have D__law_book : DefOk P w K mg base CX0 1 (kt P w K) "_law_book" f__law_book := ⟨⟨_, _, _, He.glo_ok X G (c.t.d.fact 24 (f := .glo "_law_book") rfl), F__law_book.kp, (FunD.bindsN (ps := []) F__law_book fun _ _ _ _ _ _ us hl => match us, hl with | [], _ => rfl), ok__law_book T O  F__law_book⟩⟩
  have D__law_noted : DefOk P w K mg base CX0 1 (kt P w K) "_law_noted" f__law_noted := ⟨⟨_, _, _, He.glo_ok X G (c.t.d.fact 25 (f := .glo "_law_noted") rfl), F__law_noted.kp, (FunD.bindsN (ps := ["book", "event"]) F__law_noted fun _ _ _ _ _ _ us hl => match us, hl with | [_, _], _ => rfl), ok__law_noted T O  F__law_noted⟩⟩
  have D__law_needed : DefOk P w K mg base CX0 1 (kt P w K) "_law_needed" f__law_needed := ⟨⟨_, _, _, He.glo_ok X G (c.t.d.fact 26 (f := .glo "_law_needed") rfl), F__law_needed.kp, (FunD.bindsN (ps := ["book", "here"]) F__law_needed fun _ _ _ _ _ _ us hl => match us, hl with | [_, _], _ => rfl), ok__law_needed T O  F__law_needed⟩⟩
  have D__law_what_is_left : DefOk P w K mg base CX0 1 (kt P w K) "_law_what_is_left" f__law_what_is_left := ⟨⟨_, _, _, He.glo_ok X G (c.t.d.fact 27 (f := .glo "_law_what_is_left") rfl), F__law_what_is_left.kp, (FunD.bindsN (ps := ["book"]) F__law_what_is_left fun _ _ _ _ _ _ us hl => match us, hl with | [_], _ => rfl), ok__law_what_is_left T O  F__law_what_is_left⟩⟩
  have K_Ledger : NewOk P w K mg base CX0 1 (kt P w K) 0 "Ledger" ["own_runs", "own_copies", "own_ids"] := ⟨⟨_, _, _, T.c_Ledger, He.mkr_ok (c.t.d.fact 28 (f := .mkr "Ledger") rfl), (FunD.bindsN (ps := ["self"]) F_Ledger___init__ fun _ _ _ _ _ _ us hl => match us, hl with | [_], _ => rfl), ok_Ledger___init__ T  F_Ledger___init__⟩⟩
  have M_Ledger_check_open : MethOk P w K mg base CX0 1 (kt P w K) 0 "check_open" f_Ledger_check_open := ⟨⟨_, _, _, He.meth_ok (c.t.d.fact 29 (f := .meth "Ledger" "check_open") rfl), (FunD.bindsN (ps := ["self", "run"]) F_Ledger_check_open fun _ _ _ _ _ _ us hl => match us, hl with | [_, _], _ => rfl), ok_Ledger_check_open T O  F_Ledger_check_open⟩⟩
  have M_Ledger_kept : MethOk P w K mg base CX0 1 (kt P w K) 0 "kept" f_Ledger_kept := ⟨⟨_, _, _, He.meth_ok (c.t.d.fact 30 (f := .meth "Ledger" "kept") rfl), (FunD.bindsN (ps := ["self"]) F_Ledger_kept fun _ _ _ _ _ _ us hl => match us, hl with | [_], _ => rfl), ok_Ledger_kept T O  F_Ledger_kept⟩⟩
  have M_Ledger___eq__ : MethOk P w K mg base CX0 1 (kt P w K) 0 "__eq__" f_Ledger___eq__ := ⟨⟨_, _, _, He.meth_ok (c.t.d.fact 31 (f := .meth "Ledger" "__eq__") rfl), (FunD.bindsN (ps := ["self", "other"]) F_Ledger___eq__ fun _ _ _ _ _ _ us hl => match us, hl with | [_, _], _ => rfl), ok_Ledger___eq__ T O  F_Ledger___eq__⟩⟩
  have E_Ledger : EqOk P w K mg base 1 (kt P w K) 0 f_Ledger___eq__ := ⟨⟨_, _, _, (He.meth_ok (c.t.d.fact 31 (f := .meth "Ledger" "__eq__") rfl)).at_, (He.meth_ok (c.t.d.fact 31 (f := .meth "Ledger" "__eq__") rfl)).fn, (FunD.bindsN (ps := ["self", "other"]) F_Ledger___eq__ fun _ _ _ _ _ _ us hl => match us, hl with | [_, _], _ => rfl), ok_Ledger___eq__ T O  F_Ledger___eq__⟩⟩
  have D_check_name : DefOk P w K mg base CX0 2 (kt P w K) "check_name" f_check_name := ⟨⟨_, _, _, He.glo_ok X G (c.t.d.fact 32 (f := .glo "check_name") rfl), F_check_name.kp, (FunD.bindsN (ps := ["run"]) F_check_name fun _ _ _ _ _ _ us hl => match us, hl with | [_], _ => rfl), ok_check_name T O D_is_name F_check_name⟩⟩
  have D__law_events : DefOk P w K mg base CX0 2 (kt P w K) "_law_events" f__law_events := ⟨⟨_, _, _, He.glo_ok X G (c.t.d.fact 33 (f := .glo "_law_events") rfl), F__law_events.kp, (FunD.bindsN (ps := ["pool", "book"]) F__law_events fun _ _ _ _ _ _ us hl => match us, hl with | [_, _], _ => rfl), ok__law_events T O D__law_needed F__law_events⟩⟩
  have D__law_ledger_due : DefOk P w K mg base CX0 2 (kt P w K) "_law_ledger_due" f__law_ledger_due := ⟨⟨_, _, _, He.glo_ok X G (c.t.d.fact 34 (f := .glo "_law_ledger_due") rfl), F__law_ledger_due.kp, (FunD.bindsN (ps := ["book"]) F__law_ledger_due fun _ _ _ _ _ _ us hl => match us, hl with | [_], _ => rfl), ok__law_ledger_due T O D__law_needed F__law_ledger_due⟩⟩
  have M_Ledger_check_id : MethOk P w K mg base CX0 3 (kt P w K) 0 "check_id" f_Ledger_check_id := ⟨⟨_, _, _, He.meth_ok (c.t.d.fact 35 (f := .meth "Ledger" "check_id") rfl), (FunD.bindsN (ps := ["self", "run", "number"]) F_Ledger_check_id fun _ _ _ _ _ _ us hl => match us, hl with | [_, _, _], _ => rfl), ok_Ledger_check_id T O D_check_name D_is_integer F_Ledger_check_id⟩⟩
  have M_Ledger_begin : MethOk P w K mg base CX0 3 (kt P w K) 0 "begin" f_Ledger_begin := ⟨⟨_, _, _, He.meth_ok (c.t.d.fact 36 (f := .meth "Ledger" "begin") rfl), (FunD.bindsN (ps := ["self", "run"]) F_Ledger_begin fun _ _ _ _ _ _ us hl => match us, hl with | [_, _], _ => rfl), ok_Ledger_begin T O D_check_name F_Ledger_begin⟩⟩
  have M_Ledger_close : MethOk P w K mg base CX0 3 (kt P w K) 0 "close" f_Ledger_close := ⟨⟨_, _, _, He.meth_ok (c.t.d.fact 37 (f := .meth "Ledger" "close") rfl), (FunD.bindsN (ps := ["self", "run"]) F_Ledger_close fun _ _ _ _ _ _ us hl => match us, hl with | [_, _], _ => rfl), ok_Ledger_close T O D_check_name M_Ledger_check_open F_Ledger_close⟩⟩
  have M_Ledger_check_kept : MethOk P w K mg base CX0 5 (kt P w K) 0 "check_kept" f_Ledger_check_kept := ⟨⟨_, _, _, He.meth_ok (c.t.d.fact 38 (f := .meth "Ledger" "check_kept") rfl), (FunD.bindsN (ps := ["self", "run", "number"]) F_Ledger_check_kept fun _ _ _ _ _ _ us hl => match us, hl with | [_, _, _], _ => rfl), ok_Ledger_check_kept T O M_Ledger_check_id F_Ledger_check_kept⟩⟩
  have M_Ledger_send : MethOk P w K mg base CX0 5 (kt P w K) 0 "send" f_Ledger_send := ⟨⟨_, _, _, He.meth_ok (c.t.d.fact 39 (f := .meth "Ledger" "send") rfl), (FunD.bindsN (ps := ["self", "run", "number"]) F_Ledger_send fun _ _ _ _ _ _ us hl => match us, hl with | [_, _, _], _ => rfl), ok_Ledger_send T O M_Ledger_check_id M_Ledger_check_open F_Ledger_send⟩⟩
  have M_Ledger_take_copy : MethOk P w K mg base CX0 5 (kt P w K) 0 "take_copy" f_Ledger_take_copy := ⟨⟨_, _, _, He.meth_ok (c.t.d.fact 40 (f := .meth "Ledger" "take_copy") rfl), (FunD.bindsN (ps := ["self", "run", "number"]) F_Ledger_take_copy fun _ _ _ _ _ _ us hl => match us, hl with | [_, _, _], _ => rfl), ok_Ledger_take_copy T O M_Ledger_check_id F_Ledger_take_copy⟩⟩
  have M_Ledger_arrive : MethOk P w K mg base CX0 7 (kt P w K) 0 "arrive" f_Ledger_arrive := ⟨⟨_, _, _, He.meth_ok (c.t.d.fact 41 (f := .meth "Ledger" "arrive") rfl), (FunD.bindsN (ps := ["self", "run", "number"]) F_Ledger_arrive fun _ _ _ _ _ _ us hl => match us, hl with | [_, _, _], _ => rfl), ok_Ledger_arrive T O M_Ledger_take_copy F_Ledger_arrive⟩⟩
  have M_Ledger_lose : MethOk P w K mg base CX0 7 (kt P w K) 0 "lose" f_Ledger_lose := ⟨⟨_, _, _, He.meth_ok (c.t.d.fact 42 (f := .meth "Ledger" "lose") rfl), (FunD.bindsN (ps := ["self", "run", "number"]) F_Ledger_lose fun _ _ _ _ _ _ us hl => match us, hl with | [_, _, _], _ => rfl), ok_Ledger_lose T O M_Ledger_take_copy F_Ledger_lose⟩⟩
  have M_Ledger_danger : MethOk P w K mg base CX0 7 (kt P w K) 0 "danger" f_Ledger_danger := ⟨⟨_, _, _, He.meth_ok (c.t.d.fact 43 (f := .meth "Ledger" "danger") rfl), (FunD.bindsN (ps := ["self", "run", "number"]) F_Ledger_danger fun _ _ _ _ _ _ us hl => match us, hl with | [_, _, _], _ => rfl), ok_Ledger_danger T O M_Ledger_check_kept F_Ledger_danger⟩⟩
  have M_Ledger_forget : MethOk P w K mg base CX0 9 (kt P w K) 0 "forget" f_Ledger_forget := ⟨⟨_, _, _, He.meth_ok (c.t.d.fact 44 (f := .meth "Ledger" "forget") rfl), (FunD.bindsN (ps := ["self", "run", "number"]) F_Ledger_forget fun _ _ _ _ _ _ us hl => match us, hl with | [_, _, _], _ => rfl), ok_Ledger_forget T O M_Ledger_check_kept M_Ledger_danger F_Ledger_forget⟩⟩
  have M_Ledger_forgettable : MethOk P w K mg base CX0 9 (kt P w K) 0 "forgettable" f_Ledger_forgettable := ⟨⟨_, _, _, He.meth_ok (c.t.d.fact 45 (f := .meth "Ledger" "forgettable") rfl), (FunD.bindsN (ps := ["self"]) F_Ledger_forgettable fun _ _ _ _ _ _ us hl => match us, hl with | [_], _ => rfl), ok_Ledger_forgettable T O M_Ledger_kept M_Ledger_danger F_Ledger_forgettable⟩⟩
  have D__law_tell : DefOk P w K mg base CX0 11 (kt P w K) "_law_tell" f__law_tell := ⟨⟨_, _, _, He.glo_ok X G (c.t.d.fact 46 (f := .glo "_law_tell") rfl), F__law_tell.kp, (FunD.bindsN (ps := ["ledger", "event"]) F__law_tell fun _ _ _ _ _ _ us hl => match us, hl with | [_, _], _ => rfl), ok__law_tell T O M_Ledger_begin M_Ledger_close M_Ledger_send M_Ledger_arrive M_Ledger_lose M_Ledger_forget F__law_tell⟩⟩
  have D__law_ledger_shown : DefOk P w K mg base CX0 11 (kt P w K) "_law_ledger_shown" f__law_ledger_shown := ⟨⟨_, _, _, He.glo_ok X G (c.t.d.fact 47 (f := .glo "_law_ledger_shown") rfl), F__law_ledger_shown.kp, (FunD.bindsN (ps := ["ledger"]) F__law_ledger_shown fun _ _ _ _ _ _ us hl => match us, hl with | [_], _ => rfl), ok__law_ledger_shown T O M_Ledger_danger M_Ledger_kept M_Ledger_forgettable F__law_ledger_shown⟩⟩
  exact ok_law T O D__law_pool K_Ledger D__law_book D__law_draw D__law_events D__law_tell D__law_noted M_Ledger_kept D__law_ledger_shown D__law_ledger_due E_Ledger D__law_what_is_left F_law
end K77

set_option Elab.async false
set_option linter.all false
set_option maxRecDepth 100000
namespace K77
open PySem L2 DL
theorem f_draw (p q c : Int) (hc : 0 < c) (hb : c.natAbs.log2 < 9000) : ∃ p' q' d : Int, f__law_draw [.lst [.int p, .int q], .fr (.int c)] = .ret (.fr (.int d)) [.lst [.int p', .int q'], .fr (.int c)] ∧ 0 ≤ d ∧ d < c := by
  by_cases h : 0 < p
  · refine ⟨p / c, q, p % c, ?_, Int.emod_nonneg _ (by omega), Int.emod_lt_of_pos _ hc⟩
    unfold f__law_draw
    simp [b__law_draw, h, hc, hb, setG2, setG, ixN, x__law_draw]
  · have h1 := Int.emod_nonneg (q * 48271 + 11) (show (2147483647 : Int) ≠ 0 by decide)
    have h2 := Int.emod_lt_of_pos (q * 48271 + 11) (show (0 : Int) < 2147483647 by decide)
    have m1 : mulOk q 48271 = true := by
      unfold mulOk
      rw [show decide ((48271 : Int) < 2 ^ 64) = true by decide, show decide (-(2 ^ 64) < (48271 : Int)) = true by decide]
      simp
    have m2 : mulOk ((q * 48271 + 11) % 2147483647) ((q * 48271 + 11) % 2147483647) = true := by
      unfold mulOk
      rw [show decide ((q * 48271 + 11) % 2147483647 < 2 ^ 64) = true from decide_eq_true (by omega), show decide (-(2 ^ 64) < (q * 48271 + 11) % 2147483647) = true from decide_eq_true (by omega)]
      simp
    refine ⟨p, (q * 48271 + 11) % 2147483647, (q * 48271 + 11) % 2147483647 * ((q * 48271 + 11) % 2147483647) % 2147483629 / 64 % c, ?_, Int.emod_nonneg _ (by omega), Int.emod_lt_of_pos _ hc⟩
    unfold f__law_draw
    simp [b__law_draw, h, hc, setG2, setG, ixN, x__law_draw, mul2D, mulD, m1, m2, show Nat.log2 64 < 9000 by decide +kernel]
theorem mulOk_r {i j : Int} (h1 : -(2 ^ 64) < j) (h2 : j < 2 ^ 64) : mulOk i j = true := by
  unfold mulOk
  rw [show decide (j < 2 ^ 64) = true from decide_eq_true h2, show decide (-(2 ^ 64) < j) = true from decide_eq_true h1]
  simp
theorem pow18 : powD (.int 10) (.int 18) = some (.fr (.int 1000000000000000000)) := by
  show (if (0 : Int) ≤ 18 ∧ (18 : Int) ≤ 1000000 ∧ (10 : Int).natAbs < 2 ^ 64 then some (T.fr (D.int ((10 : Int) ^ (18 : Int).toNat))) else none) = _
  rw [if_pos (by decide +kernel)]
  exact congrArg (fun z => some (T.fr (.int z))) (by decide +kernel)
theorem f_pool (ns : List Int) (k : Nat) (hk : k < 5) : ∃ p q : Int, f__law_pool [.fr (.scr (ns.map D.int)), .fr (.int k)] = .ret (.lst [.int p, .int q]) [.fr (.scr (ns.map D.int)), .fr (.int k)] := by
  have m1 : mulOk 7919 (k : Int) = true := mulOk_r (by omega) (by omega)
  have m2 : ∀ z : Int, mulOk z 48271 = true := fun z => mulOk_r (by decide) (by decide)
  have m3 : ∀ (z : Int) (b : Prop) [Decidable b], mulOk z (if b then 1 else 0) = true := fun z b _ => mulOk_r (by split <;> decide) (by split <;> decide)
  by_cases h : (k : Int) < ns.length
  · obtain ⟨x, hx, hm⟩ := atI_lt (xs := ns.map D.int) (i := k) (by omega) (by simpa using h)
    obtain ⟨z, _, rfl⟩ := List.mem_map.mp hm
    unfold f__law_pool
    simp [b__law_pool, x__law_pool, h, hx, absD, intD, pow18, mul2D, mulD, m1, m2, m3, len2D, lenD, itemsD]
  · obtain ⟨z, hz⟩ : ∃ z : Int, 0 = z := ⟨_, rfl⟩
    unfold f__law_pool b__law_pool
    rw [hz]
    simp [x__law_pool, h, absD, intD, pow18, mul2D, mulD, m1, m2, m3, len2D, lenD, itemsD]
end K77

set_option Elab.async false
set_option linter.all false
set_option maxRecDepth 100000
namespace K77
open PySem L2 DL
abbrev SK := Str × Int
def kS (s : Str) : Kx := .k (.inr s)
def kP (p : SK) : Kx := .t [.inr p.1, .inl p.2]
theorem kS_inj : ∀ a b, kS a = kS b → a = b := fun a b h => by unfold kS at h; injection h with h; injection h
theorem kP_inj : ∀ a b, kP a = kP b → a = b := fun ⟨a, i⟩ ⟨b, j⟩ h => by
  unfold kP at h
  injection h with h
  injection h with h1 h2
  injection h2 with h2 _
  injection h1 with h1
  injection h2 with h2
  simp only at h1 h2
  rw [h1, h2]
def rk (l : List (Str × Bool)) : List Kx := l.map fun p => kS p.1
def rv (l : List (Str × Bool)) : List D := l.map fun p => .bl p.2
def ck (l : List (SK × Int)) : List Kx := l.map fun p => kP p.1
def cv (l : List (SK × Int)) : List D := l.map fun p => .int p.2
def ik (l : List (SK × Unit)) : List Kx := l.map fun p => kP p.1
def iv (l : List (SK × Unit)) : List D := l.map fun p => .bl true
section
variable {r : List (Str × Bool)} {c : List (SK × Int)} {i : List (SK × Unit)} {s : Str} {n z : Int} {b : Bool}
@[simp] theorem rk_nil : rk [] = [] := rfl
@[simp] theorem rv_nil : rv [] = [] := rfl
@[simp] theorem ck_nil : ck [] = [] := rfl
@[simp] theorem cv_nil : cv [] = [] := rfl
@[simp] theorem ik_nil : ik [] = [] := rfl
@[simp] theorem iv_nil : iv [] = [] := rfl
@[simp] theorem rv_len : (rv r).length = r.length := by simp [rv]
@[simp] theorem cv_len : (cv c).length = c.length := by simp [cv]
@[simp] theorem iv_len : (iv i).length = i.length := by simp [iv]
@[simp] theorem at_r : atX (rk r) (rv r) (.k (.inr s)) = (lk r s).map .bl := at_enc kS_inj
@[simp] theorem at_c : atX (ck c) (cv c) (.t [.inr s, .inl n]) = (lk c (s, n)).map .int := at_enc (k := (s, n)) kP_inj
@[simp] theorem at_i : atX (ik i) (iv i) (.t [.inr s, .inl n]) = (lk i (s, n)).map fun _ => .bl true := at_enc (k := (s, n)) (vf := fun _ => D.bl true) kP_inj
theorem rk_K : (rk r).all Kx.isK = true := by simp [rk, kS, Kx.isK]
theorem ck_T : (ck c).all Kx.isT = true := by simp [ck, kP, Kx.isT]
theorem ik_T : (ik i).all Kx.isT = true := by simp [ik, kP, Kx.isT]
@[simp] theorem kind_r : kindX (rk r) (.k (.inr s)) = true := by simp [kindX, kinds, rk_K]
@[simp] theorem kind_c {k : List Key} : kindX (ck c) (.t k) = true := by
  unfold kindX kinds
  rw [ck_T]
  cases (ck c).isEmpty <;> rfl
@[simp] theorem kind_i {k : List Key} : kindX (ik i) (.t k) = true := by
  unfold kindX kinds
  rw [ik_T]
  cases (ik i).isEmpty <;> rfl
@[simp] theorem ind_dct {neg : Bool} {x : D} {ks : List Kx} {vs : List D} : indD neg x (.dct ks vs) = (keyX x).bind fun k => if kindX ks k = true then some (.fr (.bl ((atX ks vs k).isSome != neg))) else none := rfl
@[simp] theorem get_dct {x : D} {ks : List Kx} {vs : List D} {t : T} : getD2 (.dct ks vs) x t = (keyX x).bind fun k => if kindX ks k = false then none else match atX ks vs k with
    | some d => some (.fr d)
    | none => match t with
      | .fr d => some (.fr d)
      | _ => none := rfl
theorem set_r (hn : nd r) (hl : r.length < 16777216) : setG2 (.dct (rk r) (rv r)) [.bl b, .str s] = some (.dct (rk (put r s b)) (rv (put r s b)), .non) := by
  have e : putX (rk r) (rv r) (.k (.inr s)) (.bl b) = (rk (put r s b), rv (put r s b)) := put_enc (k := s) (v := b) (vf := fun b => D.bl b) kS_inj hn
  have e2 : setG (.dct (rk r) (rv r)) [.bl b, .str s] = some (.dct (rk (put r s b)) (rv (put r s b)), .non) := by
    show (if (rv r).length < sizeLine ∧ (rk r).all Kx.isK = true then some (T.dct (putX (rk r) (rv r) (.k (.inr s)) (.bl b)).1 (putX (rk r) (rv r) (.k (.inr s)) (.bl b)).2, D.non) else none) = _
    rw [if_pos ⟨by rw [rv_len]; exact hl, rk_K⟩, e]
  unfold setG2
  rw [e2]
theorem set_t {ks : List Kx} {vs : List D} {d : D} (hT : ks.all Kx.isT = true) (hl : vs.length < 16777216) (hv : ks.length = vs.length) : setG2 (.dct ks vs) [d, .tup [.str s, .int n]] = some (.dct (putX ks vs (.t [.inr s, .inl n]) d).1 (putX ks vs (.t [.inr s, .inl n]) d).2, .non) := by
  have e2 : setG (.dct ks vs) [d, .tup [.str s, .int n]] = if vs.length < sizeLine ∧ ks ≠ [] ∧ ks.all Kx.isT = true then some (T.dct (putX ks vs (.t [.inr s, .inl n]) d).1 (putX ks vs (.t [.inr s, .inl n]) d).2, D.non) else none := rfl
  unfold setG2
  rw [e2]
  cases ks with
  | nil =>
    cases vs with
    | nil =>
      rw [if_neg (by simp)]
      rfl
    | cons v vs => simp at hv
  | cons k ks => rw [if_pos ⟨hl, by simp, hT⟩]
theorem set_c (hn : nd c) (hl : c.length < 16777216) : setG2 (.dct (ck c) (cv c)) [.int z, .tup [.str s, .int n]] = some (.dct (ck (put c (s, n) z)) (cv (put c (s, n) z)), .non) := by
  have e : putX (ck c) (cv c) (.t [.inr s, .inl n]) (.int z) = (ck (put c (s, n) z), cv (put c (s, n) z)) := put_enc (k := (s, n)) (v := z) (vf := fun b => D.int b) kP_inj hn
  rw [set_t ck_T (by rw [cv_len]; exact hl) (by simp [ck, cv]), e]
theorem set_i (hn : nd i) (hl : i.length < 16777216) : setG2 (.dct (ik i) (iv i)) [.bl true, .tup [.str s, .int n]] = some (.dct (ik (put i (s, n) ())) (iv (put i (s, n) ())), .non) := by
  have e : putX (ik i) (iv i) (.t [.inr s, .inl n]) (.bl true) = (ik (put i (s, n) ()), iv (put i (s, n) ())) := put_enc (k := (s, n)) (v := ()) (vf := fun _ => D.bl true) kP_inj hn
  rw [set_t ik_T (by rw [iv_len]; exact hl) (by simp [ik, iv]), e]
@[simp] theorem pop_c : dpop1G (.dct (ck c) (cv c)) [.tup [.str s, .int n]] = (lk c (s, n)).map fun v => (.dct (ck (del c (s, n))) (cv (del c (s, n))), .int v) := by
  have e : dropX (ck c) (cv c) (.t [.inr s, .inl n]) = (ck (del c (s, n)), cv (del c (s, n))) := drop_enc (k := (s, n)) (vf := fun b => D.int b) kP_inj
  show ((atX (ck c) (cv c) (.t [.inr s, .inl n])).map fun d => (T.dct (dropX (ck c) (cv c) (.t [.inr s, .inl n])).1 (dropX (ck c) (cv c) (.t [.inr s, .inl n])).2, d)) = _
  rw [at_c, e]
  cases lk c (s, n) <;> rfl
@[simp] theorem pop_i : dpop1G (.dct (ik i) (iv i)) [.tup [.str s, .int n]] = (lk i (s, n)).map fun v => (.dct (ik (del i (s, n))) (iv (del i (s, n))), .bl true) := by
  have e : dropX (ik i) (iv i) (.t [.inr s, .inl n]) = (ik (del i (s, n)), iv (del i (s, n))) := drop_enc (k := (s, n)) (vf := fun _ => D.bl true) kP_inj
  show ((atX (ik i) (iv i) (.t [.inr s, .inl n])).map fun d => (T.dct (dropX (ik i) (iv i) (.t [.inr s, .inl n])).1 (dropX (ik i) (iv i) (.t [.inr s, .inl n])).2, d)) = _
  rw [at_i, e]
  cases lk i (s, n) <;> rfl
end
theorem allO_one {a b : Option Bool} {r : List (Option Bool)} : allO (none :: r) = none := rfl
def bq (a b : Bool) : Bool := a == b
def zq (a b : Int) : Bool := a == b
def uq (_ _ : Unit) : Bool := true
theorem eqU_r (a b : List (Str × Bool)) : eqU (.dct (rk a) (rv a)) (.dct (rk b) (rv b)) = some (same bq a b) := by
  show (if ((rk a).all Kx.isK = true ∧ (rk b).all Kx.isK = true) ∨ ((rk a).all Kx.isT = true ∧ (rk b).all Kx.isT = true) then eqP1 30 (rk a) (rv a) (rk b) (rv b) else none) = _
  rw [if_pos (.inl ⟨rk_K, rk_K⟩)]
  exact eqP_enc kS_inj (vf := fun b => D.bl b) fun _ _ => rfl
theorem eqU_c (a b : List (SK × Int)) : eqU (.dct (ck a) (cv a)) (.dct (ck b) (cv b)) = some (same zq a b) := by
  show (if ((ck a).all Kx.isK = true ∧ (ck b).all Kx.isK = true) ∨ ((ck a).all Kx.isT = true ∧ (ck b).all Kx.isT = true) then eqP1 30 (ck a) (cv a) (ck b) (cv b) else none) = _
  rw [if_pos (.inr ⟨ck_T, ck_T⟩)]
  exact eqP_enc kP_inj (vf := fun b => D.int b) fun _ _ => rfl
theorem eqU_i (a b : List (SK × Unit)) : eqU (.dct (ik a) (iv a)) (.dct (ik b) (iv b)) = some (same uq a b) := by
  show (if ((ik a).all Kx.isK = true ∧ (ik b).all Kx.isK = true) ∨ ((ik a).all Kx.isT = true ∧ (ik b).all Kx.isT = true) then eqP1 30 (ik a) (iv a) (ik b) (iv b) else none) = _
  rw [if_pos (.inr ⟨ik_T, ik_T⟩)]
  exact eqP_enc kP_inj (vf := fun _ => D.bl true) fun _ _ => rfl
theorem eqF_dct {n : Nat} {a b : List Kx} {c d : List D} : eqF n (.dct a c) (.dct b d) = none := by cases n <;> rfl
theorem eqW_dct {a b : List Kx} {c d : List D} : eqW (.dct a c) (.dct b d) = eqU (.dct a c) (.dct b d) := by
  unfold eqW
  rw [eqF_dct]
@[simp] theorem eqD_r (a b : List (Str × Bool)) : eqDW (.dct (rk a) (rv a)) (.dct (rk b) (rv b)) = some (.fr (.bl (same bq a b))) := by
  unfold eqDW
  rw [eqW_dct, eqU_r]
  rfl
@[simp] theorem eqD_c (a b : List (SK × Int)) : eqDW (.dct (ck a) (cv a)) (.dct (ck b) (cv b)) = some (.fr (.bl (same zq a b))) := by
  unfold eqDW
  rw [eqW_dct, eqU_c]
  rfl
@[simp] theorem eqD_i (a b : List (SK × Unit)) : eqDW (.dct (ik a) (iv a)) (.dct (ik b) (iv b)) = some (.fr (.bl (same uq a b))) := by
  unfold eqDW
  rw [eqW_dct, eqU_i]
  rfl
theorem eqD_left (a b : List (Str × Bool)) (c d : List (SK × Int)) (e f : List (SK × Unit)) :
    eqDW (.tup [.dct (rk a) (rv a), .dct (ck c) (cv c), .dct (ik e) (iv e)]) (.tup [.dct (rk b) (rv b), .dct (ck d) (cv d), .dct (ik f) (iv f)]) = some (.fr (.bl (same bq a b && (same zq c d && (same uq e f && true))))) := by
  have h : eqF 40 (.tup [.dct (rk a) (rv a), .dct (ck c) (cv c), .dct (ik e) (iv e)]) (.tup [.dct (rk b) (rv b), .dct (ck d) (cv d), .dct (ik f) (iv f)]) = none := by
    unfold eqF
    simp only [List.zipWith_cons_cons, eqF_dct]
    rfl
  unfold eqDW eqW
  rw [h]
  simp only [List.length_cons, List.length_nil, if_pos, List.zipWith_cons_cons, List.zipWith_nil_left, eqU_r, eqU_c, eqU_i]
  rfl
@[simp] theorem eqD_str (a b : Str) : eqDW (.str a) (.str b) = some (.fr (.bl (a == b))) := rfl
def abc : Str := "abcdefghijklm"
def nm (n : Nat) : Str := (("x" : Str) ++ (⟨#[97 + n / 13]⟩ : Str)) ++ (⟨#[97 + n % 13]⟩ : Str)
def isNm (s : Str) : Prop := ∃ n, n < 64 ∧ s = nm n
theorem nm_inj {i j : Nat} (hi : i < 64) (hj : j < 64) (h : nm i = nm j) : i = j := by
  have k : ∀ i, i < 64 → ∀ j, j < 64 → nm i = nm j → i = j := by decide +kernel
  exact k i hi j hj h
theorem sIx_abc {i : Nat} (h : i < 13) : sIxD (.str "abcdefghijklm") (.int i) = some (.fr (.str ⟨#[97 + i]⟩)) := by
  have k : ∀ i, i < 13 → (("abcdefghijklm" : Str).cps[i]? = some (97 + i)) := by decide +kernel
  have l : (("abcdefghijklm" : Str).length : Int) = 13 := by rw [show ("abcdefghijklm" : Str).length = 13 by decide +kernel]; rfl
  generalize ("abcdefghijklm" : Str) = z at k l ⊢
  unfold sIxD
  dsimp only
  rw [if_pos ⟨by omega, by omega, by omega⟩, show ((i : Int).toNat) = i by omega, k i h]
  rfl
def nmB (n : Nat) : Bool := match f_is_name [.fr (.str (nm n))] with
  | .ret (.fr (.bl true)) [.fr (.str s)] => decide (s = nm n)
  | _ => false
theorem f_isname {s : Str} (h : isNm s) : f_is_name [.fr (.str s)] = .ret (.fr (.bl true)) [.fr (.str s)] := by
  obtain ⟨n, hn, rfl⟩ := h
  have k : ∀ n, n < 64 → nmB n = true := by decide +kernel
  have k2 := k n hn
  unfold nmB at k2
  split at k2
  · rename_i s e
    rw [e, of_decide_eq_true k2]
  · cases k2
end K77

set_option Elab.async false
set_option linter.all false
set_option maxRecDepth 100000
namespace K77
open PySem L2 DL
def NS : List Str := ["own_runs", "own_copies", "own_ids"]
abbrev lD (r : List (Str × Bool)) (c : List (SK × Int)) (i : List (SK × Unit)) : D := .ins 0 NS [.dct (rk r) (rv r), .dct (ck c) (cv c), .dct (ik i) (iv i)]
abbrev lO (r : List (Str × Bool)) (c : List (SK × Int)) (i : List (SK × Unit)) : T := .insN 0 NS [.dct (rk r) (rv r), .dct (ck c) (cv c), .dct (ik i) (iv i)]
theorem ns_ne1 : (("own_runs" : Str) = "own_copies") = False := eq_false (by decide +kernel)
theorem ns_ne2 : (("own_runs" : Str) = "own_ids") = False := eq_false (by decide +kernel)
theorem ns_ne3 : (("own_copies" : Str) = "own_ids") = False := eq_false (by decide +kernel)
@[simp] theorem fld0 {a b c : D} : fieldD [0] "own_runs" (.ins 0 NS [a, b, c]) = some (.fr a) := by
  simp [fieldD, NS, List.find?_cons]
@[simp] theorem fld1 {a b c : D} : fieldD [0] "own_copies" (.ins 0 NS [a, b, c]) = some (.fr b) := by
  simp [fieldD, NS, List.find?_cons, ns_ne1]
@[simp] theorem fld2 {a b c : D} : fieldD [0] "own_ids" (.ins 0 NS [a, b, c]) = some (.fr c) := by
  simp [fieldD, NS, List.find?_cons, ns_ne2, ns_ne3]
@[simp] theorem ps0 : posOf ("own_runs" : Str) NS = some 0 := by decide +kernel
@[simp] theorem ps1 : posOf ("own_copies" : Str) NS = some 1 := by decide +kernel
@[simp] theorem ps2 : posOf ("own_ids" : Str) NS = some 2 := by decide +kernel
@[simp] theorem nc1 : ("check_id" : Str) ∉ NS := by decide +kernel
@[simp] theorem nc2 : ("check_open" : Str) ∉ NS := by decide +kernel
@[simp] theorem nc3 : ("check_kept" : Str) ∉ NS := by decide +kernel
@[simp] theorem nc4 : ("danger" : Str) ∉ NS := by decide +kernel
@[simp] theorem nc5 : ("kept" : Str) ∉ NS := by decide +kernel
@[simp] theorem nc6 : ("forgettable" : Str) ∉ NS := by decide +kernel
@[simp] theorem nc7 : ("begin" : Str) ∉ NS := by decide +kernel
@[simp] theorem nc8 : ("close" : Str) ∉ NS := by decide +kernel
@[simp] theorem nc9 : ("send" : Str) ∉ NS := by decide +kernel
@[simp] theorem nc10 : ("take_copy" : Str) ∉ NS := by decide +kernel
@[simp] theorem nc11 : ("arrive" : Str) ∉ NS := by decide +kernel
@[simp] theorem nc12 : ("lose" : Str) ∉ NS := by decide +kernel
@[simp] theorem nc13 : ("forget" : Str) ∉ NS := by decide +kernel
section
variable {r : List (Str × Bool)} {c : List (SK × Int)} {i : List (SK × Unit)} {s : Str} {n z : Int} {b : Bool}
theorem f_isint : f_is_integer [.fr (.int n)] = .ret (.fr (.bl true)) [.fr (.int n)] := by
  unfold f_is_integer
  simp [b_is_integer, x_is_integer, isiD, tagD, tgOf, show isT (.ty "int") (.ty "int") = some true by decide +kernel, show isT (.ty "int") (.ty "bool") = some false by decide +kernel]
theorem f_ckname (h : isNm s) : f_check_name [.fr (.str s)] = .ret (.fr .non) [.fr (.str s)] := by
  unfold f_check_name
  simp [b_check_name, x_check_name, f_isname h]
theorem f_ckid (h : isNm s) (h0 : 0 ≤ n) (h1 : n ≤ 99) (hr : (lk r s).isSome = true) : f_Ledger_check_id [.fr (lD r c i), .fr (.str s), .fr (.int n)] = .ret (.fr .non) [.fr (lD r c i), .fr (.str s), .fr (.int n)] := by
  obtain ⟨b, hb⟩ := Option.isSome_iff_exists.mp hr
  unfold f_Ledger_check_id
  simp [b_Ledger_check_id, x_Ledger_check_id, f_ckname h, f_isint, h0, h1, hb]
theorem f_ckopen (hr : lk r s = some true) : f_Ledger_check_open [.fr (lD r c i), .fr (.str s)] = .ret (.fr .non) [.fr (lD r c i), .fr (.str s)] := by
  unfold f_Ledger_check_open
  simp [b_Ledger_check_open, x_Ledger_check_open, hr]
theorem f_ckkept (h : isNm s) (h0 : 0 ≤ n) (h1 : n ≤ 99) (hr : (lk r s).isSome = true) (hi : (lk i (s, n)).isSome = true) : f_Ledger_check_kept [.fr (lD r c i), .fr (.str s), .fr (.int n)] = .ret (.fr .non) [.fr (lD r c i), .fr (.str s), .fr (.int n)] := by
  obtain ⟨b, hb⟩ := Option.isSome_iff_exists.mp hi
  unfold f_Ledger_check_kept
  simp [b_Ledger_check_kept, x_Ledger_check_kept, f_ckid h h0 h1 hr, hb]
def dng (r : List (Str × Bool)) (c : List (SK × Int)) (k : SK) : T := if (lk c k).isSome = true then .lst [.tup [.str "arrive", .str k.1, .int k.2]]
  else if lk r k.1 = some true then .lst [.tup [.str "send", .str k.1, .int k.2], .tup [.str "arrive", .str k.1, .int k.2]] else .fr .non
theorem f_danger (h : isNm s) (h0 : 0 ≤ n) (h1 : n ≤ 99) (hr : (lk r s).isSome = true) (hi : (lk i (s, n)).isSome = true) : f_Ledger_danger [.fr (lD r c i), .fr (.str s), .fr (.int n)] = .ret (dng r c (s, n)) [.fr (lD r c i), .fr (.str s), .fr (.int n)] := by
  unfold f_Ledger_danger
  cases hc : lk c (s, n) with
  | some v => simp [b_Ledger_danger, x_Ledger_danger, f_ckkept h h0 h1 hr hi, hc, dng]
  | none =>
    obtain ⟨b, hb⟩ := Option.isSome_iff_exists.mp hr
    cases b <;> simp [b_Ledger_danger, x_Ledger_danger, f_ckkept h h0 h1 hr hi, hc, dng, hb]
theorem f_begin (h : isNm s) (hr : lk r s = none) (hn : nd r) (hl : r.length < 16777216) : f_Ledger_begin [lO r c i, .fr (.str s)] = .ret (.fr .non) [lO (put r s true) c i, .fr (.str s)] := by
  unfold f_Ledger_begin
  simp [b_Ledger_begin, x_Ledger_begin, f_ckname h, hr, set_r hn hl]
theorem f_close (h : isNm s) (hr : lk r s = some true) (hn : nd r) (hl : r.length < 16777216) : f_Ledger_close [lO r c i, .fr (.str s)] = .ret (.fr .non) [lO (put r s false) c i, .fr (.str s)] := by
  unfold f_Ledger_close
  simp [b_Ledger_close, x_Ledger_close, f_ckname h, hr, f_ckopen hr, set_r hn hl]
theorem f_send (h : isNm s) (h0 : 0 ≤ n) (h1 : n ≤ 99) (hr : lk r s = some true) (hn : nd c) (hl : c.length < 16777216) : f_Ledger_send [lO r c i, .fr (.str s), .fr (.int n)] = .ret (.fr .non) [lO r (put c (s, n) ((lk c (s, n)).getD 0 + 1)) i, .fr (.str s), .fr (.int n)] := by
  unfold f_Ledger_send
  cases hc : lk c (s, n) <;> simp [b_Ledger_send, x_Ledger_send, f_ckid h h0 h1 (show (lk r s).isSome = true by rw [hr]; rfl), f_ckopen hr, hc, set_c hn hl]
def tk (c : List (SK × Int)) (k : SK) (v : Int) : List (SK × Int) := if 1 < v then put (del c k) k (v - 1) else del c k
theorem f_take (h : isNm s) (h0 : 0 ≤ n) (h1 : n ≤ 99) (hr : (lk r s).isSome = true) (hc : lk c (s, n) = some z) (hn : nd c) (hl : c.length < 16777216) :
    f_Ledger_take_copy [lO r c i, .fr (.str s), .fr (.int n)] = .ret (.fr .non) [lO r (tk c (s, n) z) i, .fr (.str s), .fr (.int n)] := by
  have l2 : (del c (s, n)).length < 16777216 := Nat.lt_of_le_of_lt del_len hl
  unfold f_Ledger_take_copy
  by_cases hz : 1 < z
  · simp [b_Ledger_take_copy, x_Ledger_take_copy, f_ckid h h0 h1 hr, hc, set_c (del_nd hn) l2, tk, hz]
  · simp [b_Ledger_take_copy, x_Ledger_take_copy, f_ckid h h0 h1 hr, hc, tk, hz]
theorem f_arrive (h : isNm s) (h0 : 0 ≤ n) (h1 : n ≤ 99) (hr : (lk r s).isSome = true) (hc : lk c (s, n) = some z) (hn : nd c) (hl : c.length < 16777216) (hni : nd i) (hli : i.length < 16777216) :
    f_Ledger_arrive [lO r c i, .fr (.str s), .fr (.int n)] = .ret (.fr (.bl (!(lk i (s, n)).isSome))) [lO r (tk c (s, n) z) (put i (s, n) ()), .fr (.str s), .fr (.int n)] := by
  unfold f_Ledger_arrive
  simp [b_Ledger_arrive, x_Ledger_arrive, f_take h h0 h1 hr hc hn hl, set_i hni hli]
theorem f_lose (h : isNm s) (h0 : 0 ≤ n) (h1 : n ≤ 99) (hr : (lk r s).isSome = true) (hc : lk c (s, n) = some z) (hn : nd c) (hl : c.length < 16777216) :
    f_Ledger_lose [lO r c i, .fr (.str s), .fr (.int n)] = .ret (.fr .non) [lO r (tk c (s, n) z) i, .fr (.str s), .fr (.int n)] := by
  unfold f_Ledger_lose
  simp [b_Ledger_lose, x_Ledger_lose, f_take h h0 h1 hr hc hn hl]
theorem f_forget (h : isNm s) (h0 : 0 ≤ n) (h1 : n ≤ 99) (hr : lk r s = some false) (hc : lk c (s, n) = none) (hi : (lk i (s, n)).isSome = true) :
    f_Ledger_forget [lO r c i, .fr (.str s), .fr (.int n)] = .ret (.fr .non) [lO r c (del i (s, n)), .fr (.str s), .fr (.int n)] := by
  have hr2 : (lk r s).isSome = true := by rw [hr]; rfl
  have hd : dng r c (s, n) = .fr .non := by unfold dng; rw [hc, hr]; rfl
  obtain ⟨u, hu⟩ := Option.isSome_iff_exists.mp hi
  unfold f_Ledger_forget
  simp [b_Ledger_forget, x_Ledger_forget, f_ckkept h h0 h1 hr2 hi, f_danger h h0 h1 hr2 hi, hd, hu, D.isNon]
end
end K77

set_option Elab.async false
set_option linter.all false
set_option maxRecDepth 100000
namespace K77
open PySem L2 DL
section
variable {S : En}
@[simp] theorem sAli_ap {j i : Nat} {key : Str} {ms : List (En → Option En)} {g : MS} : sAli j i key ms g S = match S[i]? with
  | some (some (.dctN ks _)) => if (posOf (.inr key) ks).isSome = true ∧ i ≠ j then match runA ms (S.set j none) with
      | some S' => g S'
      | none => .stuck
    else .stuck
  | _ => .stuck := rfl
@[simp] theorem sAli2_ap {j1 j2 i : Nat} {key1 key2 : Str} {ms : List (En → Option En)} {g : MS} : sAli2 j1 j2 i key1 key2 ms g S = match S[i]? with
  | some (some (.dctN ks _)) => if (posOf (.inr key1) ks).isSome = true ∧ (posOf (.inr key2) ks).isSome = true ∧ i ≠ j1 ∧ i ≠ j2 then match runA ms ((S.set j1 none).set j2 none) with
      | some S' => g S'
      | none => .stuck
    else .stuck
  | _ => .stuck := rfl
@[simp] theorem runA_nil : runA [] S = some S := rfl
@[simp] theorem runA_cons {m : En → Option En} {ms : List (En → Option En)} : runA (m :: ms) S = (m S).bind (runA ms) := rfl
@[simp] theorem sAliS_ap {A : List Ali} {j i : Nat} {key : Str} {h : Nat} {fv : M Rv} : sAliS A (j, i, key) h fv S = match S[i]? with
  | some (some (.dctN ks _)) => match posOf (.inr key) ks, S[h]?, eAli A fv S with
    | some k, some (some (.fr dz)), some d => match mutR setG2 (.sub i k) [d, dz] S with
      | .ok _ S' => some S'
      | _ => none
    | _, _, _ => none
  | _ => none := rfl
@[simp] theorem eAli_ap {A : List Ali} {f : M Rv} : eAli A f S = match f (aliF A S) with
  | .ok (.tmp (.fr d)) _ => if imm d = true then some d else none
  | _ => none := rfl
@[simp] theorem aliF_nil : aliF [] S = frzA S := rfl
@[simp] theorem aliF_cons {a : Ali} {A : List Ali} : aliF (a :: A) S = match partOf' S a with
    | some u => (aliF A S).set a.1 (some (.fr u.view))
    | none => aliF A S := rfl
@[simp] theorem partOf'_ap {j i : Nat} {key : Str} : partOf' S (j, i, key) = match S[i]? with
  | some (some (.dctN ks us)) => (posOf (.inr key) ks).bind fun k => us[k]?
  | _ => none := rfl
@[simp] theorem pathT_ap {i : Nat} {k : Str} : pathT i (some k) S = match S[i]? with
  | some (some t) => (match t.frz with
    | .dct ks vs => (match atX ks vs (.k (.inr k)) with
      | some (.dct ks' _) => some (ks', S.set i (some (.fr t.frz)))
      | _ => none)
    | _ => none)
  | _ => none := by
  unfold pathT
  cases S[i]? with
  | none => rfl
  | some x =>
    cases x with
    | none => rfl
    | some t =>
      cases h : t.frz with
      | dct ks vs =>
        simp only [h]
        all_goals rcases atX ks vs (.k (.inr k)) with _ | x
        all_goals first | rfl | (cases x <;> rfl)
      | _ => simp [h]
end
@[simp] theorem ind_lst {neg : Bool} {x : D} {ds : List D} : indD neg x (.lst ds) = (inF x ds).map fun b => .fr (.bl (b != neg)) := rfl
@[simp] theorem sl3 {a b c : D} : sliceD (some 1) none (.tup [a, b, c]) = some (.fr (.tup [b, c])) := rfl
@[simp] theorem sl2 {a b : D} : sliceD (some 1) none (.tup [a, b]) = some (.fr (.tup [b])) := rfl
def BKs : List Key := (["runs", "copies", "kept", "done"] : List Str).map .inr
abbrev bD (r : List (Str × Bool)) (c : List (SK × Int)) (i : List (SK × Unit)) (d : List (SK × Int)) : D := .dct (BKs.map .k) [.dct (rk r) (rv r), .dct (ck c) (cv c), .dct (ik i) (iv i), .dct (ck d) (cv d)]
abbrev bO (r : List (Str × Bool)) (c : List (SK × Int)) (i : List (SK × Unit)) (d : List (SK × Int)) : T := .dctN BKs [.dct (rk r) (rv r), .dct (ck c) (cv c), .dct (ik i) (iv i), .dct (ck d) (cv d)]
@[simp] theorem pb0 : posOf (.inr ("runs" : Str)) BKs = some 0 := by decide +kernel
@[simp] theorem pb1 : posOf (.inr ("copies" : Str)) BKs = some 1 := by decide +kernel
@[simp] theorem pb2 : posOf (.inr ("kept" : Str)) BKs = some 2 := by decide +kernel
@[simp] theorem pb3 : posOf (.inr ("done" : Str)) BKs = some 3 := by decide +kernel
theorem bk01 : (("runs" : Str) = "copies") = False := eq_false (by decide +kernel)
theorem bk02 : (("runs" : Str) = "kept") = False := eq_false (by decide +kernel)
theorem bk12 : (("copies" : Str) = "kept") = False := eq_false (by decide +kernel)
@[simp] theorem ab0 {a b c d : D} : atX (BKs.map .k) [a, b, c, d] (.k (.inr "runs")) = some a := by
  simp [atX, BKs, List.find?_cons]
@[simp] theorem ab1 {a b c d : D} : atX (BKs.map .k) [a, b, c, d] (.k (.inr "copies")) = some b := by
  simp [atX, BKs, List.find?_cons, bk01]
@[simp] theorem ab2 {a b c d : D} : atX (BKs.map .k) [a, b, c, d] (.k (.inr "kept")) = some c := by
  simp [atX, BKs, List.find?_cons, bk02, bk12]
theorem eqF_str {n : Nat} {a b : Str} : eqF (n + 1) (.str a) (.str b) = some (a == b) := rfl
theorem inF_2 {a b x : Str} : inF (.str x) [.str a, .str b] = some (a == x || b == x) := by
  unfold inF
  simp [eqF_str]
@[simp] theorem w_begin_close : (("begin" : Str) == "close") = false := by decide +kernel
@[simp] theorem v_begin_close : (("begin" : Str) = "close") = False := eq_false (by decide +kernel)
@[simp] theorem w_begin_send : (("begin" : Str) == "send") = false := by decide +kernel
@[simp] theorem v_begin_send : (("begin" : Str) = "send") = False := eq_false (by decide +kernel)
@[simp] theorem w_begin_arrive : (("begin" : Str) == "arrive") = false := by decide +kernel
@[simp] theorem v_begin_arrive : (("begin" : Str) = "arrive") = False := eq_false (by decide +kernel)
@[simp] theorem w_begin_lose : (("begin" : Str) == "lose") = false := by decide +kernel
@[simp] theorem v_begin_lose : (("begin" : Str) = "lose") = False := eq_false (by decide +kernel)
@[simp] theorem w_begin_forget : (("begin" : Str) == "forget") = false := by decide +kernel
@[simp] theorem v_begin_forget : (("begin" : Str) = "forget") = False := eq_false (by decide +kernel)
@[simp] theorem w_close_begin : (("close" : Str) == "begin") = false := by decide +kernel
@[simp] theorem v_close_begin : (("close" : Str) = "begin") = False := eq_false (by decide +kernel)
@[simp] theorem w_close_send : (("close" : Str) == "send") = false := by decide +kernel
@[simp] theorem v_close_send : (("close" : Str) = "send") = False := eq_false (by decide +kernel)
@[simp] theorem w_close_arrive : (("close" : Str) == "arrive") = false := by decide +kernel
@[simp] theorem v_close_arrive : (("close" : Str) = "arrive") = False := eq_false (by decide +kernel)
@[simp] theorem w_close_lose : (("close" : Str) == "lose") = false := by decide +kernel
@[simp] theorem v_close_lose : (("close" : Str) = "lose") = False := eq_false (by decide +kernel)
@[simp] theorem w_close_forget : (("close" : Str) == "forget") = false := by decide +kernel
@[simp] theorem v_close_forget : (("close" : Str) = "forget") = False := eq_false (by decide +kernel)
@[simp] theorem w_send_begin : (("send" : Str) == "begin") = false := by decide +kernel
@[simp] theorem v_send_begin : (("send" : Str) = "begin") = False := eq_false (by decide +kernel)
@[simp] theorem w_send_close : (("send" : Str) == "close") = false := by decide +kernel
@[simp] theorem v_send_close : (("send" : Str) = "close") = False := eq_false (by decide +kernel)
@[simp] theorem w_send_arrive : (("send" : Str) == "arrive") = false := by decide +kernel
@[simp] theorem v_send_arrive : (("send" : Str) = "arrive") = False := eq_false (by decide +kernel)
@[simp] theorem w_send_lose : (("send" : Str) == "lose") = false := by decide +kernel
@[simp] theorem v_send_lose : (("send" : Str) = "lose") = False := eq_false (by decide +kernel)
@[simp] theorem w_send_forget : (("send" : Str) == "forget") = false := by decide +kernel
@[simp] theorem v_send_forget : (("send" : Str) = "forget") = False := eq_false (by decide +kernel)
@[simp] theorem w_arrive_begin : (("arrive" : Str) == "begin") = false := by decide +kernel
@[simp] theorem v_arrive_begin : (("arrive" : Str) = "begin") = False := eq_false (by decide +kernel)
@[simp] theorem w_arrive_close : (("arrive" : Str) == "close") = false := by decide +kernel
@[simp] theorem v_arrive_close : (("arrive" : Str) = "close") = False := eq_false (by decide +kernel)
@[simp] theorem w_arrive_send : (("arrive" : Str) == "send") = false := by decide +kernel
@[simp] theorem v_arrive_send : (("arrive" : Str) = "send") = False := eq_false (by decide +kernel)
@[simp] theorem w_arrive_lose : (("arrive" : Str) == "lose") = false := by decide +kernel
@[simp] theorem v_arrive_lose : (("arrive" : Str) = "lose") = False := eq_false (by decide +kernel)
@[simp] theorem w_arrive_forget : (("arrive" : Str) == "forget") = false := by decide +kernel
@[simp] theorem v_arrive_forget : (("arrive" : Str) = "forget") = False := eq_false (by decide +kernel)
@[simp] theorem w_lose_begin : (("lose" : Str) == "begin") = false := by decide +kernel
@[simp] theorem v_lose_begin : (("lose" : Str) = "begin") = False := eq_false (by decide +kernel)
@[simp] theorem w_lose_close : (("lose" : Str) == "close") = false := by decide +kernel
@[simp] theorem v_lose_close : (("lose" : Str) = "close") = False := eq_false (by decide +kernel)
@[simp] theorem w_lose_send : (("lose" : Str) == "send") = false := by decide +kernel
@[simp] theorem v_lose_send : (("lose" : Str) = "send") = False := eq_false (by decide +kernel)
@[simp] theorem w_lose_arrive : (("lose" : Str) == "arrive") = false := by decide +kernel
@[simp] theorem v_lose_arrive : (("lose" : Str) = "arrive") = False := eq_false (by decide +kernel)
@[simp] theorem w_lose_forget : (("lose" : Str) == "forget") = false := by decide +kernel
@[simp] theorem v_lose_forget : (("lose" : Str) = "forget") = False := eq_false (by decide +kernel)
@[simp] theorem w_forget_begin : (("forget" : Str) == "begin") = false := by decide +kernel
@[simp] theorem v_forget_begin : (("forget" : Str) = "begin") = False := eq_false (by decide +kernel)
@[simp] theorem w_forget_close : (("forget" : Str) == "close") = false := by decide +kernel
@[simp] theorem v_forget_close : (("forget" : Str) = "close") = False := eq_false (by decide +kernel)
@[simp] theorem w_forget_send : (("forget" : Str) == "send") = false := by decide +kernel
@[simp] theorem v_forget_send : (("forget" : Str) = "send") = False := eq_false (by decide +kernel)
@[simp] theorem w_forget_arrive : (("forget" : Str) == "arrive") = false := by decide +kernel
@[simp] theorem v_forget_arrive : (("forget" : Str) = "arrive") = False := eq_false (by decide +kernel)
@[simp] theorem w_forget_lose : (("forget" : Str) == "lose") = false := by decide +kernel
@[simp] theorem v_forget_lose : (("forget" : Str) = "lose") = False := eq_false (by decide +kernel)
theorem f_book : f__law_book [] = .ret (bO [] [] [] []) [] := rfl
section
variable {r : List (Str × Bool)} {c d : List (SK × Int)} {i : List (SK × Unit)} {s : Str} {n z : Int} {b : Bool}
theorem n_begin (hn : nd r) (hl : r.length < 16777216) : f__law_noted [bO r c i d, .fr (.tup [.str "begin", .str s])] = .ret (.fr .non) [bO (put r s true) c i d, .fr (.tup [.str "begin", .str s])] := by
  unfold f__law_noted
  simp [b__law_noted, x__law_noted, set_r hn hl, inF_2]
theorem n_close (hn : nd r) (hl : r.length < 16777216) : f__law_noted [bO r c i d, .fr (.tup [.str "close", .str s])] = .ret (.fr .non) [bO (put r s false) c i d, .fr (.tup [.str "close", .str s])] := by
  unfold f__law_noted
  simp [b__law_noted, x__law_noted, set_r hn hl, inF_2]
theorem n_send (hn : nd c) (hl : c.length < 16777216) : f__law_noted [bO r c i d, .fr (.tup [.str "send", .str s, .int n])] = .ret (.fr .non) [bO r (put c (s, n) ((lk c (s, n)).getD 0 + 1)) i d, .fr (.tup [.str "send", .str s, .int n])] := by
  unfold f__law_noted
  cases hc : lk c (s, n) <;> simp [b__law_noted, x__law_noted, set_c hn hl, inF_2, hc]
theorem n_lose (hn : nd c) (hl : c.length < 16777216) (hc : lk c (s, n) = some z) : f__law_noted [bO r c i d, .fr (.tup [.str "lose", .str s, .int n])] = .ret (.fr .non) [bO r (put c (s, n) (z - 1)) i d, .fr (.tup [.str "lose", .str s, .int n])] := by
  unfold f__law_noted
  simp [b__law_noted, x__law_noted, set_c hn hl, inF_2, hc]
theorem n_arrive (hn : nd c) (hl : c.length < 16777216) (hni : nd i) (hli : i.length < 16777216) (hnd : nd d) (hld : d.length < 16777216) (hc : lk c (s, n) = some z) :
    ∃ d', (d' = put d (s, n) ((lk d (s, n)).getD 0 + if (lk i (s, n)).isNone = true then 1 else 0)) ∧ f__law_noted [bO r c i d, .fr (.tup [.str "arrive", .str s, .int n])] = .ret (.fr (.bl (!(lk i (s, n)).isSome))) [bO r (put c (s, n) (z - 1)) (put i (s, n) ()) d', .fr (.tup [.str "arrive", .str s, .int n])] := by
  refine ⟨_, rfl, ?_⟩
  unfold f__law_noted
  cases hd : lk d (s, n) <;> cases hi : lk i (s, n) <;> simp [b__law_noted, x__law_noted, set_c hn hl, set_i hni hli, set_c hnd hld, inF_2, hc, hi, hd, intD]
theorem n_forget (hi : (lk i (s, n)).isSome = true) : f__law_noted [bO r c i d, .fr (.tup [.str "forget", .str s, .int n])] = .ret (.fr .non) [bO r c (del i (s, n)) d, .fr (.tup [.str "forget", .str s, .int n])] := by
  obtain ⟨u, hu⟩ := Option.isSome_iff_exists.mp hi
  unfold f__law_noted
  simp [b__law_noted, x__law_noted, inF_2, hu]
end
end K77

set_option Elab.async false
set_option linter.all false
set_option maxRecDepth 100000
namespace K77
open PySem L2 DL
inductive Ev where
  | begin (s : Str) | close (s : Str) | send (s : Str) (n : Int) | arrive (s : Str) (n : Int) | lose (s : Str) (n : Int) | forget (s : Str) (n : Int)
  deriving DecidableEq
def Ev.d : Ev → D
  | .begin s => .tup [.str "begin", .str s]
  | .close s => .tup [.str "close", .str s]
  | .send s n => .tup [.str "send", .str s, .int n]
  | .arrive s n => .tup [.str "arrive", .str s, .int n]
  | .lose s n => .tup [.str "lose", .str s, .int n]
  | .forget s n => .tup [.str "forget", .str s, .int n]
section
variable {r : List (Str × Bool)} {c d : List (SK × Int)} {i : List (SK × Unit)} {s : Str} {n z : Int} {b : Bool}
theorem t_begin (h : isNm s) (hr : lk r s = none) (hn : nd r) (hl : r.length < 16777216) : f__law_tell [lO r c i, .fr (.tup [.str "begin", .str s])] = .ret (.fr .non) [lO (put r s true) c i, .fr (.tup [.str "begin", .str s])] := by
  unfold f__law_tell
  simp [b__law_tell, x__law_tell, f_begin h hr hn hl]
theorem t_close (h : isNm s) (hr : lk r s = some true) (hn : nd r) (hl : r.length < 16777216) : f__law_tell [lO r c i, .fr (.tup [.str "close", .str s])] = .ret (.fr .non) [lO (put r s false) c i, .fr (.tup [.str "close", .str s])] := by
  unfold f__law_tell
  simp [b__law_tell, x__law_tell, f_close h hr hn hl]
theorem t_send (h : isNm s) (h0 : 0 ≤ n) (h1 : n ≤ 99) (hr : lk r s = some true) (hn : nd c) (hl : c.length < 16777216) : f__law_tell [lO r c i, .fr (.tup [.str "send", .str s, .int n])] = .ret (.fr .non) [lO r (put c (s, n) ((lk c (s, n)).getD 0 + 1)) i, .fr (.tup [.str "send", .str s, .int n])] := by
  unfold f__law_tell
  simp [b__law_tell, x__law_tell, f_send h h0 h1 hr hn hl]
theorem t_arrive (h : isNm s) (h0 : 0 ≤ n) (h1 : n ≤ 99) (hr : (lk r s).isSome = true) (hc : lk c (s, n) = some z) (hn : nd c) (hl : c.length < 16777216) (hni : nd i) (hli : i.length < 16777216) :
    f__law_tell [lO r c i, .fr (.tup [.str "arrive", .str s, .int n])] = .ret (.fr (.bl (!(lk i (s, n)).isSome))) [lO r (tk c (s, n) z) (put i (s, n) ()), .fr (.tup [.str "arrive", .str s, .int n])] := by
  unfold f__law_tell
  simp [b__law_tell, x__law_tell, f_arrive h h0 h1 hr hc hn hl hni hli]
theorem t_lose (h : isNm s) (h0 : 0 ≤ n) (h1 : n ≤ 99) (hr : (lk r s).isSome = true) (hc : lk c (s, n) = some z) (hn : nd c) (hl : c.length < 16777216) :
    f__law_tell [lO r c i, .fr (.tup [.str "lose", .str s, .int n])] = .ret (.fr .non) [lO r (tk c (s, n) z) i, .fr (.tup [.str "lose", .str s, .int n])] := by
  unfold f__law_tell
  simp [b__law_tell, x__law_tell, f_lose h h0 h1 hr hc hn hl]
theorem t_forget (h : isNm s) (h0 : 0 ≤ n) (h1 : n ≤ 99) (hr : lk r s = some false) (hc : lk c (s, n) = none) (hi : (lk i (s, n)).isSome = true) :
    f__law_tell [lO r c i, .fr (.tup [.str "forget", .str s, .int n])] = .ret (.fr .non) [lO r c (del i (s, n)), .fr (.tup [.str "forget", .str s, .int n])] := by
  unfold f__law_tell
  simp [b__law_tell, x__law_tell, f_forget h h0 h1 hr hc hi]
def nee (r : List (Str × Bool)) (c : List (SK × Int)) (k : SK) : T := if 0 < (lk c k).getD 0 then .lst [.tup [.str "arrive", .str k.1, .int k.2]]
  else if lk r k.1 = some true then .lst [.tup [.str "send", .str k.1, .int k.2], .tup [.str "arrive", .str k.1, .int k.2]] else .fr .non
theorem f_needed (hr : (lk r s).isSome = true) : f__law_needed [.fr (bD r c i d), .fr (.tup [.str s, .int n])] = .ret (nee r c (s, n)) [.fr (bD r c i d), .fr (.tup [.str s, .int n])] := by
  obtain ⟨b, hb⟩ := Option.isSome_iff_exists.mp hr
  unfold f__law_needed
  cases hc : lk c (s, n) with
  | none => cases b <;> simp [b__law_needed, x__law_needed, hc, hb, nee]
  | some v =>
    by_cases hv : 0 < v
    · simp [b__law_needed, x__law_needed, hc, nee, hv]
    · cases b <;> simp [b__law_needed, x__law_needed, hc, hb, nee, hv]
end
end K77

set_option Elab.async false
set_option linter.all false
set_option maxRecDepth 100000
namespace K77
open PySem L2 DL
theorem compD_const {vs : List Nat} {gd : D → En → Option En} {c : M Bool} {e : M Rv} {S0 : En} {p : D → Bool} {g : D → D} : ∀ {ds acc : List D},
    (∀ d ∈ ds, ∃ S1 S2, gd d S0 = some S1 ∧ c S1 = .ok (p d) S2 ∧ (p d = false → wipeE S2 vs = S0) ∧ (p d = true → ∃ r S3 S4, e S2 = .ok r S3 ∧ frzR r S3 = some (g d, S4) ∧ wipeE S4 vs = S0)) → acc.length + ds.length ≤ 16777216 →
    compD vs gd c e ds acc S0 = .ok (acc ++ (ds.filter p).map g) S0
  | [], acc, _, _ => by simp [compD]
  | d :: ds, acc, h, hl => by
    have hl' : acc.length + (ds.length + 1) ≤ 16777216 := hl
    obtain ⟨S1, S2, h1, h2, h3, h4⟩ := h d List.mem_cons_self
    unfold compD
    rw [h1]
    simp only []
    rw [h2]
    simp only []
    cases hp : p d with
    | false =>
      rw [if_neg (by decide), h3 hp, compD_const (p := p) (g := g) (fun x hx => h x (List.mem_cons_of_mem _ hx)) (by omega), List.filter_cons, if_neg (by rw [hp]; decide)]
    | true =>
      obtain ⟨r, S3, S4, e1, e2, e3⟩ := h4 hp
      rw [if_pos rfl, e1]
      simp only []
      rw [e2]
      simp only []
      rw [if_pos (show acc.length < sizeLine from by rw [size_line]; omega), e3, compD_const (p := p) (g := g) (fun x hx => h x (List.mem_cons_of_mem _ hx)) (by simp; omega), List.filter_cons, if_pos hp]
      simp
section
variable {r : List (Str × Bool)} {c d : List (SK × Int)} {i : List (SK × Unit)} {s : Str} {n z : Int} {b : Bool}
theorem siK_ik : ∀ i : List (SK × Unit), siKs (ik i) = some (i.map (·.1))
  | [] => rfl
  | p :: r => by
    show siKs (.t [.inr p.1.1, .inl p.1.2] :: ik r) = _
    unfold siKs
    rw [siK_ik r]
    rfl
def srt (i : List (SK × Unit)) : List SK := srtI (i.map (·.1))
theorem srt_mem {k : SK} (h : k ∈ srt i) : (lk i k).isSome = true := by
  have h2 : k ∈ i.map (·.1) := (srtI_perm _).mem_iff.mp h
  cases e : lk i k with
  | some v => rfl
  | none => exact absurd h2 (lk_none.mp e)
theorem srt_len : (srt i).length = i.length := by
  unfold srt
  rw [(srtI_perm _).length_eq, List.length_map]
theorem sort_i (hl : i.length < 64) : sortD2 [.dct (ik i) (iv i)] = some (.lst ((srt i).map siD)) := by
  unfold sortD2
  dsimp only
  rw [siK_ik]
  dsimp only
  rw [if_pos (by rw [List.length_map]; exact hl)]
  rfl
@[simp] theorem f_kept (hl : i.length < 64) : f_Ledger_kept [.fr (lD r c i)] = .ret (.lst ((srt i).map siD)) [.fr (lD r c i)] := by
  unfold f_Ledger_kept
  simp [b_Ledger_kept, x_Ledger_kept, sort_i hl]
def okK (r : List (Str × Bool)) (i : List (SK × Unit)) : Prop := ∀ k : SK, (lk i k).isSome = true → isNm k.1 ∧ 0 ≤ k.2 ∧ k.2 ≤ 99 ∧ (lk r k.1).isSome = true
def keyOfD : D → SK
  | .tup [.str s, .int n] => (s, n)
  | _ => ("", 0)
@[simp] theorem keyOf_siD {k : SK} : keyOfD (siD k) = k := rfl
theorem siD_eq (k : SK) : siD k = .tup [.str k.1, .int k.2] := rfl
def nonT (t : T) : Bool := t.view.isNon
@[simp] theorem wipeE_nil {S : En} : wipeE S [] = S := rfl
@[simp] theorem wipeE_cons {S : En} {v : Nat} {vs : List Nat} : wipeE S (v :: vs) = (wipeE S vs).set v none := rfl
@[simp] theorem restE_nil {S1 S : En} : restE S1 S [] = S := rfl
@[simp] theorem restE_cons {S1 S : En} {v : Nat} {vs : List Nat} : restE S1 S (v :: vs) = match S1[v]? with
    | some e => (restE S1 S vs).set v e
    | none => restE S1 S vs := rfl
@[simp] theorem okv_nil {S : En} : okv S [] = true := rfl
@[simp] theorem okv_cons {S : En} {v : Nat} {vs : List Nat} : okv S (v :: vs) = ((match S[v]? with | some (some t) => !t.own | _ => true) && okv S vs) := rfl
theorem f_forgettable (hl : i.length < 64) (hk : okK r i) : f_Ledger_forgettable [.fr (lD r c i)] = .ret (.lst (((srt i).filter fun k => nonT (dng r c k)).map siD)) [.fr (lD r c i)] := by
  have h := compD_const (vs := [1]) (gd := gN 1) (c := bOf (eBin isND (eMeth 0 "danger" f_Ledger_danger (eVar 0) (eCons (eBin idxD (eVar 1) (eC (.int 0))) (eCons (eBin idxD (eVar 1) (eC (.int 1))) eNil))) (eC .non))) (e := eVar 1) (S0 := [some (.fr (lD r c i)), none])
    (p := fun d => nonT (dng r c (keyOfD d))) (g := id) (ds := (srt i).map siD) (acc := []) (fun d hd => by
      obtain ⟨k, hk1, rfl⟩ := List.mem_map.mp hd
      obtain ⟨a1, a2, a3, a4⟩ := hk k (srt_mem hk1)
      refine ⟨[some (.fr (lD r c i)), some (.fr (siD k))], [some (.fr (lD r c i)), some (.fr (siD k))], rfl, ?_, fun _ => rfl, fun _ => ⟨.slot 1, [some (.fr (lD r c i)), some (.fr (siD k))], [some (.fr (lD r c i)), some (.fr (siD k))], rfl, rfl, rfl⟩⟩
      simp [siD_eq, f_danger a1 a2 a3 a4 (srt_mem hk1), nonT, D.isNon, keyOfD]) (by rw [List.length_map, srt_len]; simp; omega)
  unfold f_Ledger_forgettable
  simp [b_Ledger_forgettable, x_Ledger_forgettable, hl, h]
  rw [List.filter_map]
  rfl
def rowD (t : T) (k : SK) : D := .tup [siD k, t.frz]
theorem f_shown (hl : i.length < 64) (hk : okK r i) : f__law_ledger_shown [.fr (lD r c i)] = .ret (.fr (.tup [.lst ((srt i).map fun k => rowD (dng r c k) k), .lst (((srt i).filter fun k => nonT (dng r c k)).map siD)])) [.fr (lD r c i)] := by
  have h := compD_const (vs := [2]) (gd := gN 2) (c := bYes) (e := eTup (eCons (eVar 2) (eCons (eMeth 0 "danger" f_Ledger_danger (eVar 0) (eCons (eBin idxD (eVar 2) (eC (.int 0))) (eCons (eBin idxD (eVar 2) (eC (.int 1))) eNil))) eNil))) (S0 := [some (.fr (lD r c i)), none, none])
    (p := fun d => true) (g := fun d => rowD (dng r c (keyOfD d)) (keyOfD d)) (ds := (srt i).map siD) (acc := []) (fun d hd => by
      obtain ⟨k, hk1, rfl⟩ := List.mem_map.mp hd
      obtain ⟨a1, a2, a3, a4⟩ := hk k (srt_mem hk1)
      refine ⟨[some (.fr (lD r c i)), none, some (.fr (siD k))], [some (.fr (lD r c i)), none, some (.fr (siD k))], rfl, rfl, fun z => (by cases z), fun _ => ⟨.tmp (.fr (rowD (dng r c k) k)), [some (.fr (lD r c i)), none, some (.fr (siD k))], [some (.fr (lD r c i)), none, some (.fr (siD k))], ?_, rfl, rfl⟩⟩
      simp [siD_eq, f_danger a1 a2 a3 a4 (srt_mem hk1), rowD]) (by rw [List.length_map, srt_len]; simp; omega)
  unfold f__law_ledger_shown
  simp [b__law_ledger_shown, x__law_ledger_shown, hl, h, f_forgettable hl hk]
  rw [List.filter_eq_self.mpr (by simp), List.map_map]
  rfl
theorem f_due (hl : i.length < 64) (hk : okK r i) : f__law_ledger_due [.fr (bD r c i d)] = .ret (.fr (.tup [.lst ((srt i).map fun k => rowD (nee r c k) k), .lst (((srt i).filter fun k => nonT (nee r c k)).map siD)])) [.fr (bD r c i d)] := by
  have h := compD_const (vs := [2]) (gd := gN 2) (c := bYes) (e := eTup (eCons (eVar 2) (eCons (eCall f__law_needed (eCons (eVar 0) (eCons (eVar 2) eNil))) eNil))) (S0 := [some (.fr (bD r c i d)), none, none, none])
    (p := fun d => true) (g := fun d => rowD (nee r c (keyOfD d)) (keyOfD d)) (ds := (srt i).map siD) (acc := []) (fun x hd => by
      obtain ⟨k, hk1, rfl⟩ := List.mem_map.mp hd
      obtain ⟨a1, a2, a3, a4⟩ := hk k (srt_mem hk1)
      refine ⟨[some (.fr (bD r c i d)), none, some (.fr (siD k)), none], [some (.fr (bD r c i d)), none, some (.fr (siD k)), none], rfl, rfl, fun z => (by cases z), fun _ => ⟨.tmp (.fr (rowD (nee r c k) k)), [some (.fr (bD r c i d)), none, some (.fr (siD k)), none], [some (.fr (bD r c i d)), none, some (.fr (siD k)), none], ?_, rfl, rfl⟩⟩
      simp [siD_eq, f_needed a4, rowD]) (by rw [List.length_map, srt_len]; simp; omega)
  have e1 : ((srt i).map siD).map (fun d => rowD (nee r c (keyOfD d)) (keyOfD d)) = (srt i).map fun k => rowD (nee r c k) k := by
    rw [List.map_map]
    rfl
  have h2 := compD_const (vs := [2, 3]) (gd := gT 2 (gsC (gN 2) (gsC (gN 3) gsN))) (c := bOf (eBin isND (eVar 3) (eC .non))) (e := eVar 2) (S0 := [some (.fr (bD r c i d)), some (.fr (.lst ((srt i).map fun k => rowD (nee r c k) k))), none, none])
    (p := fun x => match x with | .tup [_, y] => y.isNon | _ => false) (g := fun x => match x with | .tup [y, _] => y | _ => .non) (ds := (srt i).map fun k => rowD (nee r c k) k) (acc := []) (fun x hd => by
      obtain ⟨k, hk1, rfl⟩ := List.mem_map.mp hd
      exact ⟨_, _, rfl, rfl, fun _ => rfl, fun _ => ⟨_, _, _, rfl, rfl, rfl⟩⟩) (by rw [List.length_map, srt_len]; simp; omega)
  rw [List.filter_eq_self.mpr (by simp), e1] at h
  have e2 : (((srt i).map fun k => rowD (nee r c k) k).filter fun x => match x with | .tup [_, y] => y.isNon | _ => false).map (fun x => match x with | .tup [y, _] => y | _ => .non) = ((srt i).filter fun k => nonT (nee r c k)).map siD := by
    rw [List.filter_map, List.map_map]
    refine congrArg (List.map siD) (List.filter_congr fun k _ => ?_)
    show (nee r c k).frz.isNon = (nee r c k).view.isNon
    unfold nee
    split
    · rfl
    · split <;> rfl
  rw [e2] at h2
  unfold f__law_ledger_due
  simp [b__law_ledger_due, x__law_ledger_due, sort_i hl, h, h2]
theorem f_eq {r' : List (Str × Bool)} {c' : List (SK × Int)} {i' : List (SK × Unit)} : f_Ledger___eq__ [.fr (lD r c i), .fr (lD r' c' i')] = .ret (.fr (.bl (same bq r r' && (same zq c c' && same uq i i')))) [.fr (lD r c i), .fr (lD r' c' i')] := by
  have h : isT (.cls 0) (.cls 0) = some true := by decide +kernel
  unfold f_Ledger___eq__
  cases h1 : same bq r r' <;> cases h2 : same zq c c' <;> simp [b_Ledger___eq__, x_Ledger___eq__, isiD, tagD, tgOf, h, h1, h2]
end
end K77

set_option Elab.async false
set_option linter.all false
set_option maxRecDepth 100000
namespace K77
open PySem L2 DL
theorem keyDs_r : ∀ r : List (Str × Bool), keyDs (rk r) = r.map fun p => D.str p.1
  | [] => rfl
  | p :: r => by
    show D.str p.1 :: keyDs (rk r) = _
    rw [keyDs_r r]
    rfl
theorem keyDs_c : ∀ c : List (SK × Int), keyDs (ck c) = c.map fun p => siD p.1
  | [] => rfl
  | p :: c => by
    show siD p.1 :: keyDs (ck c) = _
    rw [keyDs_c c]
    rfl
theorem keyDs_i : ∀ i : List (SK × Unit), keyDs (ik i) = i.map fun p => siD p.1
  | [] => rfl
  | p :: i => by
    show siD p.1 :: keyDs (ik i) = _
    rw [keyDs_i i]
    rfl
def lft (c : List (SK × Int)) : List (SK × Int) := c.filter fun p => decide (0 < p.2)
theorem pairs_c : ∀ l : List (SK × Int), pairsT (l.map fun p => D.tup [siD p.1, .int p.2]) = some (l.map fun p => ([.inr p.1.1, .inl p.1.2], D.int p.2))
  | [] => rfl
  | p :: l => by
    show (pairsT (l.map fun p => D.tup [siD p.1, .int p.2])).map _ = _
    rw [pairs_c l]
    rfl
theorem fold_c : ∀ (l a : List (SK × Int)), nd (a ++ l) → (l.map fun p => (([.inr p.1.1, .inl p.1.2] : List Key), D.int p.2)).foldl (fun acc p => putX acc.1 acc.2 (.t p.1) p.2) (ck a, cv a) = (ck (a ++ l), cv (a ++ l))
  | [], a, _ => by simp
  | p :: l, a, n => by
    have e : a ++ p :: l = (a ++ [p]) ++ l := by simp
    have n1 : nd (a ++ [p]) := by
      rw [e] at n
      unfold nd at n
      rw [List.map_append] at n
      exact (List.nodup_append.mp n).1
    have na : nd a := by
      unfold nd at n1
      rw [List.map_append] at n1
      exact (List.nodup_append.mp n1).1
    have np : p.1 ∉ a.map (·.1) := fun z => by
      unfold nd at n1
      rw [List.map_append] at n1
      exact (List.nodup_append.mp n1).2.2 _ z _ (by simp) rfl
    have h : putX (ck a) (cv a) (kP p.1) (.int p.2) = (ck (put a p.1 p.2), cv (put a p.1 p.2)) := put_enc (k := p.1) (v := p.2) (vf := fun b => D.int b) kP_inj na
    rw [put_new np] at h
    rw [List.map_cons, List.foldl_cons]
    show (List.map (fun p : SK × Int => (([.inr p.1.1, .inl p.1.2] : List Key), D.int p.2)) l).foldl _ (putX (ck a) (cv a) (kP p.1) (.int p.2)) = _
    rw [h, fold_c l (a ++ [(p.1, p.2)]) (by rw [e] at n; exact n), e]
theorem dict_c {l : List (SK × Int)} (n : nd l) : dictT [.lst (l.map fun p => D.tup [siD p.1, .int p.2])] = some (.dct (ck l) (cv l)) := by
  unfold dictT
  dsimp only
  rw [pairs_c]
  have h := fold_c l [] n
  simp only [ck_nil, cv_nil, List.nil_append] at h
  rw [Option.map_some, h]
theorem lft_nd {c : List (SK × Int)} (n : nd c) : nd (lft c) := List.Nodup.sublist (List.Sublist.map _ List.filter_sublist) n
theorem lk_lft : ∀ {c : List (SK × Int)}, nd c → ∀ k, lk (lft c) k = (lk c k).filter fun v => decide (0 < v)
  | [], _, _ => rfl
  | p :: c, n, k => by
    have n2 : p.1 ∉ c.map (·.1) ∧ nd c := List.nodup_cons.mp n
    have ih := lk_lft n2.2 k
    unfold lft at ih ⊢
    rw [List.filter_cons, lk_cons]
    by_cases hp : 0 < p.2
    · rw [if_pos (decide_eq_true hp), lk_cons, ih]
      by_cases e : p.1 = k
      · rw [if_pos e, if_pos e]
        simp [Option.filter, hp]
      · rw [if_neg e, if_neg e]
    · rw [if_neg (by simpa using hp), ih]
      by_cases e : p.1 = k
      · rw [if_pos e, lk_none.mpr (by rw [← e]; exact n2.1)]
        simp [Option.filter, hp]
      · rw [if_neg e]
section
variable {r : List (Str × Bool)} {c d : List (SK × Int)} {i : List (SK × Unit)} {s : Str} {n z : Int} {b : Bool}
theorem f_left (hn : nd c) (hl : c.length < 16777216) : f__law_what_is_left [.fr (bD r c i d)] = .ret (.fr (.tup [.dct (rk r) (rv r), .dct (ck (lft c)) (cv (lft c)), .dct (ik i) (iv i)])) [.fr (bD r c i d)] := by
  have h := compD_const (vs := [2]) (gd := gN 2) (c := bOf (eBin gtD (eBin idxD (eBin idxD (eVar 0) (eC (.str "copies"))) (eVar 2)) (eC (.int 0)))) (e := eTup (eCons (eVar 2) (eCons (eBin idxD (eBin idxD (eVar 0) (eC (.str "copies"))) (eVar 2)) eNil))) (S0 := [some (.fr (bD r c i d)), none, none])
    (p := fun x => decide (0 < (lk c (keyOfD x)).getD 0)) (g := fun x => .tup [siD (keyOfD x), .int ((lk c (keyOfD x)).getD 0)]) (ds := c.map fun p => siD p.1) (acc := []) (fun x hd => by
      obtain ⟨p, hp, rfl⟩ := List.mem_map.mp hd
      have e : lk c p.1 = some p.2 := lk_of_mem hn hp
      refine ⟨[some (.fr (bD r c i d)), none, some (.fr (siD p.1))], [some (.fr (bD r c i d)), none, some (.fr (siD p.1))], rfl, ?_, fun _ => rfl, fun _ => ⟨.tmp (.fr (.tup [siD p.1, .int p.2])), [some (.fr (bD r c i d)), none, some (.fr (siD p.1))], [some (.fr (bD r c i d)), none, some (.fr (siD p.1))], ?_, ?_, rfl⟩⟩
      · simp [siD_eq, e, keyOfD]
      · simp [siD_eq, e]
      · simp [e]) (by rw [List.length_map]; simp; omega)
  have e : ((c.map fun p => siD p.1).filter fun x => decide (0 < (lk c (keyOfD x)).getD 0)).map (fun x => D.tup [siD (keyOfD x), .int ((lk c (keyOfD x)).getD 0)]) = (lft c).map fun p => D.tup [siD p.1, .int p.2] := by
    rw [List.filter_map, List.map_map]
    have h1 : c.filter ((fun x => decide (0 < (lk c (keyOfD x)).getD 0)) ∘ fun p => siD p.1) = lft c := List.filter_congr fun p hp => by
      show decide (0 < (lk c p.1).getD 0) = _
      rw [lk_of_mem hn (show (p.1, p.2) ∈ c from hp)]
      rfl
    rw [h1]
    refine List.map_congr_left fun p hp => ?_
    show D.tup [siD p.1, .int ((lk c p.1).getD 0)] = _
    rw [lk_of_mem hn (show (p.1, p.2) ∈ c from (List.mem_filter.mp hp).1)]
    rfl
  rw [e] at h
  unfold f__law_what_is_left
  simp [b__law_what_is_left, x__law_what_is_left, keyDs_c, h, dict_c (lft_nd hn)]
end
theorem forD_inv {gd : D → En → Option En} {b : MS} {P : Nat → En → Prop} {K : Nat} : ∀ {ds : List D} {k : Nat} {S : En}, (∀ d ∈ ds, ∀ k S, k < K → P k S → ∃ S1 S2, gd d S = some S1 ∧ b S1 = .nx S2 ∧ P (k + 1) S2) → k + ds.length ≤ K → P k S → ∃ S', forD gd b ds S = .nx S' ∧ P (k + ds.length) S'
  | [], k, S, _, _, hP => ⟨S, rfl, hP⟩
  | d :: ds, k, S, h, hK, hP => by
    have hK2 : k + (ds.length + 1) ≤ K := hK
    obtain ⟨S1, S2, h1, h2, h3⟩ := h d List.mem_cons_self k S (by omega) hP
    obtain ⟨S', e1, e2⟩ := forD_inv (fun x hx => h x (List.mem_cons_of_mem _ hx)) (by omega) h3
    refine ⟨S', ?_, by rw [show k + (d :: ds).length = k + 1 + ds.length by simp; omega]; exact e2⟩
    unfold forD
    rw [h1]
    dsimp only
    rw [h2]
    exact e1
end K77

set_option Elab.async false
set_option linter.all false
set_option maxRecDepth 100000
namespace K77
open PySem L2 DL
section
variable {r : List (Str × Bool)} {c d : List (SK × Int)} {i : List (SK × Unit)} {s : Str} {n z : Int} {b : Bool}
def Val (r : List (Str × Bool)) (c : List (SK × Int)) (i : List (SK × Unit)) : Ev → Prop
  | .begin s => s = nm r.length
  | .close s => lk r s = some true
  | .send s n => lk r s = some true ∧ 0 ≤ n ∧ n ≤ 99
  | .arrive s n => ∃ v, lk c (s, n) = some v ∧ 0 < v
  | .lose s n => ∃ v, lk c (s, n) = some v ∧ 0 < v
  | .forget s n => (lk i (s, n)).isSome = true ∧ ¬ 0 < (lk c (s, n)).getD 0 ∧ lk r s = some false
def EvS (r : List (Str × Bool)) (c d : List (SK × Int)) (i : List (SK × Unit)) (Pd : D) (n : Int) (k : Nat) (S : En) : Prop := ∃ (l : List Ev) (x4 x5 : Option T),
  S = [some (.fr Pd), some (.fr (bD r c i d)), some (.fr (.int n)), some (.lst (l.map Ev.d)), x4, x5, none] ∧ l ≠ [] ∧ l.length ≤ 1 + 8 * k ∧ ∀ e ∈ l, Val r c i e
def eb1 : MS := (sIf (bOf (eBin idxD (eBin idxD (eVar 1) (eC (.str "runs"))) (eVar 4))) (sAsg 3 (eBin addD (eBin addD (eVar 3) (eBin mul2D (eComp [6] (eIt (eLst (eCons (eC (.int 0)) (eCons (eC (.int 1)) (eCons (eC (.int 99)) eNil)))) seqD) (gN 6) bYes (eTup (eCons (eC (.str "send")) (eCons (eVar 4) (eCons (eVar 6) eNil))))) (eC (.int 2)))) (eLst (eCons (eTup (eCons (eC (.str "close")) (eCons (eVar 4) eNil))) eNil)))) sNx)
def eb2 : MS := (sIf (bOf (eBin gtD (eBin idxD (eBin idxD (eVar 1) (eC (.str "copies"))) (eVar 5)) (eC (.int 0)))) (sAsg 3 (eBin addD (eVar 3) (eLst (eCons (eBin addD (eTup (eCons (eC (.str "arrive")) eNil)) (eVar 5)) (eCons (eBin addD (eTup (eCons (eC (.str "arrive")) eNil)) (eVar 5)) (eCons (eBin addD (eTup (eCons (eC (.str "lose")) eNil)) (eVar 5)) eNil)))))) sNx)
def eb3 : MS := (sIf (bOf (eBin isND (eCall f__law_needed (eCons (eVar 1) (eCons (eVar 5) eNil))) (eC .non))) (sDrop (eMut isLst appG (eVar 3) (eCons (eBin addD (eTup (eCons (eC (.str "forget")) eNil)) (eVar 5)) eNil))) sNx)
theorem eb1_t {Pd : D} {x5 : Option T} {L : List D} (hr : lk r s = some true) (hl : L.length + 7 ≤ 16777216) :
    eb1 [some (.fr Pd), some (.fr (bD r c i d)), some (.fr (.int n)), some (.lst L), some (.fr (.str s)), x5, none] = .nx [some (.fr Pd), some (.fr (bD r c i d)), some (.fr (.int n)), some (.lst (L ++ ([.send s 0, .send s 1, .send s 99, .send s 0, .send s 1, .send s 99, .close s] : List Ev).map Ev.d)), some (.fr (.str s)), x5, none] := by
  have h6 : L.length + 6 ≤ 16777216 := by omega
  have h7 : L.length + 6 + 1 ≤ 16777216 := by omega
  unfold eb1
  simp [hr, compD, gN, bYes, mul2D, mulD, List.replicate, Ev.d, h6, h7]
theorem eb1_f {Pd : D} {x5 : Option T} {L : List D} (hr : lk r s = some false) :
    eb1 [some (.fr Pd), some (.fr (bD r c i d)), some (.fr (.int n)), some (.lst L), some (.fr (.str s)), x5, none] = .nx [some (.fr Pd), some (.fr (bD r c i d)), some (.fr (.int n)), some (.lst L), some (.fr (.str s)), x5, none] := by
  unfold eb1
  simp [hr]
theorem eb2_t {Pd : D} {x4 : Option T} {L : List D} {m : Int} (hc : lk c (s, m) = some z) (hz : 0 < z) (hl : L.length + 3 ≤ 16777216) :
    eb2 [some (.fr Pd), some (.fr (bD r c i d)), some (.fr (.int n)), some (.lst L), x4, some (.fr (siD (s, m))), none] = .nx [some (.fr Pd), some (.fr (bD r c i d)), some (.fr (.int n)), some (.lst (L ++ ([.arrive s m, .arrive s m, .lose s m] : List Ev).map Ev.d)), x4, some (.fr (siD (s, m))), none] := by
  unfold eb2
  simp [siD_eq, hc, hz, Ev.d, hl]
theorem eb2_f {Pd : D} {x4 : Option T} {L : List D} {m : Int} (hc : lk c (s, m) = some z) (hz : ¬ 0 < z) :
    eb2 [some (.fr Pd), some (.fr (bD r c i d)), some (.fr (.int n)), some (.lst L), x4, some (.fr (siD (s, m))), none] = .nx [some (.fr Pd), some (.fr (bD r c i d)), some (.fr (.int n)), some (.lst L), x4, some (.fr (siD (s, m))), none] := by
  unfold eb2
  simp [siD_eq, hc, hz]
theorem eb3_t {Pd : D} {x4 : Option T} {L : List D} {m : Int} (hr : (lk r s).isSome = true) (hn : nee r c (s, m) = .fr .non) (hl : L.length < 16777216) :
    eb3 [some (.fr Pd), some (.fr (bD r c i d)), some (.fr (.int n)), some (.lst L), x4, some (.fr (siD (s, m))), none] = .nx [some (.fr Pd), some (.fr (bD r c i d)), some (.fr (.int n)), some (.lst (L ++ ([.forget s m] : List Ev).map Ev.d)), x4, some (.fr (siD (s, m))), none] := by
  unfold eb3
  simp [siD_eq, f_needed hr, hn, Ev.d, hl, D.isNon, appG]
theorem eb3_f {Pd : D} {x4 : Option T} {L : List D} {m : Int} (hr : (lk r s).isSome = true) (hn : nonT (nee r c (s, m)) = false) :
    eb3 [some (.fr Pd), some (.fr (bD r c i d)), some (.fr (.int n)), some (.lst L), x4, some (.fr (siD (s, m))), none] = .nx [some (.fr Pd), some (.fr (bD r c i d)), some (.fr (.int n)), some (.lst L), x4, some (.fr (siD (s, m))), none] := by
  unfold nonT at hn
  unfold eb3
  simp [siD_eq, f_needed hr, hn, show D.non.isNon = true from rfl]
@[simp] theorem len_r : len2D [.dct (rk r) (rv r)] = some (.fr (.int r.length)) := by
  have h : (rk r).all (fun | .k _ => true | .t _ => false) = true := by simp [rk, kS]
  show (if (rk r).all (fun | .k _ => true | .t _ => false) = true then some (T.fr (.int (rv r).length)) else none) = _
  rw [if_pos h, rv_len]
theorem add_nm1 {a : Nat} : addD (.str "x") (.str ⟨#[a]⟩) = some (.fr (.str (("x" : Str) ++ (⟨#[a]⟩ : Str)))) := by
  rw [add_str, if_pos]
  rw [show ("x" : Str).length = 1 by decide +kernel]
  show 1 + 1 ≤ sizeLine
  decide
theorem add_nm2 {a b : Nat} : addD (.str (("x" : Str) ++ (⟨#[a]⟩ : Str))) (.str ⟨#[b]⟩) = some (.fr (.str ((("x" : Str) ++ (⟨#[a]⟩ : Str)) ++ (⟨#[b]⟩ : Str)))) := by
  rw [add_str, if_pos]
  show (("x" : Str).cps ++ #[a]).size + 1 ≤ sizeLine
  rw [Array.size_append, show ("x" : Str).cps.size = 1 by decide +kernel]
  show 1 + 1 + 1 ≤ sizeLine
  decide
theorem imm_evs : ∀ l : List Ev, imms (l.map Ev.d) = true
  | [] => rfl
  | e :: l => by
    rw [List.map_cons, imms_cons, imm_evs l]
    cases e <;> simp [Ev.d]
theorem ev_run {Pd : D} {m : Int} {c1 c2 : Nat} {l1 l2 l3 : List Ev} {x4 x5 y4 y5 z4 z5 : Option T} (hm : (r.length : Int) = m) (q1 : sIxD (.str "abcdefghijklm") (.int (m / 13)) = some (.fr (.str ⟨#[c1]⟩))) (q2 : sIxD (.str "abcdefghijklm") (.int (m % 13)) = some (.fr (.str ⟨#[c2]⟩)))
    (e1 : forD (gN 4) eb1 (r.map fun p => D.str p.1) [some (.fr Pd), some (.fr (bD r c i d)), some (.fr (.int m)), some (.lst [.tup [.str "begin", .str ((("x" : Str) ++ (⟨#[c1]⟩ : Str)) ++ (⟨#[c2]⟩ : Str))]]), none, none, none] = .nx [some (.fr Pd), some (.fr (bD r c i d)), some (.fr (.int m)), some (.lst (l1.map Ev.d)), x4, x5, none])
    (e2 : forD (gN 5) eb2 (c.map fun p => siD p.1) [some (.fr Pd), some (.fr (bD r c i d)), some (.fr (.int m)), some (.lst (l1.map Ev.d)), x4, x5, none] = .nx [some (.fr Pd), some (.fr (bD r c i d)), some (.fr (.int m)), some (.lst (l2.map Ev.d)), y4, y5, none])
    (e3 : forD (gN 5) eb3 (i.map fun p => siD p.1) [some (.fr Pd), some (.fr (bD r c i d)), some (.fr (.int m)), some (.lst (l2.map Ev.d)), y4, y5, none] = .nx [some (.fr Pd), some (.fr (bD r c i d)), some (.fr (.int m)), some (.lst (l3.map Ev.d)), z4, z5, none]) :
    f__law_events [.fr Pd, .fr (bD r c i d)] = .ret (.lst (l3.map Ev.d)) [.fr Pd, .fr (bD r c i d)] := by
  have l13 : Nat.log2 13 < 9000 := by decide +kernel
  have l14 : ((0 : Int) < 13) = True := eq_true (by decide)
  unfold eb1 at e1
  unfold eb2 at e2
  unfold eb3 at e3
  unfold f__law_events
  simp [-add_str, b__law_events, x__law_events, hm, q1, q2, l13, l14, add_nm1, add_nm2, keyDs_r, keyDs_c, keyDs_i, e1, e2, e3]
theorem f_events {Pd : D} (hn : nd r) (hl : r.length < 60) (nc : nd c) (hlc : c.length ≤ 60) (hli : i.length ≤ 60) (hk : okK r i) (ni : nd i) :
    ∃ l : List Ev, f__law_events [.fr Pd, .fr (bD r c i d)] = .ret (.lst (l.map Ev.d)) [.fr Pd, .fr (bD r c i d)] ∧ l ≠ [] ∧ l.length ≤ 2000 ∧ ∀ e ∈ l, Val r c i e := by
  have q1 : sIxD (.str "abcdefghijklm") (.int ((r.length : Int) / 13)) = some (.fr (.str ⟨#[97 + r.length / 13]⟩)) := sIx_abc (i := r.length / 13) (by omega)
  have q2 : sIxD (.str "abcdefghijklm") (.int ((r.length : Int) % 13)) = some (.fr (.str ⟨#[97 + r.length % 13]⟩)) := sIx_abc (i := r.length % 13) (by omega)
  obtain ⟨S1, e1, l1, x4, x5, rfl, h1, h2, h3⟩ := forD_inv (gd := gN 4) (b := eb1) (P := EvS r c d i Pd r.length) (K := 60) (ds := r.map fun p => D.str p.1) (k := 0) (S := [some (.fr Pd), some (.fr (bD r c i d)), some (.fr (.int r.length)), some (.lst [Ev.d (.begin (nm r.length))]), none, none, none]) (fun x hx k S hK ⟨l, x4, x5, eS, g1, g2, g3⟩ => by
    obtain ⟨p, hp, rfl⟩ := List.mem_map.mp hx
    have hr : lk r p.1 = some p.2 := lk_of_mem hn hp
    subst eS
    cases hb : p.2 with
    | true =>
      rw [hb] at hr
      refine ⟨_, _, rfl, eb1_t hr (by rw [List.length_map]; omega), l ++ [.send p.1 0, .send p.1 1, .send p.1 99, .send p.1 0, .send p.1 1, .send p.1 99, .close p.1], _, _, by rw [List.map_append], by simp, by simp; omega, fun e he => ?_⟩
      rcases List.mem_append.mp he with he | he
      · exact g3 e he
      · simp only [List.mem_cons, List.not_mem_nil, or_false] at he
        rcases he with rfl | rfl | rfl | rfl | rfl | rfl | rfl <;> first | exact ⟨hr, by decide, by decide⟩ | exact hr
    | false =>
      rw [hb] at hr
      exact ⟨_, _, rfl, eb1_f hr, l, _, _, rfl, g1, by omega, g3⟩) (by rw [List.length_map]; omega) ⟨[.begin (nm r.length)], none, none, rfl, by simp, by simp, fun e he => by
    rw [List.mem_singleton] at he
    subst he
    rfl⟩
  obtain ⟨S2, e2, l2, y4, y5, rfl, i1, i2, i3⟩ := forD_inv (gd := gN 5) (b := eb2) (P := EvS r c d i Pd r.length) (K := 120) (ds := c.map fun p => siD p.1) (k := 60) (S := [some (.fr Pd), some (.fr (bD r c i d)), some (.fr (.int r.length)), some (.lst (l1.map Ev.d)), x4, x5, none]) (fun x hx k S hK ⟨l, x4, x5, eS, g1, g2, g3⟩ => by
    obtain ⟨p, hp, rfl⟩ := List.mem_map.mp hx
    have hr : lk c p.1 = some p.2 := lk_of_mem nc hp
    subst eS
    by_cases hb : 0 < p.2
    · refine ⟨_, _, rfl, eb2_t hr hb (by rw [List.length_map]; omega), l ++ [.arrive p.1.1 p.1.2, .arrive p.1.1 p.1.2, .lose p.1.1 p.1.2], _, _, by rw [List.map_append], by simp, by simp; omega, fun e he => ?_⟩
      rcases List.mem_append.mp he with he | he
      · exact g3 e he
      · simp only [List.mem_cons, List.not_mem_nil, or_false] at he
        rcases he with rfl | rfl | rfl <;> exact ⟨_, hr, hb⟩
    · exact ⟨_, _, rfl, eb2_f hr hb, l, _, _, rfl, g1, by omega, g3⟩) (by rw [List.length_map]; omega) ⟨l1, x4, x5, rfl, h1, by rw [List.length_map] at h2; omega, h3⟩
  obtain ⟨S3, e3, l3, z4, z5, rfl, j1, j2, j3⟩ := forD_inv (gd := gN 5) (b := eb3) (P := EvS r c d i Pd r.length) (K := 180) (ds := i.map fun p => siD p.1) (k := 120) (S := [some (.fr Pd), some (.fr (bD r c i d)), some (.fr (.int r.length)), some (.lst (l2.map Ev.d)), y4, y5, none]) (fun x hx k S hK ⟨l, x4, x5, eS, g1, g2, g3⟩ => by
    obtain ⟨p, hp, rfl⟩ := List.mem_map.mp hx
    have hi : (lk i p.1).isSome = true := by rw [lk_of_mem ni (show (p.1, p.2) ∈ i from hp)]; rfl
    obtain ⟨a1, a2, a3, a4⟩ := hk p.1 hi
    subst eS
    by_cases hv : 0 < (lk c p.1).getD 0
    · have hne : nonT (nee r c (p.1.1, p.1.2)) = false := by
        unfold nee
        rw [if_pos hv]
        rfl
      exact ⟨_, _, rfl, eb3_f a4 hne, l, _, _, rfl, g1, by omega, g3⟩
    · obtain ⟨b, hb⟩ := Option.isSome_iff_exists.mp a4
      cases b with
      | true =>
        have hne : nonT (nee r c (p.1.1, p.1.2)) = false := by
          unfold nee
          rw [if_neg hv, if_pos hb]
          rfl
        exact ⟨_, _, rfl, eb3_f a4 hne, l, _, _, rfl, g1, by omega, g3⟩
      | false =>
        have hne : nee r c (p.1.1, p.1.2) = .fr .non := by
          unfold nee
          rw [if_neg hv, if_neg (by rw [hb]; decide)]
        refine ⟨_, _, rfl, eb3_t a4 hne (by rw [List.length_map]; omega), l ++ [.forget p.1.1 p.1.2], _, _, by rw [List.map_append], by simp, by simp; omega, fun e he => ?_⟩
        rcases List.mem_append.mp he with he | he
        · exact g3 e he
        · rw [List.mem_singleton] at he
          subst he
          exact ⟨hi, hv, hb⟩) (by rw [List.length_map]; omega) ⟨l2, y4, y5, rfl, i1, by rw [List.length_map] at i2; omega, i3⟩
  refine ⟨l3, ?_, j1, by rw [List.length_map] at j2; omega, j3⟩
  exact ev_run rfl q1 q2 e1 e2 e3
end
end K77

set_option Elab.async false
set_option linter.all false
set_option maxRecDepth 100000
namespace K77
open PySem L2 DL
structure Ok (r : List (Str × Bool)) (lc : List (SK × Int)) (i : List (SK × Unit)) (bc d : List (SK × Int)) (t : Nat) : Prop where
  rn : r.map (·.1) = (List.range r.length).map nm
  rl : r.length ≤ t
  ln : nd lc
  inn : nd i
  bn : nd bc
  dn : nd d
  ll : lc.length ≤ t
  il : i.length ≤ t
  bl : bc.length ≤ t
  dl : d.length ≤ t
  eq : ∀ k, lk lc k = (lk bc k).filter fun v => decide (0 < v)
  bk : ∀ k : SK, (lk bc k).isSome = true → (lk r k.1).isSome = true ∧ 0 ≤ k.2 ∧ k.2 ≤ 99
  ik : ∀ k : SK, (lk i k).isSome = true → (lk r k.1).isSome = true ∧ 0 ≤ k.2 ∧ k.2 ≤ 99
  nn : ∀ k v, lk bc k = some v → 0 ≤ v
theorem ok0 : Ok [] [] [] [] [] 0 := ⟨rfl, Nat.zero_le _, by simp [nd], by simp [nd], by simp [nd], by simp [nd], Nat.le_refl _, Nat.le_refl _, Nat.le_refl _, Nat.le_refl _, fun _ => rfl, fun k h => by simp at h, fun k h => by simp at h, fun k v h => by simp at h⟩
section
variable {r : List (Str × Bool)} {lc bc d : List (SK × Int)} {i : List (SK × Unit)} {t : Nat} {s : Str} {n : Int}
theorem Ok.name (h : Ok r lc i bc d t) (ht : t ≤ 60) (hs : (lk r s).isSome = true) : isNm s := by
  have h1 : s ∈ r.map (·.1) := by
    cases e : lk r s with
    | none => rw [e] at hs; cases hs
    | some v => exact Classical.byContradiction fun z => by rw [lk_none.mpr z] at e; cases e
  rw [h.rn] at h1
  obtain ⟨j, hj, rfl⟩ := List.mem_map.mp h1
  have := h.rl
  rw [List.mem_range] at hj
  exact ⟨j, by omega, rfl⟩
theorem nodup_map_range {m : Nat} (hm : m ≤ 64) : ((List.range m).map nm).Nodup := by
  rw [List.nodup_iff_pairwise_ne, List.pairwise_map]
  refine List.Pairwise.imp_of_mem (fun {a b} ha hb hab => ?_) (List.nodup_iff_pairwise_ne.mp List.nodup_range)
  rw [List.mem_range] at ha hb
  exact fun z => hab (nm_inj (by omega) (by omega) z)
theorem Ok.rnd (h : Ok r lc i bc d t) (ht : t ≤ 60) : nd r := by
  unfold nd
  rw [h.rn]
  have := h.rl
  exact nodup_map_range (by omega)
theorem Ok.okK (h : Ok r lc i bc d t) (ht : t ≤ 60) : okK r i := fun k hk => by
  obtain ⟨a, b, c⟩ := h.ik k hk
  exact ⟨h.name ht a, b, c, a⟩
theorem Ok.dng (h : Ok r lc i bc d t) (k : SK) : dng r lc k = nee r bc k := by
  unfold K77.dng nee
  rw [h.eq]
  cases lk bc k with
  | none => simp
  | some v => by_cases hv : 0 < v <;> simp [Option.filter, hv]
theorem Ok.new (h : Ok r lc i bc d t) (ht : t ≤ 59) : lk r (nm r.length) = none := by
  rw [lk_none, h.rn]
  intro z
  obtain ⟨j, hj, e⟩ := List.mem_map.mp z
  rw [List.mem_range] at hj
  have := h.rl
  have := nm_inj (by omega) (by omega) e
  omega
theorem put_keep {α β : Type} [DecidableEq α] {l : List (α × β)} {k : α} {v : β} (h : (lk l k).isSome = true) : (put l k v).map (·.1) = l.map (·.1) ∧ (put l k v).length = l.length := by
  have h1 : k ∈ l.map (·.1) := Classical.byContradiction fun z => by rw [lk_none.mpr z] at h; cases h
  have h2 : (put l k v).map (·.1) = l.map (·.1) := by rw [put_keys, if_pos h1]
  refine ⟨h2, ?_⟩
  have := congrArg List.length h2
  simpa using this
theorem some_put {α β : Type} [DecidableEq α] {l : List (α × β)} {k j : α} {v : β} (h : (lk l j).isSome = true) : (lk (put l k v) j).isSome = true := by
  rw [lk_put]
  split
  · rfl
  · exact h
theorem put_some {α β : Type} [DecidableEq α] {l : List (α × β)} {k j : α} {v : β} (h : (lk (put l k v) j).isSome = true) : k = j ∨ (lk l j).isSome = true := by
  rw [lk_put] at h
  split at h
  · exact .inl (by assumption)
  · exact .inr h
theorem nn_put {l : List (SK × Int)} {k : SK} {v : Int} (h : ∀ k v, lk l k = some v → 0 ≤ v) (hv : 0 ≤ v) : ∀ j w, lk (put l k v) j = some w → 0 ≤ w := fun j w e => by
  rw [lk_put] at e
  split at e
  · cases e; exact hv
  · exact h j w e
theorem tk_nd {l : List (SK × Int)} {k : SK} {v : Int} (h : nd l) : nd (tk l k v) := by
  unfold tk
  split
  · exact put_nd (del_nd h)
  · exact del_nd h
theorem tk_len {l : List (SK × Int)} {k : SK} {v : Int} : (tk l k v).length ≤ l.length + 1 := by
  have h := del_len (l := l) (k := k)
  unfold tk
  split
  · have := put_len (l := del l k) (k := k) (v := v - 1)
    omega
  · omega
theorem lk_tk {l : List (SK × Int)} {k j : SK} {v : Int} : lk (tk l k v) j = if k = j then (if 1 < v then some (v - 1) else none) else lk l j := by
  unfold tk
  by_cases h : 1 < v
  · rw [if_pos h, lk_put, lk_del, if_pos h]
    by_cases e : k = j
    · rw [if_pos e, if_pos e]
    · rw [if_neg e, if_neg e, if_neg e]
  · rw [if_neg h, lk_del, if_neg h]
theorem eq_tk {lc bc : List (SK × Int)} {k : SK} {v : Int} (h : ∀ k, lk lc k = (lk bc k).filter fun v => decide (0 < v)) (j : SK) : lk (tk lc k v) j = (lk (put bc k (v - 1)) j).filter fun v => decide (0 < v) := by
  rw [lk_tk, lk_put]
  by_cases e : k = j
  · rw [if_pos e, if_pos e]
    by_cases hv : 1 < v
    · rw [if_pos hv]
      simp [Option.filter, hv]
    · rw [if_neg hv]
      simp [Option.filter]
      omega
  · rw [if_neg e, if_neg e, h]
theorem eq_send {lc bc : List (SK × Int)} {k : SK} (h : ∀ k, lk lc k = (lk bc k).filter fun v => decide (0 < v)) (nn : ∀ k v, lk bc k = some v → 0 ≤ v) (j : SK) :
    lk (put lc k ((lk lc k).getD 0 + 1)) j = (lk (put bc k ((lk bc k).getD 0 + 1)) j).filter fun v => decide (0 < v) := by
  rw [lk_put, lk_put]
  by_cases e : k = j
  · rw [if_pos e, if_pos e, h]
    cases hb : lk bc k with
    | none => simp [Option.filter]
    | some v =>
      have := nn k v hb
      by_cases hv : 0 < v
      · simp [Option.filter, hv]; omega
      · have : v = 0 := by omega
        subst this
        simp [Option.filter]
  · rw [if_neg e, if_neg e, h]
theorem getD_nn {l : List (SK × Int)} {k : SK} (h : ∀ k v, lk l k = some v → 0 ≤ v) : 0 ≤ (lk l k).getD 0 + 1 := by
  cases e : lk l k with
  | none => simp
  | some v => have := h k v e; simp; omega
theorem step (h : Ok r lc i bc d t) (ht : t ≤ 58) (e : Ev) (he : Val r bc i e) : ∃ (r' : List (Str × Bool)) (lc' : List (SK × Int)) (i' : List (SK × Unit)) (bc' d' : List (SK × Int)) (res : D),
    f__law_tell [lO r lc i, .fr e.d] = .ret (.fr res) [lO r' lc' i', .fr e.d] ∧ f__law_noted [bO r bc i d, .fr e.d] = .ret (.fr res) [bO r' bc' i' d', .fr e.d] ∧ Ok r' lc' i' bc' d' (t + 1) ∧ (res = .non ∨ ∃ b, res = .bl b) := by
  have rnd := h.rnd (by omega)
  have rl := h.rl
  have ll := h.ll
  have bl := h.bl
  have il := h.il
  have dl := h.dl
  cases e with
  | begin s =>
    have he : s = nm r.length := he
    subst he
    have hnew := h.new (by omega)
    have hnm : isNm (nm r.length) := ⟨r.length, by omega, rfl⟩
    refine ⟨_, _, _, _, _, _, t_begin hnm hnew rnd (by omega), n_begin rnd (by omega), ⟨?_, ?_, h.ln, h.inn, h.bn, h.dn, by omega, by omega, by omega, by omega, h.eq, fun k hk => ?_, fun k hk => ?_, h.nn⟩, .inl rfl⟩
    · rw [put_new (lk_none.mp hnew), List.map_append, h.rn, List.length_append]
      show _ ++ [nm r.length] = (List.range (r.length + 1)).map nm
      rw [List.range_succ, List.map_append]
      rfl
    · have := put_len (l := r) (k := nm r.length) (v := true)
      omega
    · obtain ⟨a, b⟩ := h.bk k hk
      exact ⟨some_put a, b⟩
    · obtain ⟨a, b⟩ := h.ik k hk
      exact ⟨some_put a, b⟩
  | close s =>
    have he : lk r s = some true := he
    have hs : (lk r s).isSome = true := by rw [he]; rfl
    refine ⟨_, _, _, _, _, _, t_close (h.name (by omega) hs) he rnd (by omega), n_close rnd (by omega), ⟨?_, ?_, h.ln, h.inn, h.bn, h.dn, by omega, by omega, by omega, by omega, h.eq, fun k hk => ?_, fun k hk => ?_, h.nn⟩, .inl rfl⟩
    · rw [(put_keep hs).1, (put_keep hs).2, h.rn]
    · rw [(put_keep hs).2]; omega
    · obtain ⟨a, b⟩ := h.bk k hk
      exact ⟨some_put a, b⟩
    · obtain ⟨a, b⟩ := h.ik k hk
      exact ⟨some_put a, b⟩
  | send s n =>
    obtain ⟨he, h0, h1⟩ := he
    have hs : (lk r s).isSome = true := by rw [he]; rfl
    refine ⟨_, _, _, _, _, _, t_send (h.name (by omega) hs) h0 h1 he h.ln (by omega), n_send h.bn (by omega), ⟨h.rn, by omega, put_nd h.ln, h.inn, put_nd h.bn, h.dn, ?_, by omega, ?_, by omega, eq_send h.eq h.nn, fun k hk => ?_, h.ik, nn_put h.nn (getD_nn h.nn)⟩, .inl rfl⟩
    · have := put_len (l := lc) (k := (s, n)) (v := (lk lc (s, n)).getD 0 + 1)
      omega
    · have := put_len (l := bc) (k := (s, n)) (v := (lk bc (s, n)).getD 0 + 1)
      omega
    · rcases put_some hk with rfl | hk
      · exact ⟨hs, h0, h1⟩
      · exact h.bk k hk
  | arrive s n =>
    obtain ⟨v, hv, hp⟩ := he
    obtain ⟨hs, h0, h1⟩ := h.bk (s, n) (by rw [hv]; rfl)
    have hl : lk lc (s, n) = some v := by rw [h.eq, hv]; simp [Option.filter, hp]
    obtain ⟨d', hd', hno⟩ := n_arrive (r := r) (s := s) (n := n) h.bn (by omega) h.inn (by omega) h.dn (by omega) hv
    refine ⟨_, _, _, _, _, _, t_arrive (h.name (by omega) hs) h0 h1 hs hl h.ln (by omega) h.inn (by omega), hno, ⟨h.rn, by omega, tk_nd h.ln, put_nd h.inn, put_nd h.bn, ?_, ?_, ?_, ?_, ?_, eq_tk h.eq, fun k hk => ?_, fun k hk => ?_, nn_put h.nn (by omega)⟩, .inr ⟨_, rfl⟩⟩
    · rw [hd']; exact put_nd h.dn
    · have := tk_len (l := lc) (k := (s, n)) (v := v)
      omega
    · have := put_len (l := i) (k := (s, n)) (v := ())
      omega
    · rw [(put_keep (l := bc) (by rw [hv]; rfl)).2]; omega
    · rw [hd']
      have := put_len (l := d) (k := (s, n)) (v := (lk d (s, n)).getD 0 + if (lk i (s, n)).isNone = true then 1 else 0)
      omega
    · rcases put_some hk with rfl | hk
      · exact ⟨hs, h0, h1⟩
      · exact h.bk k hk
    · rcases put_some hk with rfl | hk
      · exact ⟨hs, h0, h1⟩
      · exact h.ik k hk
  | lose s n =>
    obtain ⟨v, hv, hp⟩ := he
    obtain ⟨hs, h0, h1⟩ := h.bk (s, n) (by rw [hv]; rfl)
    have hl : lk lc (s, n) = some v := by rw [h.eq, hv]; simp [Option.filter, hp]
    refine ⟨_, _, _, _, _, _, t_lose (h.name (by omega) hs) h0 h1 hs hl h.ln (by omega), n_lose h.bn (by omega) hv, ⟨h.rn, by omega, tk_nd h.ln, h.inn, put_nd h.bn, h.dn, ?_, by omega, ?_, by omega, eq_tk h.eq, fun k hk => ?_, h.ik, nn_put h.nn (by omega)⟩, .inl rfl⟩
    · have := tk_len (l := lc) (k := (s, n)) (v := v)
      omega
    · rw [(put_keep (l := bc) (by rw [hv]; rfl)).2]; omega
    · rcases put_some hk with rfl | hk
      · exact ⟨hs, h0, h1⟩
      · exact h.bk k hk
  | forget s n =>
    obtain ⟨hi, hc, hr⟩ := he
    obtain ⟨hs, h0, h1⟩ := h.ik (s, n) hi
    have hl : lk lc (s, n) = none := by
      rw [h.eq]
      cases e : lk bc (s, n) with
      | none => rfl
      | some v =>
        rw [e] at hc
        simp at hc
        simp [Option.filter]
        omega
    refine ⟨_, _, _, _, _, _, t_forget (h.name (by omega) hs) h0 h1 hr hl hi, n_forget hi, ⟨h.rn, by omega, h.ln, del_nd h.inn, h.bn, h.dn, by omega, ?_, by omega, by omega, h.eq, h.bk, fun k hk => ?_, h.nn⟩, .inl rfl⟩
    · have := del_len (l := i) (k := (s, n))
      omega
    · rw [lk_del] at hk
      split at hk
      · cases hk
      · exact h.ik k hk
end
end K77

set_option Elab.async false
set_option linter.all false
set_option maxRecDepth 100000
namespace K77
open PySem L2 DL
theorem frzA_cons {x : Option T} {S : En} : frzA (x :: S) = (x.map fun t => T.fr t.frz) :: frzA S := rfl
@[simp] theorem len_lst {ds : List D} : len2D [.lst ds] = some (.fr (.int ds.length)) := rfl
def okD : Nat → D → Bool
  | 0, _ => false
  | n + 1, d => match d with
    | .non => true
    | .bl _ => true
    | .int _ => true
    | .str _ => true
    | .lst xs => xs.all (okD n)
    | .tup xs => xs.all (okD n)
    | _ => false
theorem zip_self {γ : Type} (f : D → D → γ) : ∀ xs : List D, List.zipWith f xs xs = xs.map fun x => f x x
  | [] => rfl
  | x :: xs => by rw [List.zipWith_cons_cons, zip_self f xs]; rfl
theorem eqF_refl : ∀ (n : Nat) (d : D), okD n d = true → eqF n d d = some true
  | 0, d, h => by cases h
  | n + 1, d, h => by
    have key : ∀ xs : List D, xs.all (okD n) = true → allO (List.zipWith (eqF n) xs xs) = some true := fun xs hx => by
      rw [zip_self, allO_fn (g := fun _ => true) fun x hm => eqF_refl n x (List.all_eq_true.mp hx x hm)]
      simp
    cases d with
    | non => rfl
    | bl b => simp [eqF]
    | int b => simp [eqF]
    | str b => simp [eqF]
    | lst xs =>
      unfold eqF
      simp only [if_true]
      exact key xs h
    | tup xs =>
      unfold eqF
      simp only []
      rw [key xs h]
      simp
    | _ => cases h
theorem ne_self {d : D} (h : okD 40 d = true) : neD d d = some (.fr (.bl false)) := by
  unfold neD
  rw [eqF_refl 40 d h]
  rfl
section
variable {r : List (Str × Bool)} {lc bc d : List (SK × Int)} {i : List (SK × Unit)} {r2 : List (Str × Bool)} {lc2 bc2 d2 : List (SK × Int)} {i2 : List (SK × Unit)} {t : Nat} {s : Str} {n : Int}
theorem nee_ok (k : SK) : okD 37 (nee r bc k).frz = true := by
  unfold nee
  split
  · rfl
  · split <;> rfl
theorem due_ok : okD 40 (.tup [.lst ((srt i).map fun k => rowD (nee r bc k) k), .lst (((srt i).filter fun k => nonT (nee r bc k)).map siD)]) = true := by
  have a : ((srt i).map fun k => rowD (nee r bc k) k).all (okD 38) = true := by
    rw [List.all_map, List.all_eq_true]
    intro k _
    show (okD 37 (siD k) && (okD 37 (nee r bc k).frz && true)) = true
    rw [nee_ok]
    rfl
  have b : (((srt i).filter fun k => nonT (nee r bc k)).map siD).all (okD 38) = true := by
    rw [List.all_map, List.all_eq_true]
    intro k _
    rfl
  show (List.all _ (okD 38) && (List.all _ (okD 38) && true)) = true
  rw [a, b]
  rfl
abbrev Fm (sc : T) (x1 : Option T) (pl lg ot bk mr : T) (x7 x8 x9 : Option T) : En := [some sc, x1, some pl, some lg, some ot, some bk, some mr, x7, x8, x9, none]
abbrev pO (p q : Int) : T := .lst [.int p, .int q]
variable {sc : T} {x1 x7 x8 x9 : Option T} {p q : Int} {ot mr bk lg : T}
theorem st1 {l : List Ev} (h : f__law_events [.fr (.lst [.int p, .int q]), .fr (bD r bc i d)] = .ret (.lst (l.map Ev.d)) [.fr (.lst [.int p, .int q]), .fr (bD r bc i d)]) :
    (sAsg 8 (eBor (eCall f__law_events (eCons (eVar 2) (eCons (eVar 5) eNil))))) (Fm sc x1 (pO p q) lg ot (bO r bc i d) mr x7 x8 x9) = .nx (Fm sc x1 (pO p q) lg ot (bO r bc i d) mr x7 (some (.lst (l.map Ev.d))) x9) := by
  simp [frzA_cons, h, imm_evs]
theorem st6 {l : List Ev} (h : f__law_events [.fr (.lst [.int p, .int q]), .fr (bD r bc i d)] = .ret (.lst (l.map Ev.d)) [.fr (.lst [.int p, .int q]), .fr (bD r bc i d)]) :
    (sAsg 8 (eBor (eCall f__law_events (eCons (eVar 2) (eCons (eVar 6) eNil))))) (Fm sc x1 (pO p q) lg ot bk (bO r bc i d) x7 x8 x9) = .nx (Fm sc x1 (pO p q) lg ot bk (bO r bc i d) x7 (some (.lst (l.map Ev.d))) x9) := by
  simp [frzA_cons, h, imm_evs]
theorem st2 {L : List D} {e : D} {m c : Int} {p' q' : Int} (hm : (L.length : Int) = m) (h : f__law_draw [.lst [.int p, .int q], .fr (.int m)] = .ret (.fr (.int c)) [.lst [.int p', .int q'], .fr (.int m)]) (hc : atI L c = some e) :
    (sAsg 9 (eBin idxD (eVar 8) (eCall f__law_draw (eCons (eVar 2) (eCons (eCB len2D (eCons (eVar 8) eNil)) eNil))))) (Fm sc x1 (pO p q) lg ot bk mr x7 (some (.lst L)) x9) = .nx (Fm sc x1 (pO p' q') lg ot bk mr x7 (some (.lst L)) (some (.fr e))) := by
  simp [hm, h, hc]
theorem st3 {e res : D} {r' : List (Str × Bool)} {lc' bc' d' : List (SK × Int)} {i' : List (SK × Unit)} (h1 : f__law_tell [lO r lc i, .fr e] = .ret (.fr res) [lO r' lc' i', .fr e]) (h2 : f__law_noted [bO r bc i d, .fr e] = .ret (.fr res) [bO r' bc' i' d', .fr e]) (hr : neD res res = some (.fr (.bl false))) :
    (sIf (bOf (eBin neD (eCall f__law_tell (eCons (eVar 3) (eCons (eVar 9) eNil))) (eCall f__law_noted (eCons (eVar 5) (eCons (eVar 9) eNil))))) (sRet (eC (.bl false))) sNx) (Fm sc x1 (pO p q) (lO r lc i) ot (bO r bc i d) mr x7 x8 (some (.fr e))) = .nx (Fm sc x1 (pO p q) (lO r' lc' i') ot (bO r' bc' i' d') mr x7 x8 (some (.fr e))) := by
  simp [h1, h2, hr]
theorem imm_si : ∀ l : List SK, imms (l.map siD) = true
  | [] => rfl
  | k :: l => by
    rw [List.map_cons, imms_cons, imm_si l, siD_eq]
    simp
theorem drop_app {L : List D} {S : En} {g : M Rv} (b : g S = .ok (.tmp (.lst L)) S) (a : appG (.lst L) [.non] = some (.lst (L ++ [.non]), .non)) : (sDrop (eMut isLst appG g (eCons (eC .non) eNil))) S = .nx S := by
  have h : eCk isLst g S = .ok (.tmp (.lst L)) S := by simp [b]
  have h2 : eMut isLst appG g (eCons (eC .non) eNil) S = .ok (.tmp (.fr .non)) S := by
    rw [eMut_ap, bind_ap, h]
    dsimp only
    simp
    rw [a]
    rfl
  rw [sDrop_ap, h2]
theorem st4 (hi : i.length < 64) : (sDrop (eMut isLst appG (eBor (eMeth 0 "kept" f_Ledger_kept (eVar 3) eNil)) (eCons (eC .non) eNil))) (Fm sc x1 (pO p q) (lO r lc i) ot bk mr x7 x8 x9) = .nx (Fm sc x1 (pO p q) (lO r lc i) ot bk mr x7 x8 x9) := by
  have h : ((srt i).map siD).length < 16777216 := by rw [List.length_map, srt_len]; omega
  have e := f_kept (r := r) (c := lc) hi
  have m := imm_si (srt i)
  generalize (srt i).map siD = L at h e m
  have hm : L.length = L.length := rfl
  have a : appG (.lst L) [.non] = some (.lst (L ++ [.non]), .non) := by
    show (if L.length < sizeLine then some (T.lst (L ++ [D.non]), D.non) else none) = _
    rw [if_pos (show L.length < sizeLine from h)]
  have b : (eBor (eMeth 0 "kept" f_Ledger_kept (eVar 3) eNil)) (Fm sc x1 (pO p q) (lO r lc i) ot bk mr x7 x8 x9) = .ok (.tmp (.lst L)) (Fm sc x1 (pO p q) (lO r lc i) ot bk mr x7 x8 x9) := by
    rw [eBor_ap]
    simp [frzA_cons, -f_kept]
    rw [e]
    simp [m]
  exact drop_app b a
theorem st5 {X : D} (h1 : f__law_ledger_shown [.fr (lD r lc i)] = .ret (.fr X) [.fr (lD r lc i)]) (h2 : f__law_ledger_due [.fr (bD r bc i d)] = .ret (.fr X) [.fr (bD r bc i d)]) (h3 : neD X X = some (.fr (.bl false))) :
    (sIf (bBor (bOf (eBin neD (eCall f__law_ledger_shown (eCons (eVar 3) eNil)) (eCall f__law_ledger_due (eCons (eVar 5) eNil))))) (sRet (eC (.bl false))) sNx) (Fm sc x1 (pO p q) (lO r lc i) ot (bO r bc i d) mr x7 x8 x9) = .nx (Fm sc x1 (pO p q) (lO r lc i) ot (bO r bc i d) mr x7 x8 x9) := by
  simp [frzA_cons, h1, h2, h3]
theorem eqF_tup {n : Nat} {xs ys : List D} : eqF (n + 1) (.tup xs) (.tup ys) = (allO (List.zipWith (eqF n) xs ys)).map fun b => b && (xs.length == ys.length) := rfl
theorem eqF_int {n : Nat} {a b : Int} : eqF (n + 1) (.int a) (.int b) = some (a == b) := rfl
theorem ev_eq (e f : Ev) : eqF 39 e.d f.d = some (decide (e = f)) := by
  cases e <;> cases f <;> simp only [Ev.d, eqF_tup (n := 38), List.zipWith_cons_cons, List.zipWith_nil_left, List.zipWith_nil_right, eqF_str (n := 37), eqF_int (n := 37)] <;> simp [allO, Bool.beq_eq_decide_eq]
theorem ev_in {e : Ev} {l : List Ev} : indD false e.d (.lst (l.map Ev.d)) = some (.fr (.bl (decide (e ∈ l)))) := by
  have h1 : (l.map Ev.d).all (fun x => (eqF 39 x e.d).isSome) = true := by
    rw [List.all_map, List.all_eq_true]
    intro f _
    show (eqF 39 f.d e.d).isSome = true
    rw [ev_eq]
    rfl
  have h2 : (l.map Ev.d).any (fun x => eqF 39 x e.d == some true) = decide (e ∈ l) := by
    rw [List.any_map, Bool.eq_iff_iff, List.any_eq_true, decide_eq_true_iff]
    constructor
    · intro ⟨f, hf, he⟩
      have he : (eqF 39 f.d e.d == some true) = true := he
      rw [ev_eq] at he
      simp at he
      rw [← he]
      exact hf
    · intro he
      refine ⟨e, he, ?_⟩
      show (eqF 39 e.d e.d == some true) = true
      rw [ev_eq]
      simp
  rw [ind_lst]
  unfold inF
  rw [if_pos h1, h2]
  simp
theorem st7 {e : D} {L : List D} {res : D} {b b2 : Bool} {c p' q' : Int} {r' : List (Str × Bool)} {lc' bc' d' : List (SK × Int)} {i' : List (SK × Unit)} (hin : indD false e (.lst L) = some (.fr (.bl b))) (hd : f__law_draw [.lst [.int p, .int q], .fr (.int 8)] = .ret (.fr (.int c)) [.lst [.int p', .int q'], .fr (.int 8)]) (hc : decide (0 < c) = b2)
    (h1 : b = true → f__law_tell [lO r2 lc2 i2, .fr e] = .ret (.fr res) [lO r' lc' i', .fr e]) (h2 : b = true → f__law_noted [bO r2 bc2 i2 d2, .fr e] = .ret (.fr res) [bO r' bc' i' d', .fr e]) :
    (sIf (bAnd (bOf (eBin (indD false) (eVar 9) (eVar 8))) (bOf (eBin gtD (eCall f__law_draw (eCons (eVar 2) (eCons (eC (.int 8)) eNil))) (eC (.int 0))))) (sSeq (sDrop (eCall f__law_tell (eCons (eVar 4) (eCons (eVar 9) eNil))))
      (sDrop (eCall f__law_noted (eCons (eVar 6) (eCons (eVar 9) eNil))))) sNx) (Fm sc x1 (pO p q) lg (lO r2 lc2 i2) bk (bO r2 bc2 i2 d2) x7 (some (.lst L)) (some (.fr e))) =
      if b = true then (if b2 = true then .nx (Fm sc x1 (pO p' q') lg (lO r' lc' i') bk (bO r' bc' i' d') x7 (some (.lst L)) (some (.fr e))) else .nx (Fm sc x1 (pO p' q') lg (lO r2 lc2 i2) bk (bO r2 bc2 i2 d2) x7 (some (.lst L)) (some (.fr e))))
      else .nx (Fm sc x1 (pO p q) lg (lO r2 lc2 i2) bk (bO r2 bc2 i2 d2) x7 (some (.lst L)) (some (.fr e))) := by
  cases b with
  | false => cases b2 <;> simp [-ind_lst, hin]
  | true =>
    have h1 := h1 rfl
    have h2 := h2 rfl
    cases b2 with
    | true => simp [-ind_lst, hin, hd, of_decide_eq_true hc, h1, h2]
    | false => simp [-ind_lst, hin, hd, of_decide_eq_false hc]
theorem nf0 : nfT 0 (.cls 0) = true := by decide +kernel
theorem st8 {b : Bool} (nc : nd bc) (nc2 : nd bc2) (hl : bc.length < 16777216) (hl2 : bc2.length < 16777216) (h1 : (same bq r r2 && (same zq lc lc2 && same uq i i2)) = b) (h2 : (same bq r r2 && (same zq (lft bc) (lft bc2) && (same uq i i2 && true))) = b) :
    (sIf (bBor (bOf (eBin neD (eCall (noX f_Ledger___eq__) (eCkA (ckEq 0 (nfT 0)) (eCons (eVar 3) (eCons (eVar 4) eNil)))) (eBin eqDW (eCall f__law_what_is_left (eCons (eVar 5) eNil)) (eCall f__law_what_is_left (eCons (eVar 6) eNil)))))) (sRet (eC (.bl false))) sNx) (Fm sc x1 (pO p q) (lO r lc i) (lO r2 lc2 i2) (bO r bc i d) (bO r2 bc2 i2 d2) x7 x8 x9) = .nx (Fm sc x1 (pO p q) (lO r lc i) (lO r2 lc2 i2) (bO r bc i d) (bO r2 bc2 i2 d2) x7 x8 x9) := by
  have e := f_eq (r := r) (c := lc) (i := i) (r' := r2) (c' := lc2) (i' := i2)
  rw [h1] at e
  have f := eqD_left r r2 (lft bc) (lft bc2) i i2
  rw [h2] at f
  have g : neD (.bl b) (.bl b) = some (.fr (.bl false)) := ne_self rfl
  simp [frzA_cons, ckEq, tagE, nf0, noX, e, f_left nc hl, f_left nc2 hl2, f, g]
end
end K77

set_option Elab.async false
set_option linter.all false
set_option maxRecDepth 100000
namespace K77
open PySem L2 DL
section
variable {r : List (Str × Bool)} {lc bc d : List (SK × Int)} {i : List (SK × Unit)} {r2 : List (Str × Bool)} {lc2 bc2 d2 : List (SK × Int)} {i2 : List (SK × Unit)} {t : Nat} {s : Str} {n : Int}
variable {sc : T} {x1 x7 x8 x9 : Option T} {p q : Int} {ot mr bk lg : T}
theorem same_copies (h : Ok r lc i bc d t) (h2 : Ok r2 lc2 i2 bc2 d2 t) : same zq lc lc2 = same zq (lft bc) (lft bc2) := by
  have zq_iff : ∀ v w : Int, zq v w = true ↔ v = w := fun v w => by unfold zq; exact beq_iff_eq
  rw [Bool.eq_iff_iff, same_iff zq_iff h.ln h2.ln, same_iff zq_iff (lft_nd h.bn) (lft_nd h2.bn)]
  constructor
  · intro e k
    rw [lk_lft h.bn, lk_lft h2.bn, ← h.eq, ← h2.eq, e]
  · intro e k
    rw [h.eq, h2.eq, ← lk_lft h.bn, ← lk_lft h2.bn, e]
def InP (sc : T) (x1 : Option T) (t : Nat) (S : En) : Prop := ∃ (p q : Int) (r : List (Str × Bool)) (lc : List (SK × Int)) (i : List (SK × Unit)) (bc d : List (SK × Int)) (r2 : List (Str × Bool)) (lc2 : List (SK × Int)) (i2 : List (SK × Unit)) (bc2 d2 : List (SK × Int)) (x7 x8 x9 : Option T),
  S = Fm sc x1 (pO p q) (lO r lc i) (lO r2 lc2 i2) (bO r bc i d) (bO r2 bc2 i2 d2) x7 x8 x9 ∧ Ok r lc i bc d t ∧ Ok r2 lc2 i2 bc2 d2 t
def inB : MS := (sSeq (sAsg 8 (eBor (eCall f__law_events (eCons (eVar 2) (eCons (eVar 5) eNil)))))
      (sSeq (sAsg 9 (eBin idxD (eVar 8) (eCall f__law_draw (eCons (eVar 2) (eCons (eCB len2D (eCons (eVar 8) eNil)) eNil)))))
      (sSeq (sIf (bOf (eBin neD (eCall f__law_tell (eCons (eVar 3) (eCons (eVar 9) eNil))) (eCall f__law_noted (eCons (eVar 5) (eCons (eVar 9) eNil))))) (sRet (eC (.bl false))) sNx)
      (sSeq (sDrop (eMut isLst appG (eBor (eMeth 0 "kept" f_Ledger_kept (eVar 3) eNil)) (eCons (eC .non) eNil)))
      (sSeq (sIf (bBor (bOf (eBin neD (eCall f__law_ledger_shown (eCons (eVar 3) eNil)) (eCall f__law_ledger_due (eCons (eVar 5) eNil))))) (sRet (eC (.bl false))) sNx)
      (sSeq (sAsg 8 (eBor (eCall f__law_events (eCons (eVar 2) (eCons (eVar 6) eNil)))))
      (sSeq (sIf (bAnd (bOf (eBin (indD false) (eVar 9) (eVar 8))) (bOf (eBin gtD (eCall f__law_draw (eCons (eVar 2) (eCons (eC (.int 8)) eNil))) (eC (.int 0))))) (sSeq (sDrop (eCall f__law_tell (eCons (eVar 4) (eCons (eVar 9) eNil))))
      (sDrop (eCall f__law_noted (eCons (eVar 6) (eCons (eVar 9) eNil))))) sNx)
      (sIf (bBor (bOf (eBin neD (eCall (noX f_Ledger___eq__) (eCkA (ckEq 0 (nfT 0)) (eCons (eVar 3) (eCons (eVar 4) eNil)))) (eBin eqDW (eCall f__law_what_is_left (eCons (eVar 5) eNil)) (eCall f__law_what_is_left (eCons (eVar 6) eNil)))))) (sRet (eC (.bl false))) sNx))))))))
theorem seq_nx {f g : MS} {S S' : En} (h : f S = .nx S') : sSeq f g S = g S' := by rw [sSeq_ap, h]
theorem Ok.up (h : Ok r lc i bc d t) : Ok r lc i bc d (t + 1) :=
  { h with rl := by have := h.rl; omega, ll := by have := h.ll; omega, il := by have := h.il; omega, bl := by have := h.bl; omega, dl := by have := h.dl; omega }
theorem log_small {m : Int} (h0 : 0 < m) (h1 : m ≤ 2000) : m.natAbs.log2 < 9000 := by
  have h2 : m.natAbs < 2 ^ 11 := by omega
  have h3 := (Nat.log2_lt (by omega : m.natAbs ≠ 0)).mpr h2
  omega
theorem in_step (dd : D) (k : Nat) (S : En) (hk : k < 41) (hP : InP sc x1 k S) : ∃ S1 S2, gN 7 dd S = some S1 ∧ inB S1 = .nx S2 ∧ InP sc x1 (k + 1) S2 := by
  obtain ⟨p, q, r, lc, i, bc, d, r2, lc2, i2, bc2, d2, x7, x8, x9, rfl, h, h2⟩ := hP
  refine ⟨Fm sc x1 (pO p q) (lO r lc i) (lO r2 lc2 i2) (bO r bc i d) (bO r2 bc2 i2 d2) (some (.fr dd)) x8 x9, ?_⟩
  have rl := h.rl
  have il := h.il
  have bl := h.bl
  obtain ⟨l, e1, lne, llen, lval⟩ := f_events (Pd := .lst [.int p, .int q]) (d := d) (h.rnd (by omega)) (by omega) h.bn (by omega) (by omega) (h.okK (by omega)) h.inn
  have lpos : 0 < l.length := List.length_pos_iff.mpr lne
  obtain ⟨m, hm⟩ : ∃ m : Int, ((l.map Ev.d).length : Int) = m := ⟨_, rfl⟩
  rw [List.length_map] at hm
  obtain ⟨p', q', c, e2, c0, c1⟩ := f_draw p q m (by omega) (log_small (by omega) (by omega))
  obtain ⟨e, he, hel⟩ := atI_lt (xs := l.map Ev.d) (i := c) c0 (by rw [List.length_map]; omega)
  obtain ⟨ev, hev, rfl⟩ := List.mem_map.mp hel
  obtain ⟨r', lc', i', bc', d', res, g1, g2, hO, hres⟩ := step h (by omega) ev (lval ev hev)
  have hne : neD res res = some (.fr (.bl false)) := by
    rcases hres with rfl | ⟨b, rfl⟩
    · exact ne_self rfl
    · exact ne_self rfl
  have il' := hO.il
  have bl' := hO.bl
  have hsh := f_shown (r := r') (c := lc') (i := i') (by omega) (hO.okK (by omega))
  have hdu := f_due (r := r') (c := bc') (d := d') (i := i') (by omega) (hO.okK (by omega))
  have hdn : (fun k => K77.dng r' lc' k) = fun k => nee r' bc' k := funext fun k => hO.dng k
  have hdn1 : ∀ k, K77.dng r' lc' k = nee r' bc' k := fun k => hO.dng k
  simp only [hdn1] at hsh
  have rl2 := h2.rl
  have il2 := h2.il
  have bl2 := h2.bl
  obtain ⟨l2, f1, l2ne, l2len, l2val⟩ := f_events (Pd := .lst [.int p', .int q']) (d := d2) (h2.rnd (by omega)) (by omega) h2.bn (by omega) (by omega) (h2.okK (by omega)) h2.inn
  obtain ⟨p3, q3, c3, f3, _, _⟩ := f_draw p' q' 8 (by decide) (log_small (by decide) (by decide))
  obtain ⟨r3, lc3, i3, bc3, d3, res3, k1, k2, hO3⟩ : ∃ (r3 : List (Str × Bool)) (lc3 : List (SK × Int)) (i3 : List (SK × Unit)) (bc3 d3 : List (SK × Int)) (res3 : D), (decide (ev ∈ l2) = true → f__law_tell [lO r2 lc2 i2, .fr ev.d] = .ret (.fr res3) [lO r3 lc3 i3, .fr ev.d]) ∧ (decide (ev ∈ l2) = true → f__law_noted [bO r2 bc2 i2 d2, .fr ev.d] = .ret (.fr res3) [bO r3 bc3 i3 d3, .fr ev.d]) ∧ (decide (ev ∈ l2) = true → Ok r3 lc3 i3 bc3 d3 (k + 1)) := by
    by_cases hin : ev ∈ l2
    · obtain ⟨r3, lc3, i3, bc3, d3, res3, k1, k2, k3, _⟩ := step h2 (by omega) ev (l2val ev hin)
      exact ⟨r3, lc3, i3, bc3, d3, res3, fun _ => k1, fun _ => k2, fun _ => k3⟩
    · exact ⟨[], [], [], [], [], .non, fun z => absurd (of_decide_eq_true z) hin, fun z => absurd (of_decide_eq_true z) hin, fun z => absurd (of_decide_eq_true z) hin⟩
  have last : ∀ {ra : List (Str × Bool)} {la : List (SK × Int)} {ia : List (SK × Unit)} {ba da : List (SK × Int)} {P Q : Int} {y7 y8 y9 : Option T}, Ok ra la ia ba da (k + 1) → ∃ S2,
      (sIf (bBor (bOf (eBin neD (eCall (noX f_Ledger___eq__) (eCkA (ckEq 0 (nfT 0)) (eCons (eVar 3) (eCons (eVar 4) eNil)))) (eBin eqDW (eCall f__law_what_is_left (eCons (eVar 5) eNil)) (eCall f__law_what_is_left (eCons (eVar 6) eNil)))))) (sRet (eC (.bl false))) sNx) (Fm sc x1 (pO P Q) (lO r' lc' i') (lO ra la ia) (bO r' bc' i' d') (bO ra ba ia da) y7 y8 y9) = .nx S2 ∧ InP sc x1 (k + 1) S2 := by
    intro ra la ia ba da P Q y7 y8 y9 ha
    have bla := ha.bl
    have e := same_copies hO ha
    refine ⟨_, st8 hO.bn ha.bn (by omega) (by omega) rfl (by rw [← e, Bool.and_true]), P, Q, r', lc', i', bc', d', ra, la, ia, ba, da, y7, y8, y9, rfl, hO, ha⟩
  have s7 := st7 (sc := sc) (x1 := x1) (x7 := some (.fr dd)) (lg := lO r' lc' i') (bk := bO r' bc' i' d') (p := p') (q := q') (ev_in (e := ev) (l := l2)) f3 rfl k1 k2
  have main : ∃ S2, inB (Fm sc x1 (pO p q) (lO r lc i) (lO r2 lc2 i2) (bO r bc i d) (bO r2 bc2 i2 d2) (some (.fr dd)) x8 x9) = .nx S2 ∧ InP sc x1 (k + 1) S2 := by
    unfold inB
    rw [seq_nx (st1 e1), seq_nx (st2 (by rw [List.length_map]; exact hm) e2 he), seq_nx (st3 g1 g2 hne), seq_nx (st4 (by omega)), seq_nx (st5 hsh hdu (ne_self due_ok)), seq_nx (st6 f1)]
    by_cases hb : decide (ev ∈ l2) = true
    · rw [if_pos hb] at s7
      by_cases hc : decide (0 < c3) = true
      · rw [if_pos hc] at s7
        rw [seq_nx s7]
        exact last (hO3 hb)
      · rw [if_neg hc] at s7
        rw [seq_nx s7]
        exact last h2.up
    · rw [if_neg hb] at s7
      rw [seq_nx s7]
      exact last h2.up
  obtain ⟨S2, m1, m2⟩ := main
  exact ⟨S2, rfl, m1, m2⟩
end
theorem f_eqX {r : List (Str × Bool)} {c : List (SK × Int)} {i : List (SK × Unit)} {x : D} {tg : Tg} (h : tagD x = some tg) (h2 : isT tg (.cls 0) = some false) : f_Ledger___eq__ [.fr (lD r c i), .fr x] = .ret (.fr (.bl false)) [.fr (lD r c i), .fr x] := by
  have e : isiD isT [x, .cls 0] = some (.fr (.bl false)) := by
    unfold isiD
    dsimp only
    rw [h]
    simp [tgOf, h2]
  unfold f_Ledger___eq__
  simp [b_Ledger___eq__, x_Ledger___eq__, e]
def outB : MS := (sSeq (sAsg 2 (eCall f__law_pool (eCons (eVar 0) (eCons (eVar 1) eNil))))
      (sSeq (sParN [3, 4] (eCons (eNewN 0 ["own_runs", "own_copies", "own_ids"]) (eCons (eNewN 0 ["own_runs", "own_copies", "own_ids"]) eNil)))
      (sSeq (sPar 5 6 (eCons (eCall f__law_book eNil) (eCons (eCall f__law_book eNil) eNil)))
      (sSeq (sFor (eItL (eCons (eCall f__law_draw (eCons (eVar 2) (eCons (eC (.int 41)) eNil))) eNil) rng1D) (gN 7) inB)
      (sIf (bBor (bOf (eBin neD (eComp [10] (eIt (eLst (eCons (eVar 5) (eCons (eC .non) (eCons (eC (.int 5)) eNil)))) seqD) (gN 10) (bOf (eCall (noX f_Ledger___eq__) (eCkA (ckEq 0 (nfT 0)) (eCons (eVar 3) (eCons (eVar 10) eNil))))) (eVar 10)) (eLst eNil)))) (sRet (eC (.bl false))) sNx)))))
section
variable {r : List (Str × Bool)} {lc bc d : List (SK × Int)} {i : List (SK × Unit)} {sc : T} {x1 x7 x8 x9 : Option T} {p q : Int} {ot mr bk lg : T}
theorem nfd : nfT 0 (.ty "dict") = true := by decide +kernel
theorem nfn : nfT 0 (.ty "NoneType") = true := by decide +kernel
theorem nfi : nfT 0 (.ty "int") = true := by decide +kernel
theorem odd_ok : (sIf (bBor (bOf (eBin neD (eComp [10] (eIt (eLst (eCons (eVar 5) (eCons (eC .non) (eCons (eC (.int 5)) eNil)))) seqD) (gN 10) (bOf (eCall (noX f_Ledger___eq__) (eCkA (ckEq 0 (nfT 0)) (eCons (eVar 3) (eCons (eVar 10) eNil))))) (eVar 10)) (eLst eNil)))) (sRet (eC (.bl false))) sNx)
    (Fm sc x1 (pO p q) (lO r lc i) ot (bO r bc i d) mr x7 x8 x9) = .nx (Fm sc x1 (pO p q) (lO r lc i) ot (bO r bc i d) mr x7 x8 x9) := by
  have e1 := f_eqX (r := r) (c := lc) (i := i) (x := bD r bc i d) (tg := .ty "dict") rfl (by decide +kernel)
  have e2 := f_eqX (r := r) (c := lc) (i := i) (x := .non) (tg := .ty "NoneType") rfl (by decide +kernel)
  have e3 := f_eqX (r := r) (c := lc) (i := i) (x := .int 5) (tg := .ty "int") rfl (by decide +kernel)
  have g : neD (.lst []) (.lst []) = some (.fr (.bl false)) := ne_self rfl
  have cst := compD_const (vs := [10]) (gd := gN 10) (c := bOf (eCall (noX f_Ledger___eq__) (eCkA (ckEq 0 (nfT 0)) (eCons (eVar 3) (eCons (eVar 10) eNil))))) (e := eVar 10)
    (S0 := [some (.fr sc.frz), x1.map fun t => T.fr t.frz, some (.fr (.lst [.int p, .int q])), some (.fr (lD r lc i)), some (.fr ot.frz), some (.fr (bD r bc i d)), some (.fr mr.frz), x7.map fun t => T.fr t.frz, x8.map fun t => T.fr t.frz, x9.map fun t => T.fr t.frz, none])
    (p := fun _ => false) (g := id) (ds := [bD r bc i d, .non, .int 5]) (acc := []) (fun x hx => by
      simp only [List.mem_cons, List.not_mem_nil, or_false] at hx
      refine ⟨[some (.fr sc.frz), x1.map fun t => T.fr t.frz, some (.fr (.lst [.int p, .int q])), some (.fr (lD r lc i)), some (.fr ot.frz), some (.fr (bD r bc i d)), some (.fr mr.frz), x7.map fun t => T.fr t.frz, x8.map fun t => T.fr t.frz, x9.map fun t => T.fr t.frz, some (.fr x)], [some (.fr sc.frz), x1.map fun t => T.fr t.frz, some (.fr (.lst [.int p, .int q])), some (.fr (lD r lc i)), some (.fr ot.frz), some (.fr (bD r bc i d)), some (.fr mr.frz), x7.map fun t => T.fr t.frz, x8.map fun t => T.fr t.frz, x9.map fun t => T.fr t.frz, some (.fr x)], rfl, ?_, fun _ => rfl, fun z => by cases z⟩
      rcases hx with rfl | rfl | rfl
      · simp [ckEq, tagE, nfd, noX, e1]
      · simp [ckEq, tagE, nfn, noX, e2]
      · simp [ckEq, tagE, nfi, noX, e3]) (by simp)
  simp [frzA_cons, cst, g]
def OutP (sc : T) (S : En) : Prop := ∃ x1 x2 x3 x4 x5 x6 x7 x8 x9 : Option T, S = [some sc, x1, x2, x3, x4, x5, x6, x7, x8, x9, none]
end
theorem rng_int {j : Int} (h0 : 0 ≤ j) (h1 : j < 100) : rng1D [.int j] = some (rng 0 j.toNat) := by
  unfold rng1D
  dsimp only
  rw [if_pos ⟨by omega, by omega⟩]
theorem outB_ok (ns : List Int) (k : Nat) (hk : k < 5) {x2 x3 x4 x5 x6 x7 x8 x9 : Option T} : ∃ S2, outB [some (.fr (.scr (ns.map D.int))), some (.fr (.int k)), x2, x3, x4, x5, x6, x7, x8, x9, none] = .nx S2 ∧ OutP (.fr (.scr (ns.map D.int))) S2 := by
  obtain ⟨p, q, e1⟩ := f_pool ns k hk
  obtain ⟨p', q', c, e2, c0, c1⟩ := f_draw p q 41 (by decide) (log_small (by decide) (by decide))
  have r1 := rng_int c0 (by omega)
  have leSc : leT (.fr (.scr (ns.map D.int))) (.fr (.scr (ns.map D.int))) = true := rfl
  obtain ⟨S3, e3, p3, q3, r, lc, i, bc, d, r2, lc2, i2, bc2, d2, y7, y8, y9, rfl, h, h2⟩ := forD_inv (gd := gN 7) (b := inB) (P := InP (.fr (.scr (ns.map D.int))) (some (.fr (.int k)))) (K := 41) (ds := rng 0 c.toNat) (k := 0)
    (S := Fm (.fr (.scr (ns.map D.int))) (some (.fr (.int k))) (pO p' q') (lO [] [] []) (lO [] [] []) (bO [] [] [] []) (bO [] [] [] []) x7 x8 x9) (fun dd _ k S hK hP => in_step dd k S hK hP) (by unfold rng; simp; omega) ⟨p', q', _, _, _, _, _, _, _, _, _, _, x7, x8, x9, rfl, ok0, ok0⟩
  have o := odd_ok (sc := .fr (.scr (ns.map D.int))) (x1 := some (.fr (.int k))) (p := p3) (q := q3) (r := r) (lc := lc) (i := i) (bc := bc) (d := d) (ot := lO r2 lc2 i2) (mr := bO r2 bc2 i2 d2) (x7 := y7) (x8 := y8) (x9 := y9)
  refine ⟨Fm (.fr (.scr (ns.map D.int))) (some (.fr (.int k))) (pO p3 q3) (lO r lc i) (lO r2 lc2 i2) (bO r bc i d) (bO r2 bc2 i2 d2) y7 y8 y9, ?_, some (.fr (.int k)), some (pO p3 q3), some (lO r lc i), some (lO r2 lc2 i2), some (bO r bc i d), some (bO r2 bc2 i2 d2), y7, y8, y9, rfl⟩
  · unfold outB
    have a1 : (sAsg 2 (eCall f__law_pool (eCons (eVar 0) (eCons (eVar 1) eNil)))) [some (.fr (.scr (ns.map D.int))), some (.fr (.int k)), x2, x3, x4, x5, x6, x7, x8, x9, none] = .nx [some (.fr (.scr (ns.map D.int))), some (.fr (.int k)), some (pO p q), x3, x4, x5, x6, x7, x8, x9, none] := by
      generalize D.scr (ns.map D.int) = z at e1 ⊢
      simp [e1]
    have a2 : (sParN [3, 4] (eCons (eNewN 0 ["own_runs", "own_copies", "own_ids"]) (eCons (eNewN 0 ["own_runs", "own_copies", "own_ids"]) eNil))) [some (.fr (.scr (ns.map D.int))), some (.fr (.int k)), some (pO p q), x3, x4, x5, x6, x7, x8, x9, none] = .nx [some (.fr (.scr (ns.map D.int))), some (.fr (.int k)), some (pO p q), some (lO [] [] []), some (lO [] [] []), x5, x6, x7, x8, x9, none] := by
      simp [setAll, NS]
    have a3 : (sPar 5 6 (eCons (eCall f__law_book eNil) (eCons (eCall f__law_book eNil) eNil))) [some (.fr (.scr (ns.map D.int))), some (.fr (.int k)), some (pO p q), some (lO [] [] []), some (lO [] [] []), x5, x6, x7, x8, x9, none] = .nx (Fm (.fr (.scr (ns.map D.int))) (some (.fr (.int k))) (pO p q) (lO [] [] []) (lO [] [] []) (bO [] [] [] []) (bO [] [] [] []) x7 x8 x9) := by
      simp [f_book]
    have a4 : (sFor (eItL (eCons (eCall f__law_draw (eCons (eVar 2) (eCons (eC (.int 41)) eNil))) eNil) rng1D) (gN 7) inB) (Fm (.fr (.scr (ns.map D.int))) (some (.fr (.int k))) (pO p q) (lO [] [] []) (lO [] [] []) (bO [] [] [] []) (bO [] [] [] []) x7 x8 x9) = .nx (Fm (.fr (.scr (ns.map D.int))) (some (.fr (.int k))) (pO p3 q3) (lO r lc i) (lO r2 lc2 i2) (bO r bc i d) (bO r2 bc2 i2 d2) y7 y8 y9) := by
      rw [← e3]
      simp [e2, r1]
    rw [seq_nx a1, seq_nx a2, seq_nx a3, seq_nx a4]
    exact o
theorem plain (ns : List Int) (hl : ns.length ≤ 63) : ∃ us, f_law [.fr (.scr (ns.map D.int))] = .ret (.fr (.bl true)) us := by
  have hb : b_law = sSeq (sFor (eItL (eCons (eCB max2D (eCons (eC (.int 1)) (eCons (eCB min2D (eCons (eC (.int 5)) (eCons (eCB len2D (eCons (eVar 0) eNil)) eNil))) eNil))) eNil) rng1D) (gN 1) outB) (sRet (eC (.bl true))) := rfl
  obtain ⟨m, hm⟩ : ∃ m : Int, (ns.length : Int) = m := ⟨_, rfl⟩
  have hl2 : len2D [.scr (ns.map D.int)] = some (.fr (.int m)) := by
    show some (T.fr (.int ((ns.map D.int).length : Int))) = _
    rw [List.length_map, hm]
  obtain ⟨j, hj, j0, j1⟩ : ∃ j : Int, max2D [.int 1, .int (if m < 5 then m else 5)] = some (.fr (.int j)) ∧ 0 ≤ j ∧ j ≤ 5 := ⟨_, rfl, by split <;> split <;> omega, by split <;> split <;> omega⟩
  have r1 := rng_int j0 (by omega)
  obtain ⟨S', e1, x1, x2, x3, x4, x5, x6, x7, x8, x9, rfl⟩ := forD_inv (gd := gN 1) (b := outB) (P := fun _ => OutP (.fr (.scr (ns.map D.int)))) (K := 5) (ds := rng 0 j.toNat) (k := 0) (S := [some (.fr (.scr (ns.map D.int))), none, none, none, none, none, none, none, none, none, none]) (fun dd hd k S hK ⟨x1, x2, x3, x4, x5, x6, x7, x8, x9, eS⟩ => by
    subst eS
    unfold rng at hd
    obtain ⟨a, ha, rfl⟩ := List.mem_map.mp hd
    rw [List.mem_range] at ha
    rw [Int.zero_add]
    obtain ⟨S2, h1, h2⟩ := outB_ok ns a (by omega) (x2 := x2) (x3 := x3) (x4 := x4) (x5 := x5) (x6 := x6) (x7 := x7) (x8 := x8) (x9 := x9)
    exact ⟨_, S2, rfl, h1, h2⟩) (by unfold rng; simp; omega) ⟨none, none, none, none, none, none, none, none, none, rfl⟩
  generalize D.scr (ns.map D.int) = z at hl2 e1 ⊢
  refine ⟨[.fr z], ?_⟩
  · unfold f_law
    rw [hb]
    simp [hl2, min2D, hj, r1, e1, x_law]
end K77

set_option Elab.async false
set_option linter.all false
set_option maxRecDepth 100000
set_option maxHeartbeats 8000000
open PySem PySem.W PySem.Calls PyProof.Rows
theorem PySem.Challenge.cw_wholeback_k77_ledgers_told_holds : PySem.Challenge.rw_wholeback_k77_ledgers_told.Holds := by
  w_on; o_law
  refine HandSHeadRun.head_any (r := OpenLaw.row PySem.Challenge.rw_wholeback_k77_ledgers_told) (q := view (OpenLaw.row PySem.Challenge.rw_wholeback_k77_ledgers_told).prog [31]) (H := K77.hkX) (ob := K77.obX) (M := 4000) (loose := K77.loose) (d := HandSHeadRun.topDef (OpenLaw.row PySem.Challenge.rw_wholeback_k77_ledgers_told).prog 31) (kwd := []) K77.obX_eq
    (by kernel_rfl) (fun s => by kernel_rfl) K77.run (by kernel_rfl) (by kernel_rfl) (by kernel_rfl) (by rfl) (by first | assumption | decide +kernel) (by decide +kernel) ⟨rfl, rfl, rfl, rfl, rfl, by decide +kernel⟩ ?hw ?hc
  case hw => w_witness2
  case hc =>
    refine L2.walk_ofE (l := PySem.Challenge.rw_wholeback_k77_ledgers_told) (n := 63) (k := 12) (x := "script") (CX := L2.CX0) rfl (by decide) (by kernel_rfl) ⟨rfl, by decide, by decide⟩ ?F (fun _ _ _ _ z => z)
    intro w mg fa h Y G hmg0
    obtain ⟨K, KX, c⟩ := Y
    have hmg : mg ("law" : PySem.Str) = some (.ref fa) := by
      have e : (HandSHeadRun.topDef (OpenLaw.row PySem.Challenge.rw_wholeback_k77_ledgers_told).prog 31).name = ("law" : PySem.Str) := by kernel_rfl
      rw [← e]
      exact hmg0
    obtain ⟨fd, hb, hF⟩ := K77.facts (P := (PySem.Challenge.rw_wholeback_k77_ledgers_told).prog) (w := w) KX G hmg c
    exact ⟨K, fd, DL.spD (K77.kt (PySem.Challenge.rw_wholeback_k77_ledgers_told).prog w K) K77.f_law, KX, hb, DL.spD_law (κ := K77.kt (PySem.Challenge.rw_wholeback_k77_ledgers_told).prog w K) (K77.exAt c.more 6 rfl) K77.plain, hF⟩

