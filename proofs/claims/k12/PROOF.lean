import PyProof.Rows.All
import Wide.All
import OpenK.AllK
import Wide.FinOn
import HandS.ForMost
import HandS.ForExc
import HandS.Flow
import HandS.Wide
import HandS.Defaults
import KE.KExcSuper
import HandS.ExcInit
import HandS.Nested
import HandS.TryMany
import HandS.ExcField
import HandS.Head0
import HandS.Head1
import HandS.Head2
import HandS.HeadHook1
import HandS.HeadHook2
import HandS.TupMul
import HandS.TupAny
import HandS.IsInst
import HandS.Style
import HandS.Deep
import HandS.RaiseMore
import HandS.Strs
import HandS.SetFor
import HandS.Conv
import PyProof.ReprRoads
import PyProof.Rows.ReprR
import PyProof.InstNe
import HandS.CallRecv
import HandS.HeadWalk
import HandS.MakeKwOnly
import HandS.RevTup
import HandS.Star
import HandS.SortInts
import HandS.SortRule
import HandS.Zip
import KE.KUnpack
import HandS.Iter
import KE.KEqNest
import PyProof.NeKinds
import HandS.Dict
import HandS.Ends
import HandS.HeadEnd
import PySem.Challenge.RW_tableheld_k12_whole_alignments_one_behin
set_option Elab.async false
set_option linter.all false
set_option maxRecDepth 100000
set_option maxHeartbeats 0
section
namespace T
open PySem PySem.Spec L2

/-! ### data as trees -/
inductive D where
  | non | bl (b : Bool) | int (i : Int) | str (x : Str)
  | tup (ds : List D) | lst (ds : List D) | dct (ks : List Key) (ds : List D)
  | ins (c : Nat) (as : List Nat) (ds : List D) | ref (n : Nat) | ro (ds : List D)
deriving Inhabited

/-- a mutable object of the store -/
inductive Ob where
  | lst (ds : List D) | dct (ks : List Key) (ds : List D) | ins (c : Nat) (as : List Nat) (ds : List D)
deriving Inhabited

abbrev Store := List Ob

/-- what stands fixed behind the top -/
structure Glo where
  P : Program
  w : World
  K : PySem.W.Frag
  mg : Str → Option Value
  base : Heap
  ca : Nat → Addr
  at_ : Nat → Str
  vc : Nat → Bool
  va : Nat → Bool
  xv : Nat → Bool
  cx : Nat → Addr
  xa : Nat → Str

/-- a list that is only read: the script -/
def RoL (K : PySem.W.Frag) (H : Hp) (a : Addr) (xs : List V) : Prop := (∃ o, H a = some (.frz o (.lst xs))) ∨ (∃ (o : Obj) (its : Array Value) (n : Nat), K.lookup a = some o ∧ o.cls = .type "list" ∧ o.dict = none ∧ o.data = .seq its n ∧ its.size ≤ sizeLine ∧ Vals xs its.toList)
theorem RoL.sq {K : PySem.W.Frag} {H : Hp} {a : Addr} {xs : List V} (h : RoL K H a xs) : SqL K H a xs := by
  rcases h with h | h
  · exact .inl (.inr h)
  · exact .inr h

section
variable (G : Glo) (F : Addr → Prop) (ι : List Addr) (H : Hp)
mutual
inductive Rp : D → V → Prop
  | non : Rp .non .non
  | bl (b : Bool) : Rp (.bl b) (.bl b)
  | int (i : Int) : Rp (.int i) (.int i)
  | str (x : Str) : Rp (.str x) (.str x)
  | tup {a : Addr} {vs : List V} {ds : List D} : SqT G.K H a vs → Rps ds vs → Rp (.tup ds) (.ref a)
  | lst {a : Addr} {vs : List V} {ds : List D} : F a → H a = some (.lst vs) → Rps ds vs → Rp (.lst ds) (.ref a)
  | ro {a : Addr} {vs : List V} {ds : List D} : RoL G.K H a vs → Rps ds vs → Rp (.ro ds) (.ref a)
  | dct {a : Addr} {ks : List Key} {vs : List V} {ds : List D} : F a → H a = some (.dK (ks.zip vs)) → ks.length = vs.length → Rps ds vs → Rp (.dct ks ds) (.ref a)
  | ins {a dx : Addr} {c : Nat} {as : List Nat} {vs : List V} {ds : List D} : F a → H a = some (.ins (G.ca c) dx ((as.map G.at_).zip vs)) → as.length = vs.length → G.vc c = true → (∀ f ∈ as, G.va f = true) → Rps ds vs → Rp (.ins c as ds) (.ref a)
  | ref {n : Nat} {a : Addr} : ι[n]? = some a → Rp (.ref n) (.ref a)
inductive Rps : List D → List V → Prop
  | nil : Rps [] []
  | cons {d : D} {v : V} {ds : List D} {vs : List V} : Rp d v → Rps ds vs → Rps (d :: ds) (v :: vs)
end
end

def MutO : HO → Prop
  | .lst _ => True
  | .dK _ => True
  | .ins _ _ _ => True
  | _ => False

/-- the world: F what is frozen, ι where the store's objects stand -/
structure Wld (F : Addr → Prop) (ι : List Addr) (H : Hp) : Prop where
  nd : ι.Nodup
  mu : ∀ a ∈ ι, ∃ o, H a = some o ∧ MutO o
  dis : ∀ a ∈ ι, ¬ F a
  dom : ∀ a, F a → H a ≠ none

/-- a step: what is frozen stays so, what is not the store's is left as it was -/
structure Stp (F : Addr → Prop) (ι : List Addr) (H : Hp) (F' : Addr → Prop) (ι' : List Addr) (H' : Hp) : Prop where
  up : ∀ a, F a → F' a
  new : ∀ a, F' a → F a ∨ H a = none
  pre : ∃ more, ι' = ι ++ more ∧ ∀ a ∈ more, H a = none
  keep : ∀ b o, H b = some o → b ∉ ι → H' b = some o
  dom : ∀ b, H b ≠ none → H' b ≠ none

section
variable {G : Glo} {F F' F'' : Addr → Prop} {ι ι' ι'' : List Addr} {H H' H'' : Hp}

theorem Stp.refl : Stp F ι H F ι H := ⟨fun _ h => h, fun _ h => .inl h, ⟨[], by simp, by simp⟩, fun _ _ h _ => h, fun _ h => h⟩

theorem Stp.idx (s : Stp F ι H F' ι' H') {n : Nat} {a : Addr} (h : ι[n]? = some a) : ι'[n]? = some a := by
  obtain ⟨more, rfl, _⟩ := s.pre
  have hl : n < ι.length := (List.getElem?_eq_some_iff.mp h).1
  rw [List.getElem?_append_left hl]; exact h

theorem Stp.mem (s : Stp F ι H F' ι' H') {a : Addr} (h : a ∈ ι') : a ∈ ι ∨ H a = none := by
  obtain ⟨more, rfl, hm⟩ := s.pre
  rcases List.mem_append.mp h with h | h
  · exact .inl h
  · exact .inr (hm a h)

theorem Stp.trans (s : Stp F ι H F' ι' H') (t : Stp F' ι' H' F'' ι'' H'') : Stp F ι H F'' ι'' H'' where
  up := fun a h => t.up a (s.up a h)
  new := fun a h => by
    rcases t.new a h with h | h
    · exact s.new a h
    · refine .inr ?_
      cases e : H a with
      | none => rfl
      | some o => exact absurd h (s.dom a (by rw [e]; simp))
  pre := by
    obtain ⟨m1, e1, h1⟩ := s.pre
    obtain ⟨m2, e2, h2⟩ := t.pre
    refine ⟨m1 ++ m2, by rw [e2, e1, List.append_assoc], fun a ha => ?_⟩
    rcases List.mem_append.mp ha with ha | ha
    · exact h1 a ha
    · cases e : H a with
      | none => rfl
      | some o => exact absurd (h2 a ha) (s.dom a (by rw [e]; simp))
  keep := fun b o h n => t.keep b o (s.keep b o h n) fun hm => by
    rcases s.mem hm with z | z
    · exact n z
    · rw [h] at z; cases z
  dom := fun b h => t.dom b (s.dom b h)

theorem Rd.step {a : Addr} {u : HO} (s : Stp F ι H F' ι' H') (n : a ∉ ι) (h : Rd H a u) : Rd H' a u := by
  rcases h with h | ⟨o, h⟩
  · exact .inl (s.keep _ _ h n)
  · exact .inr ⟨o, s.keep _ _ h n⟩

theorem Wld.tup (w : Wld F ι H) {a : Addr} {vs : List V} (h : Rd H a (.tup vs)) : a ∉ ι := fun hm => by
  obtain ⟨o, e, m⟩ := w.mu a hm
  rcases h with h | ⟨ob, h⟩ <;> (rw [h] at e; cases e; exact m)

theorem SqT.step {K : PySem.W.Frag} {a : Addr} {vs : List V} (w : Wld F ι H) (s : Stp F ι H F' ι' H') (h : SqT K H a vs) : SqT K H' a vs := by
  rcases h with h | h
  · exact .inl (Rd.step s (w.tup h) h)
  · exact .inr h

theorem RoL.step {K : PySem.W.Frag} {a : Addr} {vs : List V} (w : Wld F ι H) (s : Stp F ι H F' ι' H') (h : RoL K H a vs) : RoL K H' a vs := by
  rcases h with ⟨ob, h⟩ | h
  · refine .inl ⟨ob, s.keep _ _ h fun z => ?_⟩
    obtain ⟨o, e, m⟩ := w.mu a z
    rw [h] at e
    cases e
    exact m
  · exact .inr h

theorem Wld.fz (w : Wld F ι H) {a : Addr} (h : F a) : a ∉ ι := fun hm => w.dis a hm h

mutual
theorem Rp.step (w : Wld F ι H) (s : Stp F ι H F' ι' H') : ∀ {d : D} {v : V}, Rp G F ι H d v → Rp G F' ι' H' d v
  | _, _, .non => .non
  | _, _, .bl b => .bl b
  | _, _, .int i => .int i
  | _, _, .str x => .str x
  | _, _, .tup h r => .tup (SqT.step w s h) (Rps.step w s r)
  | _, _, .lst f h r => .lst (s.up _ f) (s.keep _ _ h (w.fz f)) (Rps.step w s r)
  | _, _, .ro h r => .ro (RoL.step w s h) (Rps.step w s r)
  | _, _, .dct f h l r => .dct (s.up _ f) (s.keep _ _ h (w.fz f)) l (Rps.step w s r)
  | _, _, .ins f h l c v r => .ins (s.up _ f) (s.keep _ _ h (w.fz f)) l c v (Rps.step w s r)
  | _, _, .ref h => .ref (s.idx h)
theorem Rps.step (w : Wld F ι H) (s : Stp F ι H F' ι' H') : ∀ {ds : List D} {vs : List V}, Rps G F ι H ds vs → Rps G F' ι' H' ds vs
  | _, _, .nil => .nil
  | _, _, .cons h r => .cons (Rp.step w s h) (Rps.step w s r)
end
end
end T
end

section
namespace T
open PySem PySem.Spec L2

/-! ### an own error class: C(value), __init__ says super().__init__(value), self.att = value -/
section
open PySem.W PySem.Calls
variable {prog : Program} {w : World} {A : Around} {Er : Value → Shared → Prop} {hp : Heap} {gs : Array GenState} {dr : Drawn} {tk : Nat} {os : OsState}
/-- ValueError's __init__, bound to the error at e, called -/
theorem bound_ve {nm q : Str} {C N u e t0 : Addr} {bs bm : List Value} {hdct : Bool} {sn : List Str} {sub : List Value} {ab : Bool} {col : Option Bool} {dd : Option Addr} {k0 k1 k2 k3 k5 : Option Value} {us : List Value} {Q : Value → Shared → Prop}
    (hC : hp.get? C = some (excClassObj nm q C N bs bm hdct sn sub ab col dd k0 k1 k2 k3 k5 "ValueError.__new__")) (he : hp.get? e = some ({ cls := .ref C, dict := none, data := .fields #[.ref t0, .none, .none, .none, .bool false, .none] } : Obj))
    (hu : hp.get? u = some (kxs_mw "ValueError.__init__" e)) (hl : us.length ≤ sizeLine)
    (hq : ∀ h2 t1, (∀ b o, b ≠ e → hp.get? b = some o → h2.get? b = some o) → h2.get? e = some ({ cls := .ref C, dict := none, data := .fields #[.ref t1, .none, .none, .none, .bool false, .none] } : Obj) → Q .none ⟨h2, gs, dr, tk, os⟩) :
    wpAny (model prog w) A (call (.ref u) us) Q Er ⟨hp, gs, dr, tk, os⟩ := by
  have FB := PySem.F.excBase_ValueError
  refine wpAny_call (codeAny_of_tree ?_)
  show wpAny (model prog w) A.in1 (callAny (.ref u) ⟨us, []⟩) _ _ _
  unfold callAny
  simp only
  refine wpAny_bind (wpAny_load hu ?_)
  have c1 : (Value.type "method-wrapper" == Value.type "method" || Value.type "method-wrapper" == Value.type "builtin_function_or_method" || Value.type "method-wrapper" == Value.type "method-wrapper") = true := by decide
  simp only [kxs_mw, c1, if_true]
  refine KFB.if_so (by decide) ?_
  refine wpAny_bind (check_bound_init FB.toExcCallFacts hC he rfl ?_)
  refine wpAny_bind (wpAny_pure (wpAny_pure ?_))
  refine ⟨plainId_quiet FB.init.plain _, codeAny_builtin FB.initEntry ?_⟩
  rw [Around.under_plainId FB.init.plain _]
  refine exc_init_tree (t0 := t0) (dv := none) (c2 := .none) (c3 := .none) (b4 := .bool false) (cls := .ref C) he hl fun h2 k2 e2 _ => ?_
  exact hq h2 _ k2 e2
end

/-- the words of such an __init__ -/
structure XD where
  cls : Str
  qual : Str
  params : Arguments
  body : List Stmt
  scope : Scope
  me : Str
  par : Str
  att : Str
def bodyX (me par att : Str) : List Stmt → Bool
  | [.Expr (.Call (.Attribute (.Call (.Name x0 _) [] [] _) m p) [.Name x1 _] [] cp) _, .Assign [.Attribute (.Name x2 _) a _] (.Name x3 _) _] => (p.endLine == cp.line) && (decide (x0 = "super") && (decide (m = "__init__") && (decide (x1 = par) && (decide (x2 = me) && (decide (a = att) && decide (x3 = par))))))
  | _ => false
structure XD.Ok (d : XD) : Prop where
  body : bodyX d.me d.par d.att d.body = true
  kind : d.scope.kind = .function
  co : d.scope.isCoroutine = false
  gen : d.scope.isGenerator = false
  nd : [d.me, d.par, ("__class__" : Str)].Nodup
  lme : d.scope.names.lookup d.me = some .local
  lpar : d.scope.names.lookup d.par = some .local
  lsup : d.scope.names.lookup ("super" : Str) = some .globalImplicit
  lcls : d.scope.names.lookup ("__class__" : Str) = some .free
  nocell : ∀ y ∈ d.scope.names, y.2 ≠ .cell
  free : ∀ y ∈ d.scope.names, y.2 = .free → y.1 ∈ [("__class__" : Str)]
  n1 : (d.me == ("__debug__" : Str)) = false ∧ (d.me == ("__classdict__" : Str)) = false
  n2 : (d.par == ("__debug__" : Str)) = false ∧ (d.par == ("__classdict__" : Str)) = false
  hd : (d.params.posonlyargs ++ d.params.args).head?.map (·.arg) = some d.me
/-- what the written part says of it -/
structure Xc (P : Program) (K : PySem.W.Frag) (mg : Str → Option Value) (d : XD) (C f : Addr) (fd : FuncData) : Prop where
  o : OexC K C
  ini : PySem.W.findIn K (.ref C) "__init__" = some (some (.ref f))
  ty : PySem.W.typeIn K (.ref f) = some (.type "function")
  noat : PySem.W.findIn K (.ref C) d.att = some none
  sup : PySem.W.ks_superIn K C C "__init__" = some (some (.builtin "ValueError.__init__"))
  sub : PySem.W.subIn K (.ref C) (.type "ValueError") = some true
  own : PySem.W.mroIn K C (.ref C) = some true
  op : PySem.W.nsIn K cStatics "thirdparty.any" = some none
  msup : mg "super" = none
  top : (P.main.scope.names.lookup ("super" : Str)).isSome = false
  fn : ∃ (nm : Str) (cda cc : Addr) (dV kV doc pm ct oc : Value) (an od : Option Addr) (osl : Array (Option Value)), fd = PySem.W.ksFn nm d.qual d.params d.body d.scope dV kV doc pm an (.ref cda) ct cc ∧ K.lookup f = some ⟨oc, od, .func fd, osl⟩ ∧ PySem.W.codeIn K (.ref cda) d.qual = true ∧
    (∃ cl cld csl, K.lookup cc = some ⟨cl, cld, .cell (some (.ref C)), csl⟩) ∧ ∃ ccl cdd vs ccs file tf, K.lookup cda = some ⟨ccl, cdd, .fields vs, ccs⟩ ∧ vs[2]? = some (.str file tf) ∧ ((P.main.file : Str) == file) = true
/-- what it promises -/
def spX (C : Addr) (att : Str) : Sp := fun vs H Q _ => ∃ a y, vs = [.ref a, y] ∧ H a = some (exo a C none) ∧ ∀ dx, H dx = none → dx ≠ a → Q .non (upd (upd H dx (exd dx [(att, y)])) a (exo a C (some dx)))

section
open PySem.W PySem.Calls NdefX
variable {P : Program} {w : World} {K : PySem.W.Frag} {mg : Str → Option Value} {base : Heap} {d : XD} {C f : Addr} {fd : FuncData}
theorem inv_pin {X : Cx} {σ : L2.St} {H : Hp} {s : Shared} {p : Addr} {o : Obj} (I : Inv X [] σ H s) (h1 : s.heap.get? p = some o) (h2 : H p = none) (h3 : p ≠ X.env.locals) (h4 : p ∉ X.fs) (h5 : ∀ v, o.data ≠ .cell v) : Inv X [(p, o)] σ H s := by
  refine { I with pin := ?_ }
  intro q hq
  rcases List.mem_append.mp hq with hq | hq
  · exact I.pin q (List.mem_append_left _ hq)
  · simp only [List.mem_singleton] at hq
    subst hq
    exact ⟨h1, h2, h3, h4, h5⟩
theorem inv_unpin {X : Cx} {pins : List (Addr × Obj)} {σ : L2.St} {H : Hp} {s : Shared} (I : Inv X pins σ H s) : Inv X [] σ H s := by
  refine { I with pin := ?_ }
  intro q hq
  rw [List.append_nil] at hq
  exact I.pin q (List.mem_append_left _ hq)
theorem sup_form {o : Expr} {name x : Str} {p cp p3 : Pos} {env : Env} (hl : (p.endLine == cp.line) = true) : eval (.Call (.Attribute o name p) [.Name x p3] [] cp) env = (do
      let ov ← attributeBase o name env (eval o env)
      standAt p.atName
      let (f, first) ← holding [ov] (getMethod ov name (do return (← importBound o env).getD true))
      callWith cp f first (backTo cp (starEach [.Name x p3] env)) []) := by
  show (do
      let ov ← attributeBase o name env (eval o env)
      standAt p.atName
      methodCall o name p cp env ov 1 (backTo cp (starEach [.Name x p3] env)) []) = _
  have hm : methodCallForm 1 (backTo cp (starEach [.Name x p3] env)) [] = true := rfl
  unfold methodCall methodCallPos calleeOf
  rw [hm, hl]
  simp
theorem bodyX_eq {me par att : Str} {body : List Stmt} (h : bodyX me par att body = true) : ∃ q0 q1 q2 q3 q4 q5 q6 q7 q8 q9 : Pos, (q2.endLine == q4.line) = true ∧ body = [.Expr (.Call (.Attribute (.Call (.Name "super" q0) [] [] q1) "__init__" q2) [.Name par q3] [] q4) q5, .Assign [.Attribute (.Name me q6) att q7] (.Name par q8) q9] := by
  unfold bodyX at h
  split at h
  · simp only [Bool.and_eq_true, decide_eq_true_eq] at h
    obtain ⟨hp, rfl, rfl, rfl, rfl, rfl, rfl⟩ := h
    exact ⟨_, _, _, _, _, _, _, _, _, _, hp, rfl⟩
  · cases h
theorem init_ok (ok : d.Ok) (x : Xc P K mg d C f fd) : FnOk P w K mg base (L2.CX P w) 0 f fd [d.me, d.par] (spX C d.att) := by
  refine ⟨fun vs H Q E h => ?_, fun A outer s H args us vs Q E hr e0 hb r h => ?_⟩
  · obtain ⟨a, y, rfl, _⟩ := h
    rfl
  obtain ⟨a, y, rfl, ea, hq⟩ := h
  cases r with
  | @cons _ u0 _ ur ra r2 =>
  cases r2 with
  | @cons _ u _ ur ry r3 =>
  cases r3
  obtain rfl : u0 = Value.ref a := ra
  obtain ⟨nm, cda, cc, dV, kV, doc, pm, ct, oc, an, od, osl, rfl, lk, hcd, ⟨cl, cld, csl, hcell⟩, ccl, cdd, cvs, ccs, file, tf, hcode, hvs, hfile⟩ := x.fn
  have KX : K.In s.heap := e0.mod.kin.keeps fun b o e => (e0.bs b o e).1
  have lim : s.heap.NoLimit := e0.mod.nolimit.keeps fun b o e => (e0.bs b o e).1
  have hloc : ∀ z ∈ [d.me, d.par].zip [Value.ref a, u], d.scope.names.lookup z.1 = some .local := by
    intro z hz
    simp at hz
    rcases hz with rfl | rfl
    · exact ok.lme
    · exact ok.lpar
  refine ks_codeAny_call_defAt (body := d.body) (binds := [d.me, d.par].zip [Value.ref a, u]) hr.depth (KX _ _ lk) rfl lim (codeRec_of KX hcd) rfl hb ok.nocell hloc (fun h₁ hns hk => ?_) ok.co ok.gen ok.kind
  have S : NScope [d.me, d.par, ("__class__" : Str)] [d.me, d.par] ["__class__"] d.scope := ⟨ok.kind, ok.co, ok.gen, ok.nd, rfl, by
    intro z hz
    simp at hz
    rcases hz with rfl | rfl
    · exact ok.lme
    · exact ok.lpar, ok.nocell, ok.free, by
    intro z hz
    simp at hz
    subst hz
    exact ok.lcls⟩
  have hC0 : H cc = none := (e0.bs _ _ (e0.mod.kin _ _ hcell)).2
  have lc : ∀ {z : Str} {c : Addr}, [(("__class__" : Str), cc)].lookup z = some c → z = "__class__" ∧ c = cc := fun {z c} e => by
    rw [List.lookup_cons] at e
    split at e
    · rename_i q
      cases e
      exact ⟨by simpa using q, rfl⟩
    · cases e
  have CA : CellsAt [(("__class__" : Str), cc)] ["__class__"] [none] s.heap H := ⟨rfl, fun z c e => by
    obtain ⟨_, rfl⟩ := lc e
    exact ⟨hC0, _, _, KX _ _ hcell, rfl⟩, fun z z2 c e1 e2 => by rw [(lc e1).1, (lc e2).1], fun i z e => by
    cases i with
    | zero =>
      cases e
      exact ⟨cc, by simp [List.lookup], fun v e => by cases e⟩
    | succ i => cases e⟩
  have I : Inv (ncx (L2.CX P w) P w K mg base [d.me, d.par, "__class__"] ⟨nm, d.qual, d.params, d.body, d.scope, [("__class__", cc)], cda⟩ f A outer s H E) [] (startF [d.me, d.par, "__class__"] [.ref a, y] [none]) H { s with heap := h₁, toks := s.toks + ([d.me, d.par].zip [Value.ref a, u]).length } :=
    inv_startN S hr.hd e0 rfl (.cons rfl (.cons ry .nil)) CA hns hk
  obtain ⟨q0, q1, q2, q3, q4, q5, q6, q7, q8, q9, hline, hbody⟩ := bodyX_eq ok.body
  generalize hX : ncx (L2.CX P w) P w K mg base [d.me, d.par, "__class__"] ⟨nm, d.qual, d.params, d.body, d.scope, [("__class__", cc)], cda⟩ f A outer s H E = X at I
  have eP : X.prog = P := by rw [← hX]; rfl
  have ew : X.w = w := by rw [← hX]; rfl
  have eK : X.K = K := by rw [← hX]; rfl
  have emg : X.mg = mg := by rw [← hX]; rfl
  have eA : X.A = A.deeper (PySem.W.envX d.qual d.scope s.heap.objs.size f (.ref cda) [("__class__", cc)]) := by rw [← hX]; rfl
  have eE : X.env = PySem.W.envX d.qual d.scope s.heap.objs.size f (.ref cda) [("__class__", cc)] := by rw [← hX]; rfl
  have eN : X.N = [d.me, d.par, "__class__"] := by rw [← hX]; rfl
  have exe : X.xe = fun e s' => wpAny (model P w) (A.deeper (PySem.W.envX d.qual d.scope s.heap.objs.size f (.ref cda) [("__class__", cc)])) (leaving (PySem.W.envX d.qual d.scope s.heap.objs.size f (.ref cda) [("__class__", cc)]) e) (fun _ s'' => L2.CX P w outer H s E e s'') (fun e' s'' => L2.CX P w outer H s E e' s'') s' := by rw [← hX]; rfl
  have eout : X.stack = X.env :: outer ∧ X.s_0 = s ∧ X.H_0 = H ∧ X.base = base := by rw [← hX]; exact ⟨rfl, rfl, rfl, rfl⟩
  show _root_.PySem.wpAt (model P w) (A.deeper (PySem.W.envX d.qual d.scope s.heap.objs.size f (.ref cda) [("__class__", cc)])) (.func d.body (PySem.W.envX d.qual d.scope s.heap.objs.size f (.ref cda) [("__class__", cc)])) (execs d.body (PySem.W.envX d.qual d.scope s.heap.objs.size f (.ref cda) [("__class__", cc)])) _ _ _
  have hex : execs d.body (PySem.W.envX d.qual d.scope s.heap.objs.size f (.ref cda) [("__class__", cc)]) = execs [.Expr (.Call (.Attribute (.Call (.Name "super" q0) [] [] q1) "__init__" q2) [.Name d.par q3] [] q4) q5, .Assign [.Attribute (.Name d.me q6) d.att q7] (.Name d.par q8) q9] (PySem.W.envX d.qual d.scope s.heap.objs.size f (.ref cda) [("__class__", cc)]) := congrArg (fun z => execs z _) hbody
  rw [hex]
  rw [← eE, ← eP, ← ew]
  have eA : X.A = A.deeper X.env := by rw [← hX]; rfl
  have exe : X.xe = fun e s' => wpAny (model X.prog X.w) X.A (leaving X.env e) (fun _ s'' => L2.CX P w outer H s E e s'') (fun e' s'' => L2.CX P w outer H s E e' s'') s' := by rw [← hX]; rfl
  rw [← eA]
  have vis1 : Vis X.env.scope d.me := by rw [eE]; exact .inl ok.lme
  have vis2 : Vis X.env.scope d.par := by rw [eE]; exact .inl ok.lpar
  have kp1 : X.env.kindOf "super" = some .globalImplicit := by rw [eE]; exact ok.lsup
  have kp2 : X.env.kindOf "__class__" = some .free := by rw [eE]; exact ok.lcls
  refine ks_wpAt_mono (Q := SP X [] { nx := fun _ H' => Q .non H', rt := Q }) (E := X.xe) ?_ (fun fl s' hs => ?_) fun e s' hs => ?_
  · refine ks_wpAt_execs_cons (ks_wpAt_Expr_any (ks_wpAt_MethodCall ?_ (sup_form hline)) I.quiet)
    obtain ⟨ar, har, eme⟩ : ∃ ar, (d.params.posonlyargs ++ d.params.args).head? = some ar ∧ ar.arg = d.me := by
      have := ok.hd
      cases q : (d.params.posonlyargs ++ d.params.args).head? with
      | none => rw [q] at this; cases this
      | some ar => rw [q] at this; exact ⟨ar, rfl, Option.some.inj this⟩
    have kf : X.env.scope.kind = .function := by rw [eE]; exact ok.kind
    obtain ⟨nm2, qn2, N2, bs, bm, sn, sub2, ab, col, dd, k0, k1, k2, k3, k5, hC, hbm⟩ := x.o.cls
    obtain ⟨mb, hb1, hb2⟩ := I.mod.blt
    obtain ⟨t0, hea⟩ := exo_at I.hok ea
    have hCh : h₁.get? C = some (excClassObj nm2 qn2 C N2 bs bm true sn sub2 ab col dd k0 k1 k2 k3 k5 "ValueError.__new__") := hk _ _ (KX _ _ hC)
    have aC : a ≠ C := fun z => by
      rw [z, hCh] at hea
      cases hea
    refine ks_wpAt_super_base (f := f) (ar := ar) (fd := PySem.W.ksFn nm d.qual d.params d.body d.scope dV kV doc pm an (.ref cda) ct cc) kp1 kp2 (by decide) (by rw [eE]) (hk _ _ (KX _ _ lk)) rfl har (by rw [eE]) (hk _ _ (KX _ _ hcode)) rfl hvs (by rw [eP]; exact hfile) (by rw [eP]; exact x.top) ?_
    refine ks_loadName_global kf kp1 (Calls.loadGlobal_builtin (by rw [I.ok.glob]; exact I.mod.glob.keeps I.bk) (by rw [emg]; exact x.msup) (by rw [I.ok.blt]; exact hb1.keeps I.bk) ((hb2 "super" (by decide)).trans PyProof.Rows.Boot.«super») ⟨rfl, ?_⟩)
    refine wpAny_loadName_free kf kp2 (by rw [eE]; simp [List.lookup]) ⟨_, hk _ _ (KX _ _ hcell), rfl⟩ ?_
    rw [eme]
    refine wpAny_loadName_local kf (by rw [eE]; exact ok.lme) (by rw [eE]; exact hns) (zip_look (i := 0) (ok.nd.sublist (List.take_sublist 2 _)) rfl rfl) ?_
    refine ks_wpAny_isType_cls hCh rfl ⟨rfl, ?_⟩
    refine ks_wpAny_call_super hCh rfl hea rfl (fun c z => by cases z) (looks_mroIn (I.kIn) (by rw [eK]; exact x.own)) (fun h' e k => ?_)
    have I1 : Inv X [] (startF [d.me, d.par, "__class__"] [.ref a, y] [none]) H ⟨h', s.gens, s.drawn, s.toks + ([d.me, d.par].zip [Value.ref a, u]).length, s.os⟩ := I.kept (t' := s.toks + ([d.me, d.par].zip [Value.ref a, u]).length) k
    have X1 := I1.kIn
    rw [eK] at X1
    have hcl : PySem.W.clsIn K C = some { name := nm2, bases := bs, mro := .ref C :: bm, ns := N2, qualname := qn2, hasDict := true, slotNames := sn, subclasses := sub2, abstract := ab, collection := col, hasDel := false } := by unfold PySem.W.clsIn; rw [hC] <;> rfl
    have hsup := x.sup
    unfold ks_superIn at hsup
    rw [hcl, Option.bind_some] at hsup
    have IA : InstAt h' a ({ cls := .ref C, dict := none, data := .fields #[.ref t0, .none, .none, .none, .bool false, .none] } : Obj) C none := ⟨k _ _ hea, rfl, rfl, trivial⟩
    refine kxs_getMethod kxs_ValueError e (looks_opaque X1 x.op) (l₀ := .ref C :: bm) ((looks_clsIn X1 hcl).andThen .now) rfl X1 hsup (IA.type.andThen (looks_subIn X1 x.sub)) aC (by decide) ?_
    have hmw : (h'.push (kxs_mw "ValueError.__init__" a)).get? h'.objs.size = some (kxs_mw "ValueError.__init__" a) := Heap.get?_push_at rfl rfl
    have k2 : ∀ b o, h'.get? b = some o → (h'.push (kxs_mw "ValueError.__init__" a)).get? b = some o := fun b o q => Heap.get?_push_of_some _ q
    have wn : H h'.objs.size = none := I1.hok.fresh (Nat.le_refl _)
    have wl : h'.objs.size ≠ X.env.locals := fun z => by
      have := I1.lt
      rw [← z] at this
      exact absurd this (Nat.lt_irrefl _)
    have wf : h'.objs.size ∉ X.fs := I1.nofs (Nat.le_refl _)
    generalize h'.push (kxs_mw "ValueError.__init__" a) = h2 at hmw k2
    generalize h'.objs.size = wq at hmw wn wl wf
    have I2 : Inv X [] (startF [d.me, d.par, "__class__"] [.ref a, y] [none]) H ⟨h2, s.gens, s.drawn, s.toks + ([d.me, d.par].zip [Value.ref a, u]).length + 1, s.os⟩ := I1.kept (t' := s.toks + ([d.me, d.par].zip [Value.ref a, u]).length + 1) k2
    show wpAny (model X.prog X.w) X.A (callWith q4 (.ref wq) [] (backTo q4 (starEach [.Name d.par q3] X.env)) []) _ _ _
    have I2' : Inv X [(wq, kxs_mw "ValueError.__init__" a)] (startF [d.me, d.par, "__class__"] [.ref a, y] [none]) H ⟨h2, s.gens, s.drawn, s.toks + ([d.me, d.par].zip [Value.ref a, u]).length + 1, s.os⟩ := inv_pin I2 hmw wn wl wf fun v z => by cases z
    refine kxs_callWith (i := "ValueError.__init__") (x := a) rfl (Calls.evalArgs_plain ?_)
    refine thn ((pa_cons (pe_var (i := 1) (by rw [eN]; rfl) vis2 ok.n2.1 ok.n2.2) pa_nil).run q4 _ _ _ H (fun vs H1 => vs = [y] ∧ H1 = H) I2' ⟨y, rfl, rfl, rfl⟩) fun us s1 hh => ?_
    obtain ⟨vs, H1, I3, rv, rfl, rfl⟩ := hh
    obtain ⟨pw, _⟩ := I3.pin (wq, kxs_mw "ValueError.__init__" a) (List.mem_append_right _ List.mem_cons_self)
    refine ⟨pw, ?_⟩
    obtain ⟨t1, hea1⟩ := exo_at I3.hok ea
    have hl1 : us.length = 1 := by rw [← rv.length]; rfl
    obtain ⟨hp3, g3, d3, tk3, os3⟩ := s1
    have hC3 : hp3.get? C = _ := I3.kIn _ _ (by rw [eK]; exact hC)
    refine bound_ve hC3 hea1 pw (by show us.length ≤ _; rw [hl1, sizeLine_eq]; decide) fun h4 t4 k4 e4 => ?_
    have I4 := I3.write (t' := tk3) (x := a) (e := a) (o := exo a C none) (by rw [ea]; exact True.intro) (.inl rfl) k4 ⟨_, e4⟩ (exo_ok e4)
    have eu : upd H1 a (exo a C none) = H1 := by
      funext b
      by_cases hb : b = a
      · rw [hb, upd_same, ea]
      · rw [upd_ne hb]
    rw [eu] at I4
    have I5 : Inv X [] (startF [d.me, d.par, "__class__"] [.ref a, y] [none]) H1 _ := inv_unpin I4
    refine wpAt_of_wpAny ?_
    refine (pss_cons (ps_ost (pe_var (i := 0) (by rw [eN]; rfl) vis1 ok.n1.1 ok.n1.2) (pe_var (i := 1) (by rw [eN]; rfl) vis2 ok.n2.1 ok.n2.2)) pss_nil).run [] _ _ H1 { nx := fun _ H' => Q .non H', rt := Q } I5 ?_
    refine ⟨y, rfl, .ref a, rfl, a, C, rfl, by rw [eK]; exact x.o, by rw [eK]; exact x.noat, .inl ⟨ea, fun dx h1 h2 => ?_⟩⟩
    exact hq dx h1 h2
  · rw [eP, ew]
    obtain ⟨b1, b2, b3, b4⟩ := eout
    have fin : ∀ {σ' : L2.St} {H' : Hp} {v : V} {u : Value}, Inv X [] σ' H' s' → RelV v u → Q v H' → CE outer P w H s Q u s' := fun {σ' H' v u} J rv q => by
      have J1 := J.os
      have J2 := J.base
      have J3 := J.hok
      rw [b2] at J1
      rw [eP, ew] at J3
      refine ⟨v, H', J1, J.bare, ?_, J3, rv, q⟩
      rw [← hX] at J2
      exact J2
    cases fl with
    | ret v =>
      obtain ⟨v, σ', H', J, rv, q⟩ := hs
      exact fin J rv q
    | next =>
      obtain ⟨σ', H', J, q⟩ := hs
      exact fin (v := V.non) (u := Value.none) J rfl q
    | brk =>
      obtain ⟨_, _, _, q⟩ := hs
      exact False.elim q
    | cont =>
      obtain ⟨_, _, _, q⟩ := hs
      exact False.elim q
  · rw [exe] at hs
    rw [eP, ew, eA, eE] at hs
    rw [eP, ew]
    exact hs
end
end T
end

section
namespace T
open PySem PySem.Spec L2 PyProof.Rows

/-! ### try .. except C as e: return .. : several clauses, each may have a name; what they do is to return -/
/-- a clause's class, its name's slot, its suite's reading -/
structure Cl where
  c : Value
  sl : Option Nat
  ts : Addr → Value → Option Addr → TS
def onlyR (D : Ends) : Ends := { nx := fun _ _ => False, rt := D.rt }
def Cl.put (k : Cl) (a : Addr) (σ : L2.St) : L2.St := match k.sl with
  | some i => σ.set i (some (.ref a))
  | none => σ
def wCl (n : Nat) (K : PySem.W.Frag) (Wo : WX) (D : Ends) : List Cl → WX
  | [] => Wo
  | k :: r => fun cls d σ H => ∃ b, PySem.W.exmOne K cls k.c = some b ∧ (b = true → ∀ a, H a = none → σ.length = n → k.ts a cls d (onlyR D) (k.put a σ) H) ∧ (b = false → wCl n K Wo D r cls d σ H)
/-- the clause's name, its slot -/
def NmOk (X : Cx) : Option Str → Option Nat → Prop
  | none, none => True
  | some n, some i => X.N[i]? = some n ∧ X.env.kindOf n = some .local
  | _, _ => False
inductive ClOk (X : Cx) : List ExceptHandler → List Cl → Prop
  | nil : ClOk X [] []
  | cons {x : Str} {nm : Option Str} {k : Cl} {s0 : Stmt} {sr : List Stmt} {np hp : Pos} {hs : List ExceptHandler} {l : List Cl} (hc : Names X x k.c) (hn : NmOk X nm k.sl)
      (run : ∀ (a : Addr) (ob : Obj) (cls : Value) (d : Option Addr) (pn : List (Addr × Obj)), Zc cls d ob → (∃ vs, ob.data = .fields vs) → PSs (X.suite a ((a, ob) :: pn)) (s0 :: sr) (k.ts a cls d)) (r : ClOk X hs l) :
      ClOk X (.ExceptHandler (some (.Name x np)) nm (s0 :: sr) hp :: hs) (k :: l)
section
variable {X : Cx} {body : List Stmt} {h₀ : ExceptHandler} {hs : List ExceptHandler} {l : List Cl} {pos : Pos} {tb : WX → TS} {Wo : WX}
theorem ps_tryC (hst : X.stack = X.env :: X.outer) (hfm : X.env.frame = some X.env.locals) (ndN : X.N.Nodup) (tk : Takes X Wo)
    (hb : ∀ (W : WX) (pn : List (Addr × Obj)) (xe : Value → Shared → Prop), Takes (X.tr pn xe) W → PassesOwn (model X.prog X.w) X.A X.env xe → PSs (X.tr pn xe) body (tb W))
    (hh : ClOk X (h₀ :: hs) l) : PS X (.Try body (h₀ :: hs) [] [] pos) (fun D σ H => tb (wCl X.N.length X.K Wo D l) D σ H) := by
  refine ⟨fun pins s σ H D I h => ?_⟩
  have okX := I.ok
  have frs1 : X.A.frames = some (X.env :: X.outer) := by rw [okX.frames, hst]
  refine wpAny_Try_except ?_
  let xe2 : Value → Shared → Prop := fun z t1 => wpAny (model X.prog X.w) X.A (noteFrame z X.env) (fun _ t2 => wpAny (model X.prog X.w) X.A (setFlight z none) (fun _ t3 => wpAny (model X.prog X.w) X.A (handleBy z X.env (h₀ :: hs)) (SP X pins D) X.xe t3) X.xe t2) X.xe t1
  have tk2 : Takes (X.tr (X.pn ++ pins) xe2) (wCl X.N.length X.K Wo D l) := by
    intro u s' xx
    obtain ⟨a, B, sI, pins', σ', H', cls, d, rfl, Jt, nb, up, sky, na, os, ag, w⟩ := xx
    have J : Inv X pins σ' H' sI := Jt.ofTry okX
    have sky1 : Sky B (X.env :: X.outer) a (Zc cls d) X.env.locals s'.heap := by rw [← hst]; exact sky
    show wpAny (model X.prog X.w) X.A (noteFrame (.ref a) X.env) _ _ _
    refine Sky.land Zc.steady frs1 hfm sky1 fun h3 fl3 up3 => ?_
    have J3 : Inv X pins σ' H' { s' with heap := h3 } := J.landed nb fl3.1 (up.trans up3) os ag
    obtain ⟨ob3, vs3, he3, hz3, hd3⟩ := fl3.there
    have aside : a ∉ frs (X.env :: X.outer) := fun hm => by
      obtain ⟨_, ob, eb, hnf⟩ := fl3.2.2.1.mem hm
      rw [he3] at eb
      cases eb
      exact hnf _ hd3
    have nL : a ≠ X.env.locals := fun z => aside (List.mem_filterMap.mpr ⟨X.env, List.mem_cons_self, by rw [hfm, z]⟩)
    have nF : a ∉ X.fs := fun hm => by
      obtain ⟨e, he, q⟩ := List.mem_filterMap.mp hm
      exact aside (List.mem_filterMap.mpr ⟨e, List.mem_cons_of_mem _ he, q⟩)
    have S3 := J3.suite he3 hd3 na nL nF
    have go : ∀ {hs1 : List ExceptHandler} {l1 : List Cl}, ClOk X hs1 l1 → wCl X.N.length X.K Wo D l1 cls d σ' H' → wpAny (model X.prog X.w) X.A (handleBy (.ref a) X.env hs1) (SP X pins D) X.xe { s' with heap := h3 } := by
      intro hs1 l1 hk
      induction hk with
      | nil =>
        intro w0
        refine wpAny_handleBy_nil ?_
        obtain ⟨c1, c2, c3, ob, vs, Tr, oT, ts0, hob, hz, hd, h1, hr⟩ := id fl3
        have last : wpAny (model X.prog X.w) X.A (setFlight (.ref a) X.env.frame) (fun _ t4 => wpAny (model X.prog X.w) X.A (throw (.ref a) : Sem Flow) (SP X pins D) X.xe t4) X.xe { s' with heap := h3 } := by
          rw [hfm]
          refine HandSPX.setFlight_upZ fl3 fun h4 hh4 up4 => wpAny_throw (tk _ _ ?_)
          refine ⟨a, B, sI, pins, σ', H', cls, d, rfl, J, nb, (up.trans up3).trans up4, .inr (.inr ?_), na, os, ag, w0⟩
          rw [hst]
          exact hh4
        have ntr : ¬ ((Value.ref Tr == Value.none) = true) := by simp
        unfold PySem.passOn
        refine wpAny_bind (wpAny_field hob hd h1 ?_)
        rw [if_neg ntr]
        first
          | exact wpAny_bind (wpAny_pure (wpAny_bind last))
          | exact wpAny_bind last
      | @cons x nm k s0 sr np hp hs2 l2 hc hn run r ih =>
        intro w0
        obtain ⟨b, hb1, hyes, hno⟩ := w0
        refine wpAny_handleBy_cons (codeAny_handlers_test ?_) (by intro q; cases q)
        have LT : PySem.W.Looks (model X.prog X.w) h3 (typeOf (.ref a)) cls := fun A Q E s k q => wpAny_typeOf_ref (k _ _ he3) (by rw [hz3.1]; exact q)
        have LM := PySem.W.exm_one (M := model X.prog X.w) (J3.kIn) LT hb1
        have tst : ∀ {Q : Value → Shared → Prop} {Er : Value → Shared → Prop}, Q k.c { s' with heap := h3 } → wpAny (model X.prog X.w) (X.A.mark (some (.ref a))) (eval (.Name x np) X.env) Q Er { s' with heap := h3 } := fun {Q Er} q => by
          obtain ⟨hg, hdbg, hm | ⟨hm, hv, hnn⟩⟩ := hc
          · exact ld_glob (X := X.suite a ((a, ob3) :: (X.pn ++ pins))) S3 hg hm q hdbg
          · exact ld_blt (X := X.suite a ((a, ob3) :: (X.pn ++ pins))) S3 hg hm hv q hnn hdbg
        refine tst (LM.here ?_)
        cases b with
        | false =>
          show wpAny _ X.A (handleBy (.ref a) X.env hs2) _ _ _
          exact ih (hno rfl)
        | true =>
          have hw := hyes rfl a na J.len
          obtain ⟨kc, ksl, kts⟩ := k
          cases nm with
          | none =>
            cases ksl with
            | some i => exact hn.elim
            | none =>
              refine codeAny_handlers_suite ?_
              refine HandSPX.lands_againZ fl3 fun h4 fl4 up4 => ?_
              have J4 : Inv X pins σ' H' { s' with heap := h4 } := J.landed nb fl4.1 ((up.trans up3).trans up4) os ag
              obtain ⟨ob4, vs4, he4, hz4, hd4⟩ := fl4.there
              have S4 := J4.suite he4 hd4 na nL nF
              refine wpAny_mono ((run a ob4 cls d (X.pn ++ pins) hz4 ⟨_, hd4⟩).run [] _ _ H' _ S4 hw) (fun fw s6 hsp => ?_) (fun _ _ z => False.elim z)
              cases fw with
              | ret u =>
                obtain ⟨v6, σ6, H6, S6, r6, q6⟩ := hsp
                exact ⟨_, _, _, S6.unsuite okX, r6, q6⟩
              | next =>
                obtain ⟨_, _, _, q6⟩ := hsp
                exact q6.elim
              | brk =>
                obtain ⟨_, _, _, q6⟩ := hsp
                exact q6.elim
              | cont =>
                obtain ⟨_, _, _, q6⟩ := hsp
                exact q6.elim
          | some n =>
            cases ksl with
            | none => exact hn.elim
            | some i =>
              obtain ⟨hi, hln⟩ := hn
              refine codeAny_handlers_suite_as ?_
              refine HandSPX.lands_againZ fl3 fun h4 fl4 up4 => ?_
              have J4 : Inv X pins σ' H' { s' with heap := h4 } := J.landed nb fl4.1 ((up.trans up3).trans up4) os ag
              obtain ⟨ob4, vs4, he4, hz4, hd4⟩ := fl4.there
              have S4 := J4.suite he4 hd4 na nL nF
              refine store_ok (X := X.suite a ((a, ob4) :: (X.pn ++ pins))) (v := .ref a) S4 ndN hi (.inl hln) rfl (fun s5 S5 => ?_) (.inr hln)
              refine wpAny_mono ((run a ob4 cls d (X.pn ++ pins) hz4 ⟨_, hd4⟩).run [] s5 _ H' _ S5 hw) (fun fw s6 hsp => ?_) (fun _ _ z => False.elim z)
              cases fw with
              | ret u =>
                obtain ⟨v6, σ6, H6, S6, r6, q6⟩ := hsp
                exact gone_ok (S6.unsuite okX) ndN hi hln fun s7 J7 => ⟨_, _, _, J7, r6, q6⟩
              | next =>
                obtain ⟨_, _, _, q6⟩ := hsp
                exact q6.elim
              | brk =>
                obtain ⟨_, _, _, q6⟩ := hsp
                exact q6.elim
              | cont =>
                obtain ⟨_, _, _, q6⟩ := hsp
                exact q6.elim
    exact go hh w
  refine wpAny_mono ((hb (wCl X.N.length X.K Wo D l) (X.pn ++ pins) xe2 tk2 PassesOwn.looking).run [] s σ H D (I.toTry _) h) (fun fw s1 hsp => ?_) (fun e s1 he => he)
  cases fw with
  | next =>
    obtain ⟨σ', H', J', q⟩ := hsp
    exact wpAny_execs_nil ⟨σ', H', J'.ofTry okX, q⟩
  | brk =>
    obtain ⟨σ', H', J', q⟩ := hsp
    exact ⟨σ', H', J'.ofTry okX, q⟩
  | cont =>
    obtain ⟨σ', H', J', q⟩ := hsp
    exact ⟨σ', H', J'.ofTry okX, q⟩
  | ret u =>
    obtain ⟨v, σ', H', J', r, q⟩ := hsp
    exact ⟨v, σ', H', J'.ofTry okX, r, q⟩
end
end T
end

section
namespace T
open PySem PySem.Spec L2

/-! ### what the written part is asked of an error class -/
section
open PySem.W
/-- a class over ValueError, its dict, its slots -/
def oxB (K : Frag) (C : Addr) : Bool := match K.lookup C with
  | some ⟨.type t, _, .cls cd, sl⟩ => decide (t = "type") && (match cd.mro, sl.toList with
    | .ref C' :: bm, [_, _, _, _, some (.builtin n), _] => decide (C' = C) && (decide (n = "ValueError.__new__") && ((!cd.hasDel && cd.hasDict) && PySem.HandSPX.refsVE bm))
    | _, _ => false)
  | _ => false
theorem oxB_ok {K : Frag} {C : Addr} (h : oxB K C = true) : ∃ nm q N bs bm sn sub ab col dd k0 k1 k2 k3 k5, K.lookup C = some (excClassObj nm q C N bs bm true sn sub ab col dd k0 k1 k2 k3 k5 "ValueError.__new__") ∧ PySem.HandSPX.refsVE bm = true := by
  unfold oxB at h
  split at h
  · rename_i t dd cd sl ho
    obtain ⟨h0, h⟩ := Bool.and_eq_true_iff.mp h
    have et : t = "type" := of_decide_eq_true h0
    clear h0
    split at h
    · rename_i C' bm k0 k1 k2 k3 n k5 hm hs
      obtain ⟨q1, h⟩ := Bool.and_eq_true_iff.mp h
      obtain ⟨q2, h⟩ := Bool.and_eq_true_iff.mp h
      obtain ⟨q3, hb⟩ := Bool.and_eq_true_iff.mp h
      obtain ⟨hdel, hdic⟩ := Bool.and_eq_true_iff.mp q3
      have e1 : C' = C := of_decide_eq_true q1
      have e2 : n = "ValueError.__new__" := of_decide_eq_true q2
      replace hdel : cd.hasDel = false := by simpa using hdel
      clear q1 q2 q3 h
      subst e1 e2 et
      obtain ⟨nm, bs, mro, ns, qn, hd, sn, sub, ab, col, del⟩ := cd
      dsimp only at hm hdel hdic
      subst hm hdel hdic
      have es : sl = #[k0, k1, k2, k3, some (.builtin "ValueError.__new__"), k5] := by
        rw [← hs]
      subst es
      exact ⟨_, _, _, _, _, _, _, _, _, _, _, _, _, _, _, ho, hb⟩
    · cases h
  · cases h
/-- its __init__'s closure and code object -/
def xfB2 (K : Frag) (file qual : Str) (C f : Addr) : Bool := match K.lookup f with
  | some ⟨_, _, .func fd, _⟩ => (match fd.defaults with | .none => true | _ => false) && (match fd.closure, fd.code with
    | [(_, cc)], .ref cda => codeIn K (.ref cda) qual && ((match K.lookup cc with
        | some ⟨_, _, .cell (some (.ref D)), _⟩ => decide (D = C)
        | _ => false) && (match K.lookup cda with
        | some ⟨_, _, Data.fields (vs : Array Value), _⟩ => (match (vs[2]? : Option Value) with
          | some (Value.str fl _) => decide (fl = file)
          | _ => false)
        | _ => false))
    | _, _ => false)
  | _ => false
def XD.fw (K : Frag) (x : XD) : He.FnW := (He.fnW K (x.cls, some ("__init__" : Str))).map fun z => (z.1, z.2.1, z.2.2.1, z.2.2.2.1, z.2.2.2.2.1, z.2.2.2.2.2.1, z.2.2.2.2.2.2.1.map (fun y => (y.1, 0)), z.2.2.2.2.2.2.2)
def XD.val (x : XD) : He.FnW := some ("__init__", x.qual, x.params, .stmts x.body, x.scope, mainGlobals, [("__class__", 0)], builtinsNs)
def XD.kB (file : Str) (K : Frag) (x : XD) : Bool :=
  let C := He.ga K x.cls
  let f := He.ma K C "__init__"
  ((He.Fa.glo x.cls).ok K && (oxB K C && (decide (findIn K (.ref C) "__setattr__" = some (some (.builtin "object.__setattr__"))) && (decide (subIn K (.ref C) (.type "BaseException") = some true) && (decide (typeIn K (.ref C) = some (.type "type")) && keepIn K (.ref C)))))) &&
  ((decide (findIn K (.ref C) "__init__" = some (some (.ref f))) && (decide (typeIn K (.ref f) = some (.type "function")) && (decide (findIn K (.ref C) x.att = some none) && (decide (ks_superIn K C C "__init__" = some (some (.builtin "ValueError.__init__"))) && (decide (subIn K (.ref C) (.type "ValueError") = some true) && (decide (mroIn K C (.ref C) = some true) &&
    (decide (nsIn K cStatics "thirdparty.any" = some none) && (He.Fa.free "super").ok K))))))) && (xfB2 K file x.qual C f && xfB K C))
/-- with every value of the words that are not told -/
structure XD.Bd (x : XD) : Prop where
  bd : ∀ (kV doc pm : Value) (an : Option Addr) (cda cc : Addr) (ct : Value) (us : List Value), us.length = 2 → bindArgs (ksFn "__init__" x.qual x.params x.body x.scope .none kV doc pm an (.ref cda) ct cc) ⟨us, []⟩ = pure ([x.me, x.par].zip us)
theorem XD.xc {P : Program} {K : Frag} {mg : Str → Option Value} {h : Heap} {file : Str} {x : XD} (hb : x.Bd) (hf : P.main.file = file) (ht : (P.main.scope.names.lookup ("super" : Str)).isSome = false) (X : K.In h) (Gn : h.Ns mainGlobals mg) (ev : x.fw K = x.val) (hk : x.kB file K = true) :
    ∃ fd, Xc P K mg x (He.ga K x.cls) (He.ma K (He.ga K x.cls) "__init__") fd ∧ (∀ us : List Value, us.length = 2 → bindArgs fd ⟨us, []⟩ = pure ([x.me, x.par].zip us)) ∧ mg x.cls = some (.ref (He.ga K x.cls)) ∧ XfC K (He.ga K x.cls) := by
  unfold XD.kB at hk
  simp only [Bool.and_eq_true, decide_eq_true_eq] at hk
  obtain ⟨⟨k1, k2, k3, k4, k5, k6⟩, ⟨k7, k8, k9, k10, k11, k12, k13, k14⟩, k15, k16⟩ := hk
  have gl := He.glo_ok X Gn k1
  have fr := He.free_ok X Gn k14
  have key : ∃ (cda cc : Addr) (kV doc pm ct oc : Value) (an od : Option Addr) (osl : Array (Option Value)), K.lookup (He.ma K (He.ga K x.cls) "__init__") = some ⟨oc, od, .func (ksFn "__init__" x.qual x.params x.body x.scope .none kV doc pm an (.ref cda) ct cc), osl⟩ ∧ codeIn K (.ref cda) x.qual = true ∧
      (∃ cl cld csl, K.lookup cc = some ⟨cl, cld, .cell (some (.ref (He.ga K x.cls))), csl⟩) ∧ ∃ ccl cdd vs ccs fl tf, K.lookup cda = some ⟨ccl, cdd, .fields vs, ccs⟩ ∧ vs[2]? = some (.str fl tf) ∧ fl = file := by
    unfold XD.fw He.fnW at ev
    have ea : He.fAd K (x.cls, some ("__init__" : Str)) = He.ma K (He.ga K x.cls) "__init__" := rfl
    rw [ea] at ev
    unfold xfB2 at k15
    generalize He.ma K (He.ga K x.cls) "__init__" = f at ev k15
    cases q : K.lookup f with
    | none => rw [q] at k15; cases k15
    | some o =>
      obtain ⟨oc, od, dt, osl⟩ := o
      rw [q] at ev k15
      cases dt with
      | func fd =>
        obtain ⟨n1, n2, n3, n4, n5, n6, n7, n8, n9, n10, n11, n12, n13, n14, n15⟩ := fd
        have e2 : (some (n1, n2, n3, n4, n5, n6, n7.map (fun y => (y.1, 0)), n15) : He.FnW) = x.val := ev
        unfold XD.val at e2
        simp only [Option.some.injEq, Prod.mk.injEq] at e2
        obtain ⟨h1, h2, h3, h4, h5, h6, h7, h8⟩ := e2
        subst h1 h2 h3 h4 h5 h6 h8
        simp only [Bool.and_eq_true] at k15
        obtain ⟨m1, m2⟩ := k15
        have d0 : n8 = .none := by
          cases n8 <;> first | rfl | cases m1
        subst d0
        split at m2
        · rename_i z cc cda
          have ez : z = "__class__" := by simpa using h7
          subst ez
          obtain ⟨m3, m4⟩ := Bool.and_eq_true_iff.mp m2
          obtain ⟨m5, m6⟩ := Bool.and_eq_true_iff.mp m4
          refine ⟨cda, cc, n9, n10, n11, n14, oc, n12, od, osl, rfl, m3, ?_, ?_⟩
          · split at m5
            · rename_i cl cld D csl hc
              have hD := of_decide_eq_true m5
              subst hD
              exact ⟨_, _, _, hc⟩
            · cases m5
          · split at m6
            · rename_i ccl cdd vs ccs hc
              split at m6
              · rename_i fl tf hv
                exact ⟨_, _, _, _, _, _, hc, hv, of_decide_eq_true m6⟩
              · cases m6
            · cases m6
        · cases m2
      | _ => cases k15
  obtain ⟨cda, cc, kV, doc, pm, ct, oc, an, od, osl, lk, c1, c2, ccl, cdd, vs, ccs, fl, tf, c3, c4, rfl⟩ := key
  refine ⟨_, ⟨⟨oxB_ok k2, k3, k4, k5, k6⟩, k7, k8, k9, k10, k11, k12, k13, fr, ht, ⟨"__init__", cda, cc, .none, kV, doc, pm, ct, oc, an, od, osl, rfl, lk, c1, c2, ccl, cdd, vs, ccs, fl, tf, c3, c4, by rw [hf]; simp⟩⟩, fun us hl => hb.bd kV doc pm an cda cc ct us hl, gl, xfB_ok k16⟩
end
end T
end

section
namespace T
open PySem PySem.Spec L2

/-! ### results -/
structure Exn where
  c : Nat
  ds : List D

inductive Res (α : Type) where
  | ok (a : α) (μ : Store)
  | exn (x : Exn) (μ : Store)
  | bad

def Res.bind {α β : Type} (r : Res α) (f : α → Store → Res β) : Res β :=
  match r with
  | .ok a μ => f a μ
  | .exn x μ => .exn x μ
  | .bad => .bad

def Res.of {α : Type} (o : Option α) (μ : Store) : Res α :=
  match o with
  | some a => .ok a μ
  | none => .bad

/-- a call: function, arguments, store -/
abbrev CF := Nat → List D → Store → Res D

/-- a local name: unknown, a value, a list of its own -/
inductive Sl where
  | emp | val (d : D) | own (ds : List D)
deriving Inhabited
abbrev Slots := List Sl

/-! ### values -/
def kP : Key → PyData
  | .inl i => .int i
  | .inr x => .str x
mutual
def toPy : D → Option PyData
  | .non => some .none
  | .bl b => some (.bool b)
  | .int i => some (.int i)
  | .str x => some (.str x)
  | .tup ds => (toPys ds).map .tuple
  | .lst ds => (toPys ds).map .list
  | .dct ks ds => (toPys ds).map fun vs => .dict ((ks.map kP).zip vs)
  | .ins _ _ _ => none
  | .ref _ => none
  | .ro _ => none
def toPys : List D → Option (List PyData)
  | [] => some []
  | d :: ds => match toPy d, toPys ds with
    | some x, some xs => some (x :: xs)
    | _, _ => none
end

/-- a list's items, wherever it stands -/
def lview (μ : Store) : D → Option (List D)
  | .lst ds => some ds
  | .ref n => match μ[n]? with
    | some (.lst ds) => some ds
    | _ => none
  | _ => none
/-- a list's or tuple's items -/
def sview (μ : Store) : D → Option (List D)
  | .tup ds => some ds
  | .ro ds => some ds
  | d => lview μ d

/-- .. of what stands fast -/
def pview : D → Option (List D)
  | .tup ds => some ds
  | .lst ds => some ds
  | _ => none

def isNon : D → Bool
  | .non => true
  | _ => false
def truthyD (μ : Store) : D → Option Bool
  | .non => some false
  | .bl b => some b
  | .int i => some (i != 0)
  | .str x => if x.length ≤ sizeLine then some (x.length != 0) else none
  | .dct ks _ => some (!ks.isEmpty)
  | .ins _ _ _ => none
  | d => (sview μ d).map fun ds => !ds.isEmpty

def scalD : D → D → Option Bool
  | .non, .non => some true
  | .non, .int _ => some false
  | .int _, .non => some false
  | .non, .bl _ => some false
  | .bl _, .non => some false
  | .non, .str _ => some false
  | .str _, .non => some false
  | .int i, .int j => some (decide (i = j))
  | .bl a, .bl b => some (a == b)
  | .str x, .str y => some (decide (x = y))
  | .int _, .str _ => some false
  | .str _, .int _ => some false
  | .bl _, .str _ => some false
  | .str _, .bl _ => some false
  | _, _ => none

/-- a store's list as a tree -/
def dview (μ : Store) : D → D
  | .ref n => match μ[n]? with
    | some (.lst ds) => .lst ds
    | _ => .ref n
  | d => d

def dataEq (μ : Store) (d e : D) : Option Bool :=
  match toPy (dview μ d), toPy (dview μ e) with
  | some x, some y => if SeqAt.shaped x = true ∧ SeqAt.shaped y = true then some (PyData.eqv x y) else none
  | _, _ => none

/-- d == e for data -/
def eqD (μ : Store) (d e : D) : Option Bool :=
  match scalD d e with
  | some b => some b
  | none => dataEq μ d e

def powOk (a b : Int) : Bool := decide (0 ≤ b) && !(b == 0) && !(a == 0 || a == 1) && !(a == -1) && !Builtin.Int.intTooBig (((Builtin.Int.intBits a : Nat) : Int) * b)
def mulOk (i j : Int) : Bool := decide ((-(2 ^ 64) < i ∧ i < 2 ^ 64) ∨ (-(2 ^ 64) < j ∧ j < 2 ^ 64)) || decide (i.natAbs.log2 + j.natAbs.log2 < 1000000)
def divOk (_ j : Int) : Bool := decide (j ≠ 0 ∧ j.natAbs < 1073741824) || decide (0 < j ∧ j.natAbs.log2 < 9000)

def binD : Operator → D → D → Option D
  | .Add, .int i, .int j => some (.int (i + j))
  | .Sub, .int i, .int j => some (.int (i - j))
  | .Mult, .int i, .int j => if mulOk i j then some (.int (i * j)) else none
  | .Mod, .int i, .int j => if j ≠ 0 then some (.int (i.fmod j)) else none
  | .FloorDiv, .int i, .int j => if divOk i j then some (.int (i.fdiv j)) else none
  | .Pow, .int i, .int j => if powOk i j then some (.int (i ^ j.toNat)) else none
  | .Add, .str x, .str y => if x.length + y.length ≤ sizeLine then some (.str (x ++ y)) else none
  | .Add, .tup a, .tup b => if a.length + b.length ≤ sizeLine then some (.tup (a ++ b)) else none
  | .Mult, .tup a, .int k => if 2 ≤ k ∧ k ≤ 1000 ∧ a.isEmpty = false ∧ a.length ≤ 1000 then some (.tup (List.replicate k.toNat a).flatten) else none
  | _, _, _ => none

def flatD : D → Bool
  | .non => true
  | .bl _ => true
  | .int _ => true
  | .str _ => true
  | _ => false
def eqFlat : D → D → Bool
  | .non, .non => true
  | .bl a, .bl b => a == b
  | .bl a, .int b => (if a then 1 else 0) == b
  | .int a, .bl b => a == (if b then 1 else 0)
  | .int a, .int b => a == b
  | .str a, .str b => a == b
  | _, _ => false
/-- d among es -/
def inSeq (d : D) (es : List D) : Option Bool :=
  if flatD d && es.all flatD then some (es.any fun e => eqFlat e d)
  else match toPy d, toPys es with
    | some x, some xs => if SeqAt.shaped x = true ∧ SeqAt.shaped (.list xs) = true then some (xs.any fun z => PyData.eqv z x) else none
    | _, _ => none

def cmpD (μ : Store) : CmpOp → D → D → Option Bool
  | .Eq, d, e => eqD μ d e
  | .NotEq, d, e => (eqD μ d e).map (!·)
  | .Lt, .int i, .int j => some (decide (i < j))
  | .LtE, .int i, .int j => some (decide (i ≤ j))
  | .Gt, .int i, .int j => some (decide (j < i))
  | .GtE, .int i, .int j => some (decide (j ≤ i))
  | .Is, .bl a, .bl b => some (a == b)
  | .IsNot, .bl a, .bl b => some (!(a == b))
  | .In, .str x, .str y => some (!(Builtin.Str.occurrences y x 0 y.length 1).isEmpty)
  | .NotIn, .str x, .str y => some (!(!(Builtin.Str.occurrences y x 0 y.length 1).isEmpty))
  | .In, d, e => match sview μ e with
    | some es => inSeq d es
    | none => none
  | .NotIn, d, e => match sview μ e with
    | some es => (inSeq d es).map (!·)
    | none => none
  | _, _, _ => none

def ixD (μ : Store) (d : D) (i : D) : Option D :=
  match d, i with
  | .str x, .int i => if x.length ≤ sizeLine then (atI x.cps.toList i).map fun c => .str ⟨#[c]⟩ else none
  | d, .int i => match sview μ d with
    | some ds => atI ds i
    | none => none
  | _, _ => none

def cutD {α : Type} (xs : List α) (lo hi : Option Int) : List α := (xs.drop (HT.sIx xs.length 0 lo)).take (HT.sIx xs.length xs.length hi - HT.sIx xs.length 0 lo)

/-! ### types asked by isinstance -/
inductive Ty where
  | int | bool | str | tuple | list | dict | cls (c : Nat)
def tyOf (μ : Store) (t : Ty) : D → Option Bool
  | .non => match t with | .cls _ => some false | _ => some false
  | .bl _ => match t with | .int => some true | .bool => some true | _ => some false
  | .int _ => match t with | .int => some true | _ => some false
  | .str _ => match t with | .str => some true | _ => some false
  | .tup _ => match t with | .tuple => some true | _ => some false
  | .lst _ => match t with | .list => some true | _ => some false
  | .ro _ => match t with | .list => some true | _ => some false
  | .dct _ _ => match t with | .dict => some true | _ => some false
  | .ins c _ _ => match t with | .cls c' => some (c == c') | _ => some false
  | .ref n => match μ[n]? with
    | some (.lst _) => match t with | .list => some true | _ => some false
    | some (.dct _ _) => match t with | .dict => some true | _ => some false
    | some (.ins c _ _) => match t with | .cls c' => some (c == c') | _ => some false
    | none => none

/-! ### built-in functions -/
inductive Bi where
  | len | tuple | all | any | sum | max | min | max2 | min2 | abs | int | str | repr | lenset
deriving DecidableEq

def boolsD : List D → Option (List Bool)
  | [] => some []
  | .bl b :: ds => (boolsD ds).map (b :: ·)
  | _ :: _ => none
def intsD : List D → Option (List Int)
  | [] => some []
  | .int i :: ds => (intsD ds).map (i :: ·)
  | _ :: _ => none
def strsD : List D → Option (List Str)
  | [] => some []
  | .str i :: ds => (strsD ds).map (i :: ·)
  | _ :: _ => none

/-- pairs of numbers; by the first number, then by the second -/
def pairsD : List D → Option (List (Int × Int))
  | [] => some []
  | .tup [.int a, .int b] :: r => (pairsD r).map ((a, b) :: ·)
  | _ :: _ => none
/-- dicts of numbers -/
def kvD : List D → Option (List (Key × D))
  | [] => some []
  | .tup [.int i, d] :: r => (kvD r).map fun l => (.inl i, d) :: l
  | _ :: _ => none
def keyD : D → Option Key
  | .int i => some (.inl i)
  | .str x => some (.inr x)
  | _ => none
def atK : List Key → List D → Key → Option D
  | k :: ks, d :: ds, x => if k = x then some d else atK ks ds x
  | _, _, _ => none
def dctR (μ : Store) (d : D) : Res D := match (lview μ d).bind kvD with
  | some kvs => if (kvs.map (·.1)).Nodup then .ok (.dct (kvs.map (·.1)) (kvs.map (·.2))) μ else .bad
  | none => .bad
def dAt (x y : D) : Option (Option D) := match keyD x, y with
  | some k, .dct ks ds => some (atK ks ds k)
  | _, _ => none
def dInR (x y : D) (μ : Store) : Res D := match dAt x y with
  | some o => .ok (.bl o.isSome) μ
  | none => .bad
def dIxR (x y : D) (μ : Store) : Res D := match dAt x y with
  | some (some d) => .ok d μ
  | _ => .bad
def dGetR (x y : D) (μ : Store) : Res D := match dAt x y with
  | some o => .ok (o.getD .non) μ
  | none => .bad
def lexLe (p q : Int × Int) : Bool := decide (p.1 < q.1) || (decide (p.1 = q.1) && decide (p.2 ≤ q.2))
/-- the texts, each once, in the sequence in which they come first -/
def metS (xs : List Str) : List Str := xs.foldl (fun l x => if l.contains x then l else l ++ [x]) []

def greatest : Int → List Int → Int
  | m, [] => m
  | m, i :: is => greatest (if m < i then i else m) is
def leastI : Int → List Int → Int
  | m, [] => m
  | m, i :: is => leastI (if i < m then i else m) is

def showable (x : PyData) : Bool := x.showable && decide (x.depth ≤ 64) && decide (x.shown.length ≤ sizeLine)

def biLen (μ : Store) : List D → Option D
  | [.str x] => if x.length ≤ sizeLine then some (.int x.length) else none
  | [d] => (sview μ d).map fun ds => .int ds.length
  | _ => none
def biTuple (μ : Store) : List D → Option D
  | [d] => (sview μ d).map .tup
  | _ => none
def biAll (μ : Store) : List D → Option D
  | [d] => ((lview μ d).bind boolsD).map fun bs => .bl (bs.all id)
  | _ => none
def biAny (μ : Store) : List D → Option D
  | [d] => ((lview μ d).bind boolsD).map fun bs => .bl (bs.any id)
  | _ => none
def biSum (μ : Store) : List D → Option D
  | [d] => ((lview μ d).bind intsD).map fun is => .int is.sum
  | _ => none
def biMax (μ : Store) : List D → Option D
  | [d] => ((lview μ d).bind intsD).bind fun is => match is with
    | [] => none
    | i :: r => some (.int (greatest i r))
  | _ => none
def biMin (μ : Store) : List D → Option D
  | [d] => ((lview μ d).bind intsD).bind fun is => match is with
    | [] => none
    | i :: r => some (.int (leastI i r))
  | _ => none
def biMax2 : List D → Option D
  | [.int i, .int j] => some (.int (if j > i then j else i))
  | _ => none
def biMin2 : List D → Option D
  | [.int i, .int j] => some (.int (if j < i then j else i))
  | _ => none
def biAbs : List D → Option D
  | [.int i] => some (.int (if i < 0 then -i else i))
  | _ => none
def biInt : List D → Option D
  | [.int i] => some (.int i)
  | [.bl b] => some (.int (if b then 1 else 0))
  | _ => none
def biStr : List D → Option D
  | [.int i] => if i.natAbs.log2 < 1920 then some (.str (toString i)) else none
  | [.str x] => some (.str x)
  | _ => none
def biRepr (μ : Store) : List D → Option D
  | [.non] => some (.str "None")
  | [.bl b] => some (.str (if b then "True" else "False"))
  | [.int i] => if i.natAbs.log2 < 1920 then some (.str (toString i)) else none
  | [.str x] => if (reprText x).length ≤ sizeLine then some (.str (reprText x)) else none
  | [d] => match toPy (dview μ d) with
    | some x => if showable x then some (.str x.shown) else none
    | none => none
  | _ => none
def biLenset (μ : Store) : List D → Option D
  | [.tup ds] => (strsD ds).bind fun xs => if xs.length < 1000 then some (.int (metS xs).length) else none
  | [d] => ((lview μ d).bind intsD).bind fun is => if is.length < 64 then some (.int is.eraseDups.length) else none
  | _ => none
def biD (μ : Store) : Bi → List D → Option D
  | .len => biLen μ | .tuple => biTuple μ | .all => biAll μ | .any => biAny μ | .sum => biSum μ | .max => biMax μ | .min => biMin μ
  | .max2 => biMax2 | .min2 => biMin2 | .abs => biAbs | .int => biInt | .str => biStr | .repr => biRepr μ | .lenset => biLenset μ

/-! ### the text -/
/-- how a parameter is filled: by the j-th value that the call evaluates, by a default -/
inductive PA where
  | ar (j : Nat) | df (j : Nat) (i : Option Int)
deriving DecidableEq
/-- a default's value: None, a number -/
def litD : Option Int → D
  | none => .non
  | some i => .int i
/-- a target -/
inductive Tg where
  | v (i : Nat) | t2 (a b : Tg) | t3 (a b c : Tg) | t4 (a b c d : Tg)

inductive Mo where
  | fz | sh
deriving DecidableEq

mutual
inductive IE where
  | v (i : Nat) | non | bl (b : Bool) | int (i : Int) | str (x : Str) | gi (x : Str) (i : Int) | gs (x : Str) (z : Str)
  | tup (es : IEs) | lst (m : Mo) (l : IL)
  | bin (op : Operator) (a b : IE) | neg (a : IE)
  | cmp (op : CmpOp) (a b : IE) | cmpo (op : CmpOp) (a b : IE) | chain (op op' : CmpOp) (a b c : IE) | isN (a : IE) | notN (a : IE)
  | nt (a : IE) | bo (op : BoolOp) (es : IEs) | ite (c a b : IE)
  | ix (a i : IE) | slc (a : IE) (lo hi : IO) | rev (a : IE)
  | fld (a : IE) (f : Nat)
  | call (f : Nat) (es : IEs) | callk (f : Nat) (pat : List PA) (as bs : IEs)
  | meth (m : Nat) (a : IE)
  | new (c : Nat) (es : IEs) | newk (c : Nat) (pat : List PA) (as bs : IEs)
  | bi (b : Bi) (es : IEs)
  | isi (a : IE) (t : Ty)
  | dct0 | dct1 (x : Str) (a : IE) | eqNil (a : IE) | lstNil (ne : Bool) (a : IE)
  | dctp (a : IE) | dIn (a b : IE) | dIx (b a : IE) | dGet (b a : IE)
inductive IL where
  | disp (es : IEs) | comp (elt : IE) (tg : Tg) (it : IT) (cs : IEs)
  | cat (a b : IE) | rep (a b : IE) | slc (a : IE) (lo hi : IO) | rev (a : IE) | listOf (a : IE) | sortset (a : IE) | listRg (a : IE) | dispS (e a : IE) | sorti (a : IE) | sortp (a : IE)
inductive IT where
  | seq (a : IE) | range1 (a : IE) | range2 (a b : IE) | enum (a : IE) | zip (a b : IE)
inductive IO where
  | no | so (a : IE)
inductive IEs where
  | nil | cons (a : IE) (r : IEs)
end

/-- what an except suite tells -/
inductive HE where
  | non | bl (b : Bool) | str (x : Str) | val
inductive HR where
  | one (h : HE) | tup (hs : List HE) | lst (hs : List HE)
structure Hd where
  c : Nat
  sl : Option Nat
  r : HR
def HE.ev (ds : List D) : HE → Option D
  | .non => some .non
  | .bl b => some (.bl b)
  | .str x => some (.str x)
  | .val => ds.head?
def HE.evs (ds : List D) : List HE → Option (List D)
  | [] => some []
  | h :: r => match h.ev ds, HE.evs ds r with
    | some d, some l => some (d :: l)
    | _, _ => none
def HR.ev (ds : List D) : HR → Option D
  | .one h => h.ev ds
  | .tup hs => (HE.evs ds hs).map .tup
  | .lst hs => (HE.evs ds hs).map .lst
def pickH : List Hd → Nat → Option Hd
  | [], _ => none
  | h :: r, c => if c == h.c then some h else pickH r c

/-- what a name gets: a value, a list of its own -/
inductive IV where
  | e (a : IE) | l (l : IL)
mutual
inductive IS where
  | set (t : Tg) (e : IE) | par (i j : Nat) (a b : IV) | own (i : Nat) (l : IL)
  | setix (i : Nat) (k e : IE) | setixS (a k e : IE) | setfld (a : IE) (f : Nat) (e : IE)
  | aug (i : Nat) (op : Operator) (e : IE)
  | app (i : Nat) (e : IE) | ext (i : Nat) (e : IE) | setpop (j i : Nat) (e : IE) | apppop (i j : Nat) (e : IE) | apppopT (i m j : Nat) (e : IE) | appS (a e : IE)
  | expr (e : IE) | ret (e : IE) | retO (i : Nat) | retN | dead
  | iff (c : IE) (a b : IB) | forr (t : Tg) (it : IT) (b : IB) | whil (n : Nat) (c : IE) (b : IB)
  | brk | cont | pass
  | frz (i : Nat) | kill (i : Nat)
  | rais (c : Nat) (e : IE) | tri (b : IB) (hs : List Hd)
inductive IB where
  | nil | cons (s : IS) (r : IB)
end

/-! ### what the program is -/
structure FI where
  n : Nat
  np : Nat
  body : IB
structure Pg where
  fn : Nat → Option FI
  /-- a class's __init__ and its attributes' ids are told by the run itself -/
  init : Nat → Nat
  eq : Nat → Option Nat
  meth : Nat → Nat → Option Nat

def fill (pat : List PA) (ds : List D) : Option (List D) :=
  match pat with
  | [] => some []
  | .ar j :: r => match ds[j]?, fill r ds with
    | some d, some l => some (d :: l)
    | _, _ => none
  | .df _ i :: r => (fill r ds).map (litD i :: ·)

def rd (σ : Slots) (i : Nat) : Option D := match σ[i]? with
  | some (.val d) => some d
  | _ => none
/-- read in place -/
def rdO (σ : Slots) (i : Nat) : Option D := match σ[i]? with
  | some (.val d) => some d
  | some (.own ds) => some (.lst ds)
  | _ => none

/-! all refs of a tree are below n -/
mutual
def below (n : Nat) : D → Bool
  | .tup ds => belows n ds
  | .lst ds => belows n ds
  | .ro ds => belows n ds
  | .dct _ ds => belows n ds
  | .ins _ _ ds => belows n ds
  | .ref m => decide (m < n)
  | _ => true
def belows (n : Nat) : List D → Bool
  | [] => true
  | d :: ds => below n d && belows n ds
end
def Ob.below (n : Nat) : Ob → Bool
  | .lst ds => belows n ds
  | .dct _ ds => belows n ds
  | .ins _ _ ds => belows n ds

def bindT : Tg → D → Slots → Option Slots
  | .v i, d, σ => if i < σ.length then some (σ.set i (.val d)) else none
  | .t2 a b, .tup [x, y], σ => (bindT a x σ).bind (bindT b y)
  | .t3 a b c, .tup [x, y, z], σ => ((bindT a x σ).bind (bindT b y)).bind (bindT c z)
  | .t3 a b c, .lst [x, y, z], σ => ((bindT a x σ).bind (bindT b y)).bind (bindT c z)
  | .t4 a b c d, .tup [x, y, z, u], σ => (((bindT a x σ).bind (bindT b y)).bind (bindT c z)).bind (bindT d u)
  | _, _, _ => none
def Tg.slots : Tg → List Nat
  | .v i => [i]
  | .t2 a b => a.slots ++ b.slots
  | .t3 a b c => a.slots ++ b.slots ++ c.slots
  | .t4 a b c d => a.slots ++ b.slots ++ c.slots ++ d.slots
def wipeS (σ : Slots) : List Nat → Slots
  | [] => σ
  | v :: vs => (wipeS σ vs).set v .emp

def fldD (μ : Store) (d : D) (f : Nat) : Option D :=
  match d with
  | .ins _ as ds => (as.zip ds).lookup f
  | .ref n => match μ[n]? with
    | some (.ins _ as ds) => (as.zip ds).lookup f
    | _ => none
  | _ => none
def clsOf (μ : Store) : D → Option Nat
  | .ins c _ _ => some c
  | .ref n => match μ[n]? with
    | some (.ins c _ _) => some c
    | _ => none
  | _ => none

/-- a comprehension's turns -/
def Res.nox {α : Type} : Res α → Res α
  | .ok a μ => .ok a μ
  | _ => .bad
def lcGo (step : D → Store → Res (Option D)) : List D → Store → Res (List D)
  | [], μ => .ok [] μ
  | x :: xs, μ => (step x μ).bind fun o μ1 => (lcGo step xs μ1).bind fun r μ2 => .ok (match o with | some d => d :: r | none => r) μ2

/-- a new instance, made by its __init__, frozen at its end -/
def newD (pg : Pg) (cf : CF) (c : Nat) (ds : List D) (μ : Store) : Res D :=
  match cf (pg.init c) (.ref μ.length :: ds) (μ ++ [.ins c [] []]) with
  | .ok d μ2 => match d, μ2.drop μ.length with
    | .non, [.ins c' as es] => if c' = c ∧ belows μ.length es = true ∧ (μ2.take μ.length).all (Ob.below μ.length) = true then .ok (.ins c as es) (μ2.take μ.length) else .bad
    | _, _ => .bad
  | .exn x μ2 => if μ.length ≤ μ2.length ∧ belows μ.length x.ds = true ∧ (μ2.take μ.length).all (Ob.below μ.length) = true then .exn x (μ2.take μ.length) else .bad
  | .bad => .bad

/-- a comparison: an instance's == and != by its __eq__ -/
def cmpR (pg : Pg) (cf : CF) (op : CmpOp) (d e : D) (μ : Store) : Res D :=
  match op, (clsOf μ d).bind pg.eq with
  | .Eq, some f => match cf f [d, e] μ with
    | .ok (.bl b) μ1 => .ok (.bl b) μ1
    | _ => .bad
  | .NotEq, some f => match cf f [d, e] μ with
    | .ok (.bl b) μ1 => .ok (.bl !b) μ1
    | _ => .bad
  | op, _ => Res.of ((cmpD μ op d e).map .bl) μ

def IEs.len : IEs → Nat
  | .nil => 0
  | .cons _ r => r.len + 1

/-- a test -/
def Res.tst (r : Res D) : Res Bool := r.bind fun x μ => Res.of (truthyD μ x) μ

section
variable (pg : Pg) (cf : CF)
mutual
/-- o: read in place what is the frame's own -/
def evE (o : Bool) : IE → Slots → Store → Res D
  | .v i, σ, μ => Res.of (if o then rdO σ i else rd σ i) μ
  | .non, _, μ => .ok .non μ
  | .bl b, _, μ => .ok (.bl b) μ
  | .int i, _, μ => .ok (.int i) μ
  | .str x, _, μ => .ok (.str x) μ
  | .gi _ i, _, μ => .ok (.int i) μ
  | .gs _ z, _, μ => .ok (.str z) μ
  | .tup es, σ, μ => (evEs false es σ μ).bind fun ds μ1 => .ok (.tup ds) μ1
  | .lst m l, σ, μ => (evL l σ μ).bind fun ds μ1 => match m with
    | .fz => .ok (.lst ds) μ1
    | .sh => .ok (.ref μ1.length) (μ1 ++ [.lst ds])
  | .bin op a b, σ, μ => (evE false a σ μ).bind fun x μ1 => (evE false b σ μ1).bind fun y μ2 => Res.of (binD op x y) μ2
  | .neg a, σ, μ => (evE false a σ μ).bind fun x μ1 => match x with
    | .int i => .ok (.int (-i)) μ1
    | _ => .bad
  | .cmp op a b, σ, μ => (evE true a σ μ).bind fun x μ1 => (evE true b σ μ1).bind fun y μ2 => Res.of ((cmpD μ2 op x y).map .bl) μ2
  | .cmpo op a b, σ, μ => (evE false a σ μ).bind fun x μ1 => (evE false b σ μ1).bind fun y μ2 => cmpR pg cf op x y μ2
  | .chain op op' a b c, σ, μ => (evE false a σ μ).bind fun x μ1 => (evE false b σ μ1).bind fun y μ2 =>
    match cmpD μ2 op x y with
    | some true => (evE false c σ μ2).bind fun z μ3 => Res.of ((cmpD μ3 op' y z).map .bl) μ3
    | some false => .ok (.bl false) μ2
    | none => .bad
  | .isN a, σ, μ => (evE true a σ μ).bind fun x μ1 => .ok (.bl (isNon x)) μ1
  | .notN a, σ, μ => (evE true a σ μ).bind fun x μ1 => .ok (.bl !(isNon x)) μ1
  | .nt a, σ, μ => (evE true a σ μ).tst.bind fun t μ1 => .ok (.bl !t) μ1
  | .bo op es, σ, μ => evBo o op es σ μ
  | .ite c a b, σ, μ => (evE true c σ μ).tst.bind fun t μ1 => if t then evE o a σ μ1 else evE o b σ μ1
  | .ix a i, σ, μ => (evE true a σ μ).bind fun x μ1 => (evE false i σ μ1).bind fun y μ2 => Res.of (ixD μ2 x y) μ2
  | .slc a lo hi, σ, μ => (evE true a σ μ).bind fun x μ1 => (evI lo σ μ1).bind fun l μ2 => (evI hi σ μ2).bind fun h μ3 => match x with
    | .tup ds => .ok (.tup (cutD ds l h)) μ3
    | .str z => if z.length ≤ sizeLine then .ok (.str (cutS z l h)) μ3 else .bad
    | _ => .bad
  | .rev a, σ, μ => (evE true a σ μ).bind fun x μ1 => match x with
    | .tup ds => .ok (.tup ds.reverse) μ1
    | _ => .bad
  | .fld a f, σ, μ => (evE false a σ μ).bind fun x μ1 => Res.of (fldD μ1 x f) μ1
  | .call f es, σ, μ => (evEs false es σ μ).bind fun ds μ1 => cf f ds μ1
  | .callk f pat as bs, σ, μ => (evEs false as σ μ).bind fun ds μ1 => (evEs false bs σ μ1).bind fun es μ2 => match fill pat (ds ++ es) with
    | some zs => cf f zs μ2
    | none => .bad
  | .meth m a, σ, μ => (evE false a σ μ).bind fun x μ1 => match (clsOf μ1 x).bind fun c => pg.meth c m with
    | some f => cf f [x] μ1
    | none => .bad
  | .new c es, σ, μ => (evEs false es σ μ).bind fun ds μ1 => newD pg cf c ds μ1
  | .newk c pat as bs, σ, μ => (evEs false as σ μ).bind fun ds μ1 => (evEs false bs σ μ1).bind fun es μ2 => match fill pat (ds ++ es) with
    | some zs => newD pg cf c zs μ2
    | none => .bad
  | .bi b es, σ, μ => (evEs true es σ μ).bind fun ds μ1 => Res.of (biD μ1 b ds) μ1
  | .isi a t, σ, μ => (evE true a σ μ).bind fun x μ1 => Res.of ((tyOf μ1 t x).map .bl) μ1
  | .dct0, _, μ => .ok (.dct [] []) μ
  | .dct1 x a, σ, μ => (evE false a σ μ).bind fun d μ1 => .ok (.dct [.inr x] [d]) μ1
  | .eqNil a, σ, μ => (evE true a σ μ).bind fun x μ1 => match x with
    | .tup ds => .ok (.bl ds.isEmpty) μ1
    | _ => .bad
  | .dctp a, σ, μ => (evE true a σ μ).bind fun x μ1 => dctR μ1 x
  | .dIn a b, σ, μ => (evE false a σ μ).bind fun x μ1 => (evE false b σ μ1).bind fun y μ2 => dInR x y μ2
  | .dIx b a, σ, μ => (evE false b σ μ).bind fun y μ1 => (evE false a σ μ1).bind fun x μ2 => dIxR x y μ2
  | .dGet b a, σ, μ => (evE false b σ μ).bind fun y μ1 => match y with
    | .dct ks ds => (evE false a σ μ1).bind fun x μ2 => dGetR x (.dct ks ds) μ2
    | _ => .bad
  | .lstNil ne a, σ, μ => (evE true a σ μ).bind fun x μ1 => match x with
    | .lst ds => .ok (.bl (ne != ds.isEmpty)) μ1
    | _ => .bad
def evEs (o : Bool) : IEs → Slots → Store → Res (List D)
  | .nil, _, μ => .ok [] μ
  | .cons a r, σ, μ => (evE o a σ μ).bind fun x μ1 => (evEs o r σ μ1).bind fun xs μ2 => .ok (x :: xs) μ2
def evBo (o : Bool) (op : BoolOp) : IEs → Slots → Store → Res D
  | .nil, _, _ => .bad
  | .cons a r, σ, μ => match r with
    | .nil => evE o a σ μ
    | .cons _ _ => (evE o a σ μ).bind fun x μ1 => match op, truthyD μ1 x with
      | .And, some true => evBo o op r σ μ1
      | .And, some false => .ok x μ1
      | .Or, some true => .ok x μ1
      | .Or, some false => evBo o op r σ μ1
      | _, none => .bad
/-- tests, one behind another -/
def evTs : IEs → Slots → Store → Res Bool
  | .nil, _, μ => .ok true μ
  | .cons a r, σ, μ => (evE true a σ μ).tst.bind fun t μ1 => if t then evTs r σ μ1 else .ok false μ1
/-- an optional bound of a slice -/
def evI : IO → Slots → Store → Res (Option Int)
  | .no, _, μ => .ok none μ
  | .so a, σ, μ => (evE false a σ μ).bind fun x μ1 => match x with
    | .int i => .ok (some i) μ1
    | _ => .bad
/-- what is walked -/
def evIt (o : Bool) : IT → Slots → Store → Res (List D)
  | .seq a, σ, μ => (evE o a σ μ).bind fun x μ1 => match x with
    | .str z => .ok (z.cps.toList.map fun c => .str ⟨#[c]⟩) μ1
    | .tup ds => .ok ds μ1
    | .lst ds => .ok ds μ1
    | .ro ds => .ok ds μ1
    | _ => .bad
  | .range1 a, σ, μ => (evE false a σ μ).bind fun x μ1 => match x with
    | .int n => if n < 2 ^ 62 ∧ -(2 ^ 62) ≤ n then .ok ((List.range n.toNat).map fun k => .int (0 + (k : Nat))) μ1 else .bad
    | _ => .bad
  | .range2 a b, σ, μ => (evE false a σ μ).bind fun x μ1 => (evE false b σ μ1).bind fun y μ2 => match x, y with
    | .int m, .int n => if (n < 2 ^ 62 ∧ -(2 ^ 62) ≤ n) ∧ (m < 2 ^ 62 ∧ -(2 ^ 62) ≤ m) then .ok ((List.range (n - m).toNat).map fun k => .int (m + (k : Nat))) μ2 else .bad
    | _, _ => .bad
  | .enum a, σ, μ => (evE o a σ μ).bind fun x μ1 => match x with
    | .lst ds => .ok (ds.zipIdx.map fun p => .tup [.int (p.2 : Nat), p.1]) μ1
    | _ => .bad
  | .zip a b, σ, μ => (evE o a σ μ).bind fun x μ1 => (evE o b σ μ1).bind fun y μ2 => match x, y with
    | .lst ds, .lst es => .ok ((ds.zip es).map fun p => .tup [p.1, p.2]) μ2
    | .tup ds, .tup es => .ok ((ds.zip es).map fun p => .tup [p.1, p.2]) μ2
    | .tup ds, .lst es => .ok ((ds.zip es).map fun p => .tup [p.1, p.2]) μ2
    | _, _ => .bad
/-- a new list -/
def evL : IL → Slots → Store → Res (List D)
  | .disp es, σ, μ => evEs false es σ μ
  | .comp elt tg it cs, σ, μ => (evIt true it σ μ).bind fun xs μ1 => if sizeLine < xs.length then .bad else
    (lcGo (fun x μ2 => match bindT tg x (wipeS σ tg.slots) with
      | some σ1 => (evTs cs σ1 μ2).bind fun t μ3 => if t then (evE false elt σ1 μ3).bind fun d μ4 => .ok (some d) μ4 else .ok none μ3
      | none => .bad) xs μ1).nox
  | .cat a b, σ, μ => (evE true a σ μ).bind fun x μ1 => (evE true b σ μ1).bind fun y μ2 => match lview μ2 x, lview μ2 y with
    | some ds, some es => if ds.length + es.length ≤ sizeLine then .ok (ds ++ es) μ2 else .bad
    | _, _ => .bad
  | .rep a b, σ, μ => (evE true a σ μ).bind fun x μ1 => (evE false b σ μ1).bind fun y μ2 => match lview μ2 x, y with
    | some ds, .int k => if -(2 ^ 63) ≤ k ∧ k < 2 ^ 63 ∧ ds.length * k.toNat ≤ sizeLine then .ok ((List.replicate k.toNat ds).flatten) μ2 else .bad
    | _, _ => .bad
  | .slc a lo hi, σ, μ => (evE true a σ μ).bind fun x μ1 => (evI lo σ μ1).bind fun l μ2 => (evI hi σ μ2).bind fun h μ3 => match lview μ3 x with
    | some ds => .ok (cutD ds l h) μ3
    | none => .bad
  | .rev a, σ, μ => (evE true a σ μ).bind fun x μ1 => match lview μ1 x with
    | some ds => .ok ds.reverse μ1
    | none => .bad
  | .listOf a, σ, μ => (evE true a σ μ).bind fun x μ1 => Res.of (sview μ1 x) μ1
  | .listRg a, σ, μ => (evE false a σ μ).bind fun x μ1 => match x with
    | .int n => if n ≤ 16777216 ∧ -(2 ^ 62) ≤ n then .ok ((List.range n.toNat).map fun k => .int (0 + (k : Nat))) μ1 else .bad
    | _ => .bad
  | .dispS e a, σ, μ => (evE false e σ μ).bind fun x μ1 => (evE true a σ μ1).bind fun y μ2 => match sview μ2 y with
    | some ds => if ds.length < sizeLine then .ok (x :: ds) μ2 else .bad
    | none => .bad
  | .sorti a, σ, μ => (evE true a σ μ).bind fun x μ1 => match (lview μ1 x).bind intsD with
    | some is => .ok ((is.mergeSort (fun a b => decide (a ≤ b))).map .int) μ1
    | none => .bad
  | .sortp a, σ, μ => (evE true a σ μ).bind fun x μ1 => match (lview μ1 x).bind pairsD with
    | some ps => .ok ((ps.mergeSort lexLe).map fun p => .tup [.int p.1, .int p.2]) μ1
    | none => .bad
  | .sortset a, σ, μ => (evE true a σ μ).bind fun x μ1 => match (lview μ1 x).bind intsD with
    | some is => if 64 ≤ is.length then .bad else .ok ((is.eraseDups.mergeSort (fun a b => decide (a ≤ b))).map .int) μ1
    | none => .bad
end

/-- a name's value -/
def evV (pg : Pg) (cf : CF) : IV → Slots → Store → Res Sl
  | .e a, σ, μ => (evE pg cf false a σ μ).bind fun d μ1 => .ok (.val d) μ1
  | .l l, σ, μ => (evL pg cf l σ μ).bind fun ds μ1 => .ok (.own ds) μ1

/-! ### statements -/
inductive SR where
  | next (σ : Slots) (μ : Store) | ret (d : D) (μ : Store) | brk (σ : Slots) (μ : Store) | cont (σ : Slots) (μ : Store)
  | exn (x : Exn) (σ : Slots) (μ : Store) | bad

def SR.bind (r : SR) (f : Slots → Store → SR) : SR := match r with
  | .next σ μ => f σ μ
  | r => r
/-- an expression in a statement -/
def Res.st {α : Type} (r : Res α) (σ : Slots) (f : α → Store → SR) : SR := match r with
  | .ok a μ => f a μ
  | .exn x μ => .exn x σ μ
  | .bad => .bad
def SR.ofS (o : Option Slots) (μ : Store) : SR := match o with
  | some σ => .next σ μ
  | none => .bad

def forGo (turn : D → Slots → Store → SR) : List D → Slots → Store → SR
  | [], σ, μ => .next σ μ
  | x :: xs, σ, μ => match turn x σ μ with
    | .next σ1 μ1 => forGo turn xs σ1 μ1
    | .cont σ1 μ1 => forGo turn xs σ1 μ1
    | .brk σ1 μ1 => .next σ1 μ1
    | r => r
def whileGo (test : Slots → Store → Res Bool) (turn : Slots → Store → SR) : Nat → Slots → Store → SR
  | 0, _, _ => .bad
  | n + 1, σ, μ => (test σ μ).st σ fun t μ1 => if t then (match turn σ μ1 with
      | .next σ1 μ2 => whileGo test turn n σ1 μ2
      | .cont σ1 μ2 => whileGo test turn n σ1 μ2
      | .brk σ1 μ2 => .next σ1 μ2
      | r => r) else .next σ μ1

def setIx (ds : List D) (i : Int) (d : D) : Option (List D) := (ixN ds.length i).map fun j => ds.set j d
def popIx (ds : List D) (i : Int) : Option (D × List D) := (ixN ds.length i).bind fun j => (ds[j]?).map fun d => (d, ds.eraseIdx j)
/-- an attribute is stored -/
def putAt (f : Nat) (d : D) : List Nat → List D → List Nat × List D
  | a :: as, e :: es => if a = f then (a :: as, d :: es) else ((a :: (putAt f d as es).1), (e :: (putAt f d as es).2))
  | _, _ => ([f], [d])

mutual
def evS : IS → Slots → Store → SR
  | .set t e, σ, μ => (evE pg cf false e σ μ).st σ fun d μ1 => SR.ofS (bindT t d σ) μ1
  | .par i j a b, σ, μ => (evV pg cf a σ μ).st σ fun d μ1 => (evV pg cf b σ μ1).st σ fun e μ2 => if i < σ.length ∧ j < σ.length ∧ i ≠ j then .next ((σ.set i d).set j e) μ2 else .bad
  | .own i l, σ, μ => (evL pg cf l σ μ).st σ fun ds μ1 => if i < σ.length then .next (σ.set i (.own ds)) μ1 else .bad
  | .setix i k e, σ, μ => match σ[i]? with
    | some (.own ds) => (evE pg cf false e σ μ).st σ fun d μ1 => (evE pg cf false k σ μ1).st σ fun x μ2 => match x with
      | .int j => match setIx ds j d with
        | some ds => .next (σ.set i (.own ds)) μ2
        | none => .bad
      | _ => .bad
    | _ => .bad
  | .setixS a k e, σ, μ => (evE pg cf false e σ μ).st σ fun d μ1 => (evE pg cf false a σ μ1).st σ fun o μ2 => (evE pg cf false k σ μ2).st σ fun x μ3 => match o, x with
    | .ref n, .int j => match μ3[n]? with
      | some (.lst ds) => match setIx ds j d with
        | some ds => .next σ (μ3.set n (.lst ds))
        | none => .bad
      | _ => .bad
    | _, _ => .bad
  | .setfld a f e, σ, μ => (evE pg cf false e σ μ).st σ fun d μ1 => (evE pg cf false a σ μ1).st σ fun o μ2 => match o with
    | .ref n => match μ2[n]? with
      | some (.ins c as es) => if as.length < 900 then .next σ (μ2.set n (.ins c (putAt f d as es).1 (putAt f d as es).2)) else .bad
      | _ => .bad
    | _ => .bad
  | .aug i op e, σ, μ => (Res.of (rd σ i) μ).st σ fun x μ1 => (evE pg cf false e σ μ1).st σ fun y μ2 => match op, x, y with
    | .Add, .int a, .int b => SR.ofS (bindT (.v i) (.int (a + b)) σ) μ2
    | .Sub, .int a, .int b => SR.ofS (bindT (.v i) (.int (a - b)) σ) μ2
    | .Mult, .int a, .int b => if mulOk a b then SR.ofS (bindT (.v i) (.int (a * b)) σ) μ2 else .bad
    | _, _, _ => .bad
  | .app i e, σ, μ => match σ[i]? with
    | some (.own ds) => (evE pg cf false e σ μ).st σ fun d μ1 => if ds.length < sizeLine then .next (σ.set i (.own (ds ++ [d]))) μ1 else .bad
    | _ => .bad
  | .ext i e, σ, μ => match σ[i]? with
    | some (.own ds) => (evE pg cf false e σ μ).st σ fun d μ1 => match d with
      | .lst es => if ds.length + es.length ≤ sizeLine then .next (σ.set i (.own (ds ++ es))) μ1 else .bad
      | _ => .bad
    | _ => .bad
  | .setpop j i e, σ, μ => (evE pg cf false e σ μ).st σ fun d μ1 => match σ[i]?, d with
    | some (.own ds), .int k => match popIx ds k with
      | some (x, ds) => SR.ofS (bindT (.v j) x (σ.set i (.own ds))) μ1
      | none => .bad
    | _, _ => .bad
  | .appS a e, σ, μ => (evE pg cf false a σ μ).st σ fun o μ1 => (evE pg cf false e σ μ1).st σ fun d μ2 => match o with
    | .ref n => match μ2[n]? with
      | some (.lst ds) => if ds.length < sizeLine then .next σ (μ2.set n (.lst (ds ++ [d]))) else .bad
      | _ => .bad
    | _ => .bad
  | .expr e, σ, μ => (evE pg cf false e σ μ).st σ fun _ μ1 => .next σ μ1
  | .ret e, σ, μ => (evE pg cf false e σ μ).st σ fun d μ1 => .ret d μ1
  | .retO i, σ, μ => match σ[i]? with
    | some (.own ds) => .ret (.lst ds) μ
    | _ => .bad
  | .dead, _, _ => .bad
  | .apppop i j e, σ, μ => match σ[i]?, σ[j]? with
    | some (.own ds), some (.own es) => (evE pg cf false e σ μ).st σ fun d μ1 => match d with
      | .int k => match popIx es k with
        | some (x, zs) => if ds.length < sizeLine ∧ i ≠ j ∧ es.length ≤ sizeLine then .next ((σ.set j (.own zs)).set i (.own (ds ++ [x]))) μ1 else .bad
        | none => .bad
      | _ => .bad
    | _, _ => .bad
  | .apppopT i m j e, σ, μ => match σ[i]?, σ[j]?, rd σ m with
    | some (.own ds), some (.own es), some y => (evE pg cf false e σ μ).st σ fun d μ1 => match d with
      | .int k => match popIx es k with
        | some (x, zs) => if ds.length < sizeLine ∧ i ≠ j ∧ es.length ≤ sizeLine then .next ((σ.set j (.own zs)).set i (.own (ds ++ [.tup [y, x]]))) μ1 else .bad
        | none => .bad
      | _ => .bad
    | _, _, _ => .bad
  | .retN, _, μ => .ret .non μ
  | .iff c a b, σ, μ => (evE pg cf true c σ μ).tst.st σ fun t μ1 => if t then evB a σ μ1 else evB b σ μ1
  | .forr t it b, σ, μ => (evIt pg cf false it σ μ).st σ fun xs μ1 => forGo (fun x σ1 μ2 => match bindT t x σ1 with
      | some σ2 => evB b σ2 μ2
      | none => .bad) xs σ μ1
  | .whil n c b, σ, μ => whileGo (fun σ1 μ1 => (evE pg cf true c σ1 μ1).tst) (fun σ1 μ1 => evB b σ1 μ1) n σ μ
  | .brk, σ, μ => .brk σ μ
  | .cont, σ, μ => .cont σ μ
  | .pass, σ, μ => .next σ μ
  | .frz i, σ, μ => match σ[i]? with
    | some (.own ds) => .next (σ.set i (.val (.lst ds))) μ
    | _ => .next σ μ
  | .kill i, σ, μ => .next (σ.set i .emp) μ
  | .rais c e, σ, μ => (evE pg cf false e σ μ).st σ fun d μ1 => .exn ⟨c, [d]⟩ σ μ1
  | .tri b hs, σ, μ => match evB b σ μ with
    | .exn x σ1 μ1 => match pickH hs x.c with
      | some h => match h.r.ev x.ds with
        | some d => .ret d μ1
        | none => .bad
      | none => .exn x σ1 μ1
    | r => r
def evB : IB → Slots → Store → SR
  | .nil, σ, μ => .next σ μ
  | .cons s r, σ, μ => (evS s σ μ).bind fun σ1 μ1 => evB r σ1 μ1
end

/-! ### calls -/
def runF (fi : FI) (ds : List D) (μ : Store) : Res D :=
  if ds.length = fi.np then
    match evB pg cf fi.body (ds.map .val ++ List.replicate (fi.n - fi.np) .emp) μ with
    | .next _ μ1 => .ok .non μ1
    | .ret d μ1 => .ok d μ1
    | .exn x _ μ1 => .exn x μ1
    | _ => .bad
  else .bad
end
def callI (pg : Pg) : Nat → CF
  | 0, _, _, _ => .bad
  | k + 1, f, ds, μ => match pg.fn f with
    | some fi => runF pg (callI pg k) fi ds μ
    | none => .bad
end T
example (pg : T.Pg) (cf : T.CF) (σ : T.Slots) (μ : T.Store) : T.evE pg cf false (.tup (.cons (.int 3) (.cons (.bin .Add (.int 4) (.int 5)) .nil))) σ μ = .ok (.tup [.int 3, .int 9]) μ := rfl
end

section
namespace T
open PySem PySem.Spec L2

/-- names by number -/
structure Tbl where
  fnm : Nat → Str
  cnm : Nat → Str
  att : Nat → Str
  mnm : Nat → Str
  gi : List (Str × Int)
  gs : List (Str × Str)
  np : Nat → Nat
  va : Nat → Bool
  vc : Nat → Bool
  isf : Nat → Bool
  /-- no defaults; the methods told of -/
  po : Nat → Bool
  vm : Nat → Bool
  mkc : Nat → Bool
  /-- calls by keywords: function, positional values, keywords, how the parameters are filled -/
  pat : List (Nat × Nat × List Str × List PA)
  init : Nat → Nat
  /-- error classes -/
  xv : Nat → Bool
  xn : Nat → Str
  xt : Nat → Str

def vis (sc : Scope) (x : Str) : Bool := match sc.names.lookup x with
  | some .local => true
  | some .cell => true
  | some .free => true
  | _ => false
def loc (sc : Scope) (x : Str) : Bool := match sc.names.lookup x with
  | some .local => true
  | some .cell => true
  | _ => false
def glb (sc : Scope) (x : Str) : Bool := match sc.names.lookup x with
  | some .globalImplicit => true
  | _ => false
def okName (x : Str) : Bool := !(x == ("__debug__" : Str)) && !(x == ("__classdict__" : Str))

def Bi.name : Bi → String
  | .len => "len" | .tuple => "tuple" | .all => "all" | .any => "any" | .sum => "sum" | .max => "max" | .min => "min" | .max2 => "max" | .min2 => "min" | .abs => "abs" | .int => "int" | .str => "str" | .repr => "repr" | .lenset => "len"
def Ty.name : Ty → String
  | .int => "int" | .bool => "bool" | .str => "str" | .tuple => "tuple" | .list => "list" | .dict => "dict" | .cls _ => ""

/-- a head that isTrue, subscripts and attributes take as it is -/
def IEs.toList : IEs → List IE
  | .nil => []
  | .cons a r => a :: r.toList
/-- the keywords' names -/
def kwN : List Keyword → List Str
  | [] => []
  | ⟨some n, _, _⟩ :: r => n :: kwN r
  | ⟨none, _, _⟩ :: r => kwN r
def kwA : List Keyword → Bool
  | [] => true
  | ⟨some _, _, _⟩ :: r => kwA r
  | ⟨none, _, _⟩ :: _ => false
def PA.shift : PA → PA
  | .ar j => .ar (j + 1)
  | p => p

def noSlice : Expr → Bool
  | .Slice _ _ _ _ => false
  | _ => true
def noSuper : Expr → Bool
  | .Call (.Name _ _) [] [] _ => false
  | _ => true
/-- no star -/
def plainA : Expr → Bool
  | .Starred _ _ => false
  | _ => true
/-- a target: its names may be stored: can -/
def mTg (N : List Str) (can : Str → Bool) : Tg → Expr → Bool
  | .v i, .Name x _ => decide (N[i]? = some x) && can x
  | .t2 a b, .Tuple [x, y] _ _ => mTg N can a x && mTg N can b y
  | .t3 a b c, .Tuple [x, y, z] _ _ => mTg N can a x && mTg N can b y && mTg N can c z
  | .t4 a b c d, .Tuple [x, y, z, u] _ _ => mTg N can a x && mTg N can b y && mTg N can c z && mTg N can d u
  | _, _ => false

def noSetE : Expr → Bool
  | .Set _ _ _ => false
  | _ => true
/-- enumerate and zip store into a written tuple -/
def itTgt : IT → Expr → Bool
  | .enum _, .Tuple _ _ _ => true
  | .zip _ _, .Tuple _ _ _ => true
  | .enum _, _ => false
  | .zip _ _, _ => false
  | _, _ => true

section
variable (T : Tbl) (N : List Str)
def tyM (t : Ty) (z : Str) : Bool := match t with
  | .cls c => T.vc c && decide (T.cnm c = z) && okName z
  | t => decide (Str.ofString t.name = z)
mutual
def mE (sc : Scope) : IE → Expr → Bool
  | .v i, e => match e with
    | .Name x _ => decide (N[i]? = some x) && (vis sc x && okName x)
    | _ => false
  | .non, e => match e with
    | .Constant .none _ _ => true
    | _ => false
  | .bl b, e => match e with
    | .Constant (.bool c) _ _ => b == c
    | _ => false
  | .int i, e => match e with
    | .Constant (.int j) _ _ => decide (i = j)
    | _ => false
  | .str x, e => match e with
    | .Constant (.str y) _ _ => decide (x = y)
    | _ => false
  | .gi x i, e => match e with
    | .Name y _ => decide (x = y) && glb sc y && okName y && decide ((x, i) ∈ T.gi)
    | _ => false
  | .gs x z, e => match e with
    | .Name y _ => decide (x = y) && glb sc y && okName y && decide ((x, z) ∈ T.gs)
    | _ => false
  | .tup es, e => match e with
    | .Tuple xs _ _ => decide (xs.length ≤ 1000) && mEs sc es xs
    | _ => false
  | .lst _ l, e => mL sc l e
  | .bin op a b, e => match e with
    | .BinOp x op' y _ => decide (op = op') && (mE sc a x && mE sc b y)
    | _ => false
  | .neg a, e => match e with
    | .UnaryOp .USub x _ => mE sc a x
    | _ => false
  | .cmp op a b, e => match e with
    | .Compare x [op'] [y] _ => decide (op = op') && !(behindInMarks op' y) && (mE sc a x && mE sc b y)
    | _ => false
  | .cmpo op a b, e => match e with
    | .Compare x [op'] [y] _ => decide (op = op') && !(behindInMarks op' y) && (mE sc a x && mE sc b y)
    | _ => false
  | .chain op op' a b c, e => match e with
    | .Compare x [p, p'] [y, z] _ => decide (op = p) && decide (op' = p') && !(lastMarks [p, p'] [y, z]) && (op == .Lt || op == .LtE) && (op' == .Lt || op' == .LtE) && (mE sc a x && (mE sc b y && mE sc c z))
    | _ => false
  | .isN a, e => match e with
    | .Compare x [.Is] [.Constant .none _ _] _ => mE sc a x
    | _ => false
  | .notN a, e => match e with
    | .Compare x [.IsNot] [.Constant .none _ _] _ => mE sc a x
    | _ => false
  | .nt a, e => match e with
    | .UnaryOp .Not x _ => mE sc a x
    | _ => false
  | .bo op es, e => match e with
    | .BoolOp op' xs _ => decide (op = op') && !xs.isEmpty && mEs sc es xs
    | _ => false
  | .ite c a b, e => match e with
    | .IfExp x y z _ => mE sc c x && (mE sc a y && mE sc b z)
    | _ => false
  | .ix a i, e => match e with
    | .Subscript x y _ => noSlice y && (mE sc a x && mE sc i y)
    | _ => false
  | .slc a lo hi, e => match e with
    | .Subscript x (.Slice l h none _) _ => mE sc a x && (mO sc lo l && mO sc hi h)
    | _ => false
  | .rev a, e => match e with
    | .Subscript x (.Slice none none (some (.UnaryOp .USub (.Constant (.int 1) _ _) _)) _) _ => mE sc a x
    | _ => false
  | .fld a f, e => match e with
    | .Attribute x y _ => decide (T.att f = y) && T.va f && noSuper x && mE sc a x
    | _ => false
  | .call f es, e => match e with
    | .Call (.Name x _) xs [] _ => T.isf f && decide (T.fnm f = x) && glb sc x && okName x && (decide (xs.length = T.np f) && T.po f) && mEs sc es xs
    | _ => false
  | .callk f p as bs, e => match e with
    | .Call (.Name x _) xs ks _ => T.isf f && (decide (T.fnm f = x) && (glb sc x && okName x)) && (kwA ks && decide ((f, xs.length, kwN ks, p) ∈ T.pat)) && (mEs sc as xs && mKs sc bs ks)
    | _ => false
  | .meth m a, e => match e with
    | .Call (.Attribute x y p) [] [] cp => T.vm m && (decide (T.mnm m = y) && (noSuper x && (p.endLine == cp.line))) && mE sc a x
    | _ => false
  | .new c es, e => match e with
    | .Call (.Name x _) xs [] _ => T.mkc c && decide (T.cnm c = x) && glb sc x && okName x && (decide (xs.length + 1 = T.np (T.init c)) && T.po (T.init c)) && mEs sc es xs
    | _ => false
  | .newk c p as bs, e => match e with
    | .Call (.Name x _) xs ks _ => T.mkc c && (decide (T.cnm c = x) && (glb sc x && okName x)) && (kwA ks && decide ((T.init c, xs.length + 1, kwN ks, .ar 0 :: p.map PA.shift) ∈ T.pat)) && (mEs sc as xs && mKs sc bs ks)
    | _ => false
  | .bi b es, e => match e with
    | .Call (.Name x _) xs [] _ => if b = .lenset then (match xs with
      | [.Call (.Name y _) zs [] _] => decide (("len" : Str) = x) && glb sc x && decide (("set" : Str) = y) && glb sc y && decide (zs.length = 1) && mEs sc es zs
      | _ => false) else (decide ((Str.ofString b.name) = x) && glb sc x && !xs.isEmpty && mEs sc es xs)
    | _ => false
  | .isi a t, e => match e with
    | .Call (.Name x _) [y, .Name z _] [] _ => plainA y && decide (("isinstance" : Str) = x) && glb sc x && glb sc z && tyM T t z && mE sc a y
    | _ => false
  | .dct0, e => match e with
    | .Dict [] [] _ => true
    | _ => false
  | .dct1 x a, e => match e with
    | .Dict [some (.Constant (.str y) _ _)] [v] _ => decide (x = y) && mE sc a v
    | _ => false
  | .eqNil a, e => match e with
    | .Compare x [.Eq] [.Tuple [] _ _] _ => mE sc a x
    | _ => false
  | .dctp a, e => match e with
    | .Call (.Name x _) [y] [] _ => decide (("dict" : Str) = x) && glb sc x && plainA y && mE sc a y
    | _ => false
  | .dIn a b, e => match e with
    | .Compare x [.In] [y] _ => !(behindInMarks .In y) && (mE sc a x && mE sc b y)
    | _ => false
  | .dIx b a, e => match e with
    | .Subscript x y _ => noSlice y && (mE sc b x && mE sc a y)
    | _ => false
  | .dGet b a, e => match e with
    | .Call (.Attribute x m p) [y] [] cp => decide (("get" : Str) = m) && (noSuper x && (p.endLine == cp.line) && plainA y) && (mE sc b x && mE sc a y)
    | _ => false
  | .lstNil ne a, e => match e with
    | .Compare x [op] [.List [] _] _ => decide (op = if ne then .NotEq else .Eq) && mE sc a x
    | _ => false
def mEs (sc : Scope) : IEs → List Expr → Bool
  | .nil, xs => xs.isEmpty
  | .cons a r, xs => match xs with
    | [] => false
    | x :: xr => plainA x && (mE sc a x && mEs sc r xr)
def mKs (sc : Scope) : IEs → List Keyword → Bool
  | .nil, ks => ks.isEmpty
  | .cons a r, ks => match ks with
    | [] => false
    | ⟨_, v, _⟩ :: kr => mE sc a v && mKs sc r kr
def mO (sc : Scope) : IO → Option Expr → Bool
  | .no, e => match e with
    | none => true
    | some _ => false
  | .so a, e => match e with
    | some x => mE sc a x
    | none => false
def mIt (sc : Scope) : IT → Expr → Bool
  | .seq a, e => mE sc a e
  | .range1 a, e => match e with
    | .Call (.Name x _) [y] [] _ => decide (("range" : Str) = x) && glb sc x && plainA y && mE sc a y
    | _ => false
  | .range2 a b, e => match e with
    | .Call (.Name x _) [y, z] [] _ => decide (("range" : Str) = x) && glb sc x && plainA y && plainA z && (mE sc a y && mE sc b z)
    | _ => false
  | .enum a, e => match e with
    | .Call (.Name x _) [y] [] _ => decide (("enumerate" : Str) = x) && glb sc x && plainA y && mE sc a y
    | _ => false
  | .zip a b, e => match e with
    | .Call (.Name x _) [y, z] [] _ => decide (("zip" : Str) = x) && glb sc x && plainA y && plainA z && (mE sc a y && mE sc b z)
    | _ => false
def mL (sc : Scope) : IL → Expr → Bool
  | .disp es, e => match e with
    | .List xs _ => decide (xs.length ≤ 1000) && mEs sc es xs
    | _ => false
  | .comp elt tg it cs, e => match e with
    | .ListComp x [⟨t, i, ifs, 0⟩] scope _ => blkC N sc scope (tg.slots.map fun j => (N.getD j "", j)) && mTg N (loc scope) tg t && (noSetE i && itTgt it t && mIt sc it i) && decide (ifs.length ≤ 1) &&
        (mEs (relS scope sc) cs ifs && mE (relS scope sc) elt x)
    | _ => false
  | .cat a b, e => match e with
    | .BinOp x .Add y _ => mE sc a x && mE sc b y
    | _ => false
  | .rep a b, e => match e with
    | .BinOp x .Mult y _ => mE sc a x && mE sc b y
    | _ => false
  | .slc a lo hi, e => match e with
    | .Subscript x (.Slice l h none _) _ => mE sc a x && (mO sc lo l && mO sc hi h)
    | _ => false
  | .rev a, e => match e with
    | .Subscript x (.Slice none none (some (.UnaryOp .USub (.Constant (.int 1) _ _) _)) _) _ => mE sc a x
    | _ => false
  | .listOf a, e => match e with
    | .Call (.Name x _) [y] [] _ => decide (("list" : Str) = x) && glb sc x && plainA y && mE sc a y
    | _ => false
  | .sortset a, e => match e with
    | .Call (.Name x _) [.Call (.Name z _) [y] [] _] [] _ => decide (("sorted" : Str) = x) && glb sc x && decide (("set" : Str) = z) && glb sc z && plainA y && mE sc a y
    | _ => false
  | .dispS a b, e => match e with
    | .List [x, .Starred y _] _ => plainA x && (mE sc a x && mE sc b y)
    | _ => false
  | .sorti a, e => match e with
    | .Call (.Name x _) [y] [] _ => decide (("sorted" : Str) = x) && glb sc x && plainA y && mE sc a y
    | _ => false
  | .sortp a, e => match e with
    | .Call (.Name x _) [y] [] _ => decide (("sorted" : Str) = x) && glb sc x && plainA y && mE sc a y
    | _ => false
  | .listRg a, e => match e with
    | .Call (.Name x _) [.Call (.Name z _) [y] [] _] [] _ => decide (("list" : Str) = x) && glb sc x && decide (("range" : Str) = z) && glb sc z && plainA y && mE sc a y
    | _ => false
end
end
end T
end

section
namespace T
open PySem PySem.Spec L2

def noComp : Expr → Bool
  | .ListComp _ _ _ _ => false
  | .SetComp _ _ _ _ => false
  | .DictComp _ _ _ _ _ => false
  | _ => true
/-- no stores that change places -/
def swOk : Expr → Expr → Bool
  | .Tuple [.Name _ _, .Tuple _ _ _] _ _, .Tuple _ _ _ => true
  | .Tuple [.Tuple _ _ _, .Name _ _] _ _, .Tuple _ _ _ => true
  | .Tuple [.Tuple _ _ _, .Tuple _ _ _] _ _, .Tuple _ _ _ => true
  | .Tuple _ _ _, .Tuple _ _ _ => false
  | .Name _ _, _ => true
  | .Tuple _ _ _, _ => true
  | _, _ => false
def lcl (sc : Scope) (x : Str) : Bool := match sc.names.lookup x with
  | some .local => true
  | _ => false
/-- three names, three values: not all of the names plain local ones; all of them -/
def set3C (sc : Scope) : Expr → Expr → Bool
  | .Tuple [.Name x _, .Name y _, .Name z _] _ _, .Tuple [_, _, _] _ _ => !(lcl sc x && (lcl sc y && lcl sc z))
  | _, _ => false
def t3d : Tg → Bool
  | .t3 (.v i) (.v j) (.v l) => decide (i ≠ j) && (decide (i ≠ l) && decide (j ≠ l))
  | _ => false
def tup3 : IE → Bool
  | .tup (.cons _ (.cons _ (.cons _ .nil))) => true
  | _ => false
def set3L (sc : Scope) (t : Tg) (e : IE) : Expr → Expr → Bool
  | .Tuple [.Name x px, .Name y py, .Name z pz] _ _, .Tuple [u, v, w] _ _ => (t3d t && tup3 e) && ((lcl sc x && (lcl sc y && lcl sc z)) && (((px.line == py.line) && (px.line == pz.line)) && ((!(x == y) && (!(x == z) && !(y == z))) && ((plainA u && (plainA v && plainA w)) && (!([u, v, w].all (foldedForSure 8)) && !([u, v, w].all (constantsAlone 8)))))))
  | _, _ => false
/-- stores that change places: two plain names on a line -/
def parOk (x y : Str) (px py : Pos) (vs : List Expr) : Bool := (px.line == py.line) && !(x == y) && !(vs.all (foldedForSure 8)) && !(vs.all (constantsAlone 8))
def isStarE : Expr → Bool
  | .Starred _ _ => true
  | _ => false

section
variable (T : Tbl) (N : List Str)
def mV (sc : Scope) : IV → Expr → Bool
  | .e a, x => mE T N sc a x
  | .l l, x => mL T N sc l x
/-- a comprehension whose outcome goes to a local name of the same line; any other list -/
def mOwnE (sc : Scope) (y : Str) (py : Pos) : Expr → Bool
  | .ListComp _ _ scope pos => !lcl sc y || (lcl sc y && (py.line == pos.line) && !(scope.names.any fun (n, k) => n == y && (k == .local || k == .cell)))
  | .SetComp _ _ _ _ => false
  | .DictComp _ _ _ _ _ => false
  | _ => true
def mHE (nm : Option Str) (att : Str) : HE → Expr → Bool
  | .non, .Constant .none _ _ => true
  | .bl b, .Constant (.bool c) _ _ => b == c
  | .str x, .Constant (.str y) _ _ => decide (x = y)
  | .val, .Attribute (.Name n _) a _ => decide (nm = some n) && (decide (a = att) && okName n)
  | _, _ => false
def mHEs (nm : Option Str) (att : Str) : List HE → List Expr → Bool
  | [], [] => true
  | h :: r, x :: xr => plainA x && (mHE nm att h x && mHEs nm att r xr)
  | _, _ => false
def mHR (nm : Option Str) (att : Str) : HR → Expr → Bool
  | .one h, e => mHE nm att h e
  | .tup hs, .Tuple xs _ _ => decide (xs.length ≤ 1000) && mHEs nm att hs xs
  | .lst hs, .List xs _ => decide (xs.length ≤ 1000) && mHEs nm att hs xs
  | _, _ => false
def mNm (sc : Scope) : Option Nat → Option Str → Bool
  | none, none => true
  | some i, some n => decide (N[i]? = some n) && lcl sc n
  | _, _ => false
def mHd (sc : Scope) (h : Hd) : ExceptHandler → Bool
  | .ExceptHandler (some (.Name x _)) nm [.Return (some e) _] _ => (T.xv h.c && (decide (T.xn h.c = x) && (glb sc x && okName x))) && (mNm N sc h.sl nm && mHR nm (T.xt h.c) h.r e)
  | _ => false
def mHds (sc : Scope) : List Hd → List ExceptHandler → Bool
  | [], [] => true
  | h :: r, x :: xr => mHd T N sc h x && mHds sc r xr
  | _, _ => false
mutual
def mS (sc : Scope) : IS → Stmt → Bool
  | .set t e, s => match s with
    | .Assign [g] v _ => mTg N (loc sc) t g && (noComp v && (swOk g v || (set3C sc g v || set3L sc t e g v))) && mE T N sc e v
    | _ => false
  | .par i j a b, s => match s with
    | .Assign [.Tuple [.Name x px, .Name y py] _ _] (.Tuple [u, v] _ _) _ => decide (N[i]? = some x) && decide (N[j]? = some y) && decide (i ≠ j) && ((lcl sc x && (lcl sc y && parOk x y px py [u, v])) || (loc sc x && (loc sc y && !(lcl sc x && lcl sc y)))) && (plainA u && plainA v) && (mV T N sc a u && mV T N sc b v)
    | _ => false
  | .own i l, s => match s with
    | .Assign [.Name x p] v _ => decide (N[i]? = some x) && loc sc x && mOwnE sc x p v && mL T N sc l v
    | _ => false
  | .setixS a k e, s => match s with
    | .Assign [.Subscript o i _] v _ => noComp v && noSlice i && (mE T N sc e v && (mE T N sc a o && mE T N sc k i))
    | _ => false
  | .setix i k e, s => match s with
    | .Assign [.Subscript (.Name x _) y _] v _ => noComp v && noSlice y && (decide (N[i]? = some x) && vis sc x && okName x) && (mE T N sc e v && mE T N sc k y)
    | _ => false
  | .setfld a f e, s => match s with
    | .Assign [.Attribute o y _] v _ => decide (T.att f = y) && T.va f && noComp v && (mE T N sc e v && mE T N sc a o)
    | _ => false
  | .app i e, s => match s with
    | .Expr (.Call (.Attribute (.Name x _) m p) [v] [] cp) _ => decide (m = "append") && (p.endLine == cp.line) && (decide (N[i]? = some x) && vis sc x && okName x) && plainA v && mE T N sc e v
    | _ => false
  | .ext i e, s => match s with
    | .Expr (.Call (.Attribute (.Name x _) m p) [v] [] cp) _ => decide (m = "extend") && (p.endLine == cp.line) && (decide (N[i]? = some x) && vis sc x && okName x) && plainA v && mE T N sc e v
    | _ => false
  | .apppop i j e, s => match s with
    | .Expr (.Call (.Attribute (.Name x _) m p) [.Call (.Attribute (.Name y _) m2 p2) [v] [] cp2] [] cp) _ => decide (m = "append") && (p.endLine == cp.line) && (decide (N[i]? = some x) && vis sc x && okName x) &&
        decide (m2 = "pop") && (p2.endLine == cp2.line) && (decide (N[j]? = some y) && vis sc y && okName y) && plainA v && mE T N sc e v
    | _ => false
  | .apppopT i q j e, s => match s with
    | .Expr (.Call (.Attribute (.Name x _) m p) [.Tuple [.Name z _, .Call (.Attribute (.Name y _) m2 p2) [v] [] cp2] _ _] [] cp) _ => decide (m = "append") && (p.endLine == cp.line) && (decide (N[i]? = some x) && vis sc x && okName x) &&
        decide (m2 = "pop") && (p2.endLine == cp2.line) && (decide (N[j]? = some y) && vis sc y && okName y) && (decide (N[q]? = some z) && vis sc z && okName z) && plainA v && mE T N sc e v
    | _ => false
  | .expr e, s => match s with
    | .Expr v _ => noComp v && mE T N sc e v
    | _ => false
  | .ret e, s => match s with
    | .Return (some v) _ => mE T N sc e v
    | _ => false
  | .retO i, s => match s with
    | .Return (some (.Name x _)) _ => decide (N[i]? = some x) && vis sc x && okName x
    | _ => false
  | .retN, s => match s with
    | .Return none _ => true
    | _ => false
  | .iff c a b, s => match s with
    | .If t p q _ => mE T N sc c t && (mB sc a p && mB sc b q)
    | _ => false
  | .forr t it b, s => match s with
    | .For g i p [] _ => mTg N (loc sc) t g && noSetE i && (itTgt it g && mIt T N sc it i) && mB sc b p
    | _ => false
  | .pass, s => match s with
    | .Pass _ => true
    | _ => false
  | .brk, s => match s with
    | .Break _ => true
    | _ => false
  | .cont, s => match s with
    | .Continue _ => true
    | _ => false
  | .dead, _ => true
  | .rais c e, s => match s with
    | .Raise (some (.Call (.Name x _) [v] [] _)) none _ => (T.xv c && (decide (T.xn c = x) && (glb sc x && okName x))) && (plainA v && mE T N sc e v)
    | _ => false
  | .tri b hs, s => match s with
    | .Try p hds [] [] _ => !hds.isEmpty && (mHds T N sc hs hds && mB sc b p)
    | _ => false
  | _, _ => false
def mB (sc : Scope) : IB → List Stmt → Bool
  | .nil, xs => xs.isEmpty
  | .cons (.frz i) r, xs => mB sc r xs
  | .cons (.kill i) r, xs => mB sc r xs
  | .cons s r, xs => match xs with
    | [] => false
    | x :: xr => mS sc s x && mB sc r xr
end
end
end T
end

section
namespace T
open PySem PySem.Spec L2

/-! ### the store and the slots beside the heap -/
inductive RpO (G : Glo) (F : Addr → Prop) (ι : List Addr) (H : Hp) : Ob → HO → Prop
  | lst {ds : List D} {vs : List V} : Rps G F ι H ds vs → RpO G F ι H (.lst ds) (.lst vs)
  | dct {ks : List Key} {ds : List D} {vs : List V} : Rps G F ι H ds vs → ks.length = vs.length → RpO G F ι H (.dct ks ds) (.dK (ks.zip vs))
  | ins {c : Nat} {as : List Nat} {ds : List D} {vs : List V} {dx : Addr} : Rps G F ι H ds vs → as.length = vs.length → G.vc c = true → (∀ f ∈ as, G.va f = true) → RpO G F ι H (.ins c as ds) (.ins (G.ca c) dx ((as.map G.at_).zip vs))

structure RelM (G : Glo) (F : Addr → Prop) (μ : Store) (ι : List Addr) (H : Hp) : Prop where
  len : μ.length = ι.length
  at_ : ∀ (n : Nat) (o : Ob) (a : Addr), μ[n]? = some o → ι[n]? = some a → ∃ ho, H a = some ho ∧ RpO G F ι H o ho

/-- the state at a frame's entry -/
structure Ent where
  F : Addr → Prop
  ι : List Addr
  H : Hp

def RpSl (G : Glo) (F : Addr → Prop) (ι : List Addr) (H : Hp) : Sl → Option (Option V) → Prop
  | .emp, _ => True
  | .val d, o => ∃ v, o = some (some v) ∧ Rp G F ι H d v
  | .own ds, o => ∃ a vs, o = some (some (.ref a)) ∧ ¬ F a ∧ a ∉ ι ∧ H a = some (.lst vs) ∧ Rps G F ι H ds vs

structure Rel (G : Glo) (B : Ent) (ss : Slots) (μ : Store) (F : Addr → Prop) (ι : List Addr) (σ : St) (H : Hp) : Prop where
  w : Wld F ι H
  m : RelM G F μ ι H
  st : Stp B.F B.ι B.H F ι H
  len : ss.length = σ.length
  sl : ∀ (i : Nat) (x : Sl), ss[i]? = some x → RpSl G F ι H x σ[i]?
  own : ∀ (i : Nat) (ds : List D) (a : Addr), ss[i]? = some (.own ds) → σ[i]? = some (some (.ref a)) → B.H a = none
  sep : ∀ (i j : Nat) (ds es : List D) (a : Addr), ss[i]? = some (.own ds) → ss[j]? = some (.own es) → σ[i]? = some (some (.ref a)) → σ[j]? = some (some (.ref a)) → i = j

section
variable {G : Glo} {B : Ent} {ss : Slots} {μ μ' : Store} {F F' : Addr → Prop} {ι ι' : List Addr} {σ : St} {H H' : Hp}

theorem RpO.step (w : Wld F ι H) (s : Stp F ι H F' ι' H') {o : Ob} {ho : HO} (r : RpO G F ι H o ho) : RpO G F' ι' H' o ho := by
  cases r with
  | lst r => exact .lst (Rps.step w s r)
  | dct r l => exact .dct (Rps.step w s r) l
  | ins r l c v => exact .ins (Rps.step w s r) l c v

theorem RpSl.step (w : Wld F ι H) (s : Stp F ι H F' ι' H') {x : Sl} {o : Option (Option V)} (r : RpSl G F ι H x o) : RpSl G F' ι' H' x o := by
  cases x with
  | emp => trivial
  | val d =>
    obtain ⟨v, e, r⟩ := r
    exact ⟨v, e, Rp.step w s r⟩
  | own ds =>
    obtain ⟨a, vs, e, nf, ni, h, r⟩ := r
    refine ⟨a, vs, e, fun z => ?_, fun z => ?_, s.keep _ _ h ni, Rps.step w s r⟩
    · rcases s.new a z with z | z
      · exact nf z
      · rw [h] at z; cases z
    · rcases s.mem z with z | z
      · exact ni z
      · rw [h] at z; cases z

/-- behind an expression -/
theorem Rel.step (R : Rel G B ss μ F ι σ H) (s : Stp F ι H F' ι' H') (w' : Wld F' ι' H') (m' : RelM G F' μ' ι' H') : Rel G B ss μ' F' ι' σ H' :=
  ⟨w', m', R.st.trans s, R.len, fun i x e => RpSl.step R.w s (R.sl i x e), R.own, R.sep⟩

/-! ### only new objects -/
theorem ext_upd {p : Addr} {o : HO} (h : H p = none) : ∀ b u, H b = some u → upd H p o b = some u := fun b u e => by rw [upd_ne (ne_of_none e h)]; exact e

theorem Stp.ext (w : Wld F ι H) (x : ∀ b o, H b = some o → H' b = some o) : Stp F ι H F ι H' :=
  ⟨fun _ h => h, fun _ h => .inl h, ⟨[], by simp, by simp⟩, fun b o h _ => x b o h, fun b h => by
    cases e : H b with
    | none => exact absurd e h
    | some o => rw [x b o e]; simp⟩
theorem Wld.ext (w : Wld F ι H) (x : ∀ b o, H b = some o → H' b = some o) : Wld F ι H' :=
  ⟨w.nd, fun a h => by
    obtain ⟨o, e, m⟩ := w.mu a h
    exact ⟨o, x a o e, m⟩, w.dis, fun a h => by
    cases e : H a with
    | none => exact absurd e (w.dom a h)
    | some o => rw [x a o e]; simp⟩
theorem RelM.ext (w : Wld F ι H) (m : RelM G F μ ι H) (x : ∀ b o, H b = some o → H' b = some o) : RelM G F μ ι H' :=
  ⟨m.len, fun n o a h1 h2 => by
    obtain ⟨ho, e, r⟩ := m.at_ n o a h1 h2
    exact ⟨ho, x _ _ e, RpO.step w (Stp.ext w x) r⟩⟩

/-! ### exceptions -/
/-- an own error as it lies: its class, its fields in its own dict -/
structure RpX (G : Glo) (F : Addr → Prop) (ι : List Addr) (H : Hp) (x : Exn) (cls : Value) (dd : Option Addr) : Prop where
  cl : cls = .ref (G.cx x.c)
  xv : G.xv x.c = true
  at_ : ∃ a v d, dd = some a ∧ x.ds = [d] ∧ H a = some (.xd [(G.xa x.c, v)]) ∧ Rp G F ι H d v
theorem RpX.step (w : Wld F ι H) (s : Stp F ι H F' ι' H') {x : Exn} {cls : Value} {dd : Option Addr} (r : RpX G F ι H x cls dd) : RpX G F' ι' H' x cls dd := by
  obtain ⟨hc, hv, a, v, d, e1, e2, e3, e4⟩ := r
  refine ⟨hc, hv, a, v, d, e1, e2, s.keep _ _ e3 fun hm => ?_, Rp.step w s e4⟩
  obtain ⟨o, eo, m⟩ := w.mu a hm
  rw [e3] at eo
  cases eo
  exact m

/-- a value as an operand reads it -/
inductive Rq (G : Glo) (F : Addr → Prop) (ι : List Addr) (H : Hp) (o : Bool) : D → V → Prop
  | of {d : D} {v : V} : Rp G F ι H d v → Rq G F ι H o d v
  | own {a : Addr} {vs : List V} {ds : List D} : o = true → a ∉ ι → H a = some (.lst vs) → Rps G F ι H ds vs → Rq G F ι H o (.lst ds) (.ref a)
inductive Rqs (G : Glo) (F : Addr → Prop) (ι : List Addr) (H : Hp) (o : Bool) : List D → List V → Prop
  | nil : Rqs G F ι H o [] []
  | cons {d : D} {v : V} {ds : List D} {vs : List V} : Rq G F ι H o d v → Rqs G F ι H o ds vs → Rqs G F ι H o (d :: ds) (v :: vs)
theorem Rq.step {o : Bool} {d : D} {v : V} (w : Wld F ι H) (s : Stp F ι H F' ι' H') (r : Rq G F ι H o d v) : Rq G F' ι' H' o d v := by
  cases r with
  | of r => exact .of (Rp.step w s r)
  | own h ni e r => exact .own h (fun z => by
      rcases s.mem z with z | z
      · exact ni z
      · rw [e] at z; cases z) (s.keep _ _ e ni) (Rps.step w s r)
theorem Rq.rp {d : D} {v : V} (r : Rq G F ι H false d v) : Rp G F ι H d v := by
  cases r with
  | of r => exact r
  | own h _ _ _ => cases h
theorem Rqs.step {o : Bool} (w : Wld F ι H) (s : Stp F ι H F' ι' H') : ∀ {ds : List D} {vs : List V}, Rqs G F ι H o ds vs → Rqs G F' ι' H' o ds vs
  | _, _, .nil => .nil
  | _, _, .cons h r => .cons (Rq.step w s h) (Rqs.step w s r)
theorem Rqs.rps : ∀ {ds : List D} {vs : List V}, Rqs G F ι H false ds vs → Rps G F ι H ds vs
  | _, _, .nil => .nil
  | _, _, .cons h r => .cons h.rp (Rqs.rps r)

/-! ### readings -/
section
variable (G : Glo) (W : WX) (σ : St) (F : Addr → Prop) (ι : List Addr) (H : Hp)
/-- what is wanted of an exception -/
def exE (x : Exn) (μ' : Store) : Prop := ∀ cls dd F' ι' H', Stp F ι H F' ι' H' → Wld F' ι' H' → RelM G F' μ' ι' H' → RpX G F' ι' H' x cls dd → W cls dd σ H'
def rdE (o : Bool) (Q : VK) : Res D → Prop
  | .ok d μ' => ∀ v F' ι' H', Stp F ι H F' ι' H' → Wld F' ι' H' → RelM G F' μ' ι' H' → Rq G F' ι' H' o d v → Q v H'
  | .exn x μ' => exE G W σ F ι H x μ'
  | .bad => False
def rdA (o : Bool) (Q : List V → Hp → Prop) : Res (List D) → Prop
  | .ok ds μ' => ∀ vs F' ι' H', Stp F ι H F' ι' H' → Wld F' ι' H' → RelM G F' μ' ι' H' → Rqs G F' ι' H' o ds vs → Q vs H'
  | .exn x μ' => exE G W σ F ι H x μ'
  | .bad => False
/-- a new list: nobody has it yet -/
def rdL (Q : VK) : Res (List D) → Prop
  | .ok ds μ' => ∀ p vs F' ι' H', Stp F ι H F' ι' H' → Wld F' ι' H' → RelM G F' μ' ι' H' → H p = none → H' p = some (.lst vs) → ¬ F' p → p ∉ ι' → Rps G F' ι' H' ds vs → Q (.ref p) H'
  | .exn x μ' => exE G W σ F ι H x μ'
  | .bad => False
/-- any result: K what is wanted of what it gives, at the state behind -/
def rdX {α : Type} (K : α → Store → (Addr → Prop) → List Addr → Hp → Prop) : Res α → Prop
  | .ok a μ' => ∀ F' ι' H', Stp F ι H F' ι' H' → Wld F' ι' H' → RelM G F' μ' ι' H' → K a μ' F' ι' H'
  | .exn x μ' => exE G W σ F ι H x μ'
  | .bad => False
end

section
variable {W : WX} {σ : St}
theorem exE.step {x : Exn} {μ' : Store} (s : Stp F ι H F' ι' H') (h : exE G W σ F ι H x μ') : exE G W σ F' ι' H' x μ' :=
  fun cls dd F2 ι2 H2 s2 w2 m2 r => h cls dd F2 ι2 H2 (s.trans s2) w2 m2 r
theorem rdE.step {o : Bool} {Q : VK} {r : Res D} (s : Stp F ι H F' ι' H') (h : rdE G W σ F ι H o Q r) : rdE G W σ F' ι' H' o Q r := by
  cases r with
  | ok d μ' => exact fun v F2 ι2 H2 s2 w2 m2 r => h v F2 ι2 H2 (s.trans s2) w2 m2 r
  | exn x μ' => exact exE.step s h
  | bad => exact h
theorem rdA.step {o : Bool} {Q : List V → Hp → Prop} {r : Res (List D)} (s : Stp F ι H F' ι' H') (h : rdA G W σ F ι H o Q r) : rdA G W σ F' ι' H' o Q r := by
  cases r with
  | ok d μ' => exact fun v F2 ι2 H2 s2 w2 m2 r => h v F2 ι2 H2 (s.trans s2) w2 m2 r
  | exn x μ' => exact exE.step s h
  | bad => exact h
theorem Stp.none (s : Stp F ι H F' ι' H') {p : Addr} (h : H' p = none) : H p = none := by
  cases e : H p with
  | none => rfl
  | some o => exact absurd h (s.dom p (by rw [e]; simp))
theorem rdL.step {Q : VK} {r : Res (List D)} (s : Stp F ι H F' ι' H') (h : rdL G W σ F ι H Q r) : rdL G W σ F' ι' H' Q r := by
  cases r with
  | ok d μ' => exact fun p vs F2 ι2 H2 s2 w2 m2 hn => h p vs F2 ι2 H2 (s.trans s2) w2 m2 (s.none hn)
  | exn x μ' => exact exE.step s h
  | bad => exact h
theorem rdX.step {α : Type} {K : α → Store → (Addr → Prop) → List Addr → Hp → Prop} {r : Res α} (s : Stp F ι H F' ι' H') (h : rdX G W σ F ι H K r) : rdX G W σ F' ι' H' K r := by
  cases r with
  | ok d μ' => exact fun F2 ι2 H2 s2 w2 m2 => h F2 ι2 H2 (s.trans s2) w2 m2
  | exn x μ' => exact exE.step s h
  | bad => exact h
end
end

section
variable (G : Glo) (W : WX) (pg : Pg) (cf : CF)
def tE (o : Bool) (e : IE) : TE := fun σ H Q => ∃ B ss μ F ι, Rel G B ss μ F ι σ H ∧ rdE G W σ F ι H o Q (evE pg cf o e ss μ)
def tEs (o : Bool) (e : IEs) : TA := fun σ H Q => ∃ B ss μ F ι, Rel G B ss μ F ι σ H ∧ rdA G W σ F ι H o Q (evEs pg cf o e ss μ)
def tL (e : IL) : TE := fun σ H Q => ∃ B ss μ F ι, Rel G B ss μ F ι σ H ∧ rdL G W σ F ι H Q (evL pg cf e ss μ)
end
section
variable {G : Glo} {W : WX} {pg : Pg} {cf : CF} {B : Ent} {ss : Slots} {μ : Store} {F : Addr → Prop} {ι : List Addr} {σ : St} {H : Hp} {o : Bool}
/-- an expression first, then what follows -/
theorem seqE {α : Type} {a : IE} {f : D → Store → Res α} {K : α → Store → (Addr → Prop) → List Addr → Hp → Prop} {P : VK} (R : Rel G B ss μ F ι σ H) (h : rdX G W σ F ι H K ((evE pg cf o a ss μ).bind f))
    (k : ∀ d μ1 v F1 ι1 H1, evE pg cf o a ss μ = .ok d μ1 → Stp F ι H F1 ι1 H1 → Rel G B ss μ1 F1 ι1 σ H1 → Rq G F1 ι1 H1 o d v → rdX G W σ F1 ι1 H1 K (f d μ1) → P v H1) : tE G W pg cf o a σ H P := by
  refine ⟨B, ss, μ, F, ι, R, ?_⟩
  cases e : evE pg cf o a ss μ with
  | ok d μ1 =>
    rw [e] at h
    exact fun v F1 ι1 H1 s w m r => k d μ1 v F1 ι1 H1 e s (R.step s w m) r (rdX.step s h)
  | exn x μ1 =>
    rw [e] at h
    exact h
  | bad =>
    rw [e] at h
    exact h
theorem seqEs {α : Type} {a : IEs} {f : List D → Store → Res α} {K : α → Store → (Addr → Prop) → List Addr → Hp → Prop} {P : List V → Hp → Prop} (R : Rel G B ss μ F ι σ H) (h : rdX G W σ F ι H K ((evEs pg cf o a ss μ).bind f))
    (k : ∀ d μ1 v F1 ι1 H1, evEs pg cf o a ss μ = .ok d μ1 → Stp F ι H F1 ι1 H1 → Rel G B ss μ1 F1 ι1 σ H1 → Rqs G F1 ι1 H1 o d v → rdX G W σ F1 ι1 H1 K (f d μ1) → P v H1) : tEs G W pg cf o a σ H P := by
  refine ⟨B, ss, μ, F, ι, R, ?_⟩
  cases e : evEs pg cf o a ss μ with
  | ok d μ1 =>
    rw [e] at h
    exact fun v F1 ι1 H1 s w m r => k d μ1 v F1 ι1 H1 e s (R.step s w m) r (rdX.step s h)
  | exn x μ1 =>
    rw [e] at h
    exact h
  | bad =>
    rw [e] at h
    exact h
/-- what is wanted of a value -/
def KV (G : Glo) (o : Bool) (Q : VK) : D → Store → (Addr → Prop) → List Addr → Hp → Prop := fun d _ F ι H => ∀ v, Rq G F ι H o d v → Q v H
theorem rdE_iff {Q : VK} {r : Res D} : rdE G W σ F ι H o Q r ↔ rdX G W σ F ι H (KV G o Q) r := by
  cases r with
  | ok d μ' => exact ⟨fun h F' ι' H' s w m v r => h v F' ι' H' s w m r, fun h v F' ι' H' s w m r => h F' ι' H' s w m v r⟩
  | exn x μ' => exact Iff.rfl
  | bad => exact Iff.rfl
end
end T
end

section
namespace T
open PySem PySem.Spec L2

/-! ### calls by keywords, defaults -/
def litV : Option Int → V
  | none => .non
  | some i => .int i
/-- the parameters' values: those written, the defaults -/
def selP {α : Type} (d : α) (p : List PA) (xs its : List α) : List α := p.map fun q => match q with
  | .ar j => xs.getD j d
  | .df j _ => its.getD j d
theorem selP_shift {α : Type} {d : α} {p : List PA} {x : α} {xs its : List α} : selP d (.ar 0 :: p.map PA.shift) (x :: xs) its = x :: selP d p xs its := by
  unfold selP
  rw [List.map_cons, List.map_map]
  refine congrArg (x :: ·) (List.map_congr_left fun q _ => ?_)
  cases q <;> rfl
structure KwB (K : PySem.W.Frag) (fd : FuncData) (ps : List Str) (n : Nat) (ks : List Str) (p : List PA) : Prop where
  ex : ∃ its : List Value, (∀ j i, PA.df j i ∈ p → ∃ u, its[j]? = some u ∧ RelV (litV i) u) ∧
    ∀ (s : Shared) (us ws : List Value), K.In s.heap → us.length = n → ws.length = ks.length → BindsTo s fd ⟨us, ks.zip ws⟩ (ps.zip (selP .none p (us ++ ws) its))
end T
end

section
namespace T
open PySem PySem.Spec L2

/-! ### where a body runs -/
structure Gd (G : Glo) (N : List Str) (sc : Scope) (k : Nat) (W : WX) (X : Cx) : Prop where
  P : X.prog = G.P
  w : X.w = G.w
  K : X.K = G.K
  mg : X.mg = G.mg
  base : X.base = G.base
  calm : X.calm = true
  N : X.N = N
  nd : X.N.Nodup
  sc : X.env.scope = sc
  room : Room (2 * k + 1) X.A
  gu : X.A.guards = some []
  tk : Takes X W

/-- what stands behind the top -/
structure Fk (T : Tbl) (G : Glo) (pg : Pg) where
  fa : Nat → Addr
  fd : Nat → FuncData
  ps : Nat → List Str
  gi : ∀ x i, (x, i) ∈ T.gi → ∃ t, G.mg x = some (.int i t)
  gs : ∀ x z, (x, z) ∈ T.gs → ∃ t, G.mg x = some (.str z t)
  sm : ∃ o, G.K.lookup sysModules = some o ∧ o.cls = .type "dict"
  bl : ∀ x, x ∈ (["len", "tuple", "all", "any", "sum", "max", "min", "abs", "int", "str", "repr", "range", "enumerate", "zip", "set", "sorted", "list", "isinstance", "bool", "dict"] : List Str) → G.mg x = none
  att : G.at_ = T.att
  va : G.va = T.va
  vc : G.vc = T.vc
  cls : ∀ c, G.vc c = true → Cls G.K (G.ca c)
  gc : ∀ c, G.vc c = true → G.mg (T.cnm c) = some (.ref (G.ca c))
  isT : ∀ c, G.vc c = true → ∀ n ∈ ["int", "bool", "str", "tuple", "list", "dict"], PySem.W.kitOne G.K (.ref (G.ca c)) (.type n) = some false
  isC : ∀ c, G.vc c = true → ∀ n ∈ ["NoneType", "int", "bool", "str", "tuple", "list", "dict"], PySem.W.kitOne G.K (.type n) (.ref (G.ca c)) = some false
  isCC : ∀ c d, G.vc c = true → G.vc d = true → PySem.W.kitOne G.K (.ref (G.ca c)) (.ref (G.ca d)) = some (c == d)
  insA : ∀ c, G.vc c = true → PySem.W.findIn G.K (.ref (G.ca c)) "__class__" = some (some (.builtin "object.__class__"))
  insM : ∀ c, G.vc c = true → PySem.W.mroIn G.K (G.ca c) (.type "object") = some true
  insG : PySem.W.specialIn G.K (.builtin "object.__class__") "__get__" = some (some (.builtin "getset_descriptor.__get__"))
  insT : PySem.W.takesIn G.K (.builtin "object.__class__") = some true
  eqK : ∀ c f, pg.eq c = some f → PySem.W.findIn G.K (.ref (G.ca c)) "__eq__" = some (some (.ref (fa f))) ∧ PySem.W.isFn G.K (.ref (fa f)) = true ∧ PySem.W.findIn G.K (.ref (G.ca c)) "__ne__" = some (some (.builtin "object.__ne__"))
  nfT : ∀ c, G.vc c = true → ∀ n ∈ ["NoneType", "int", "bool", "str", "tuple", "list", "dict"], PySem.W.notFirst G.K (G.ca c) (.type n) = true
  nfC : ∀ c d, G.vc c = true → G.vc d = true → PySem.W.notFirst G.K (G.ca c) (.ref (G.ca d)) = true
  soK : ∀ c, G.vc c = true → PySem.W.subIn G.K (.ref (G.ca c)) (.type "object") = some true
  mkk : ∀ c, T.mkc c = true → Mk G.K (G.ca c) (fa (pg.init c))
  mkv : ∀ c, T.mkc c = true → G.vc c = true
  mgf : ∀ f, T.isf f = true → G.mg (T.fnm f) = some (.ref (fa f))
  kpf : ∀ f, T.isf f = true → PySem.W.keepIn G.K (.ref (fa f)) = true
  bnd : ∀ f, T.po f = true → ∀ us, us.length = (ps f).length → bindArgs (fd f) ⟨us, []⟩ = pure ((ps f).zip us)
  eqP : ∀ c f, pg.eq c = some f → T.po f = true
  ini : ∀ c, pg.init c = T.init c
  kwb : ∀ f n ks p, (f, n, ks, p) ∈ T.pat → KwB G.K (fd f) (ps f) n ks p
  mth : ∀ c m f, pg.meth c m = some f → Meth G.K (G.ca c) (T.mnm m) (fa f) ∧ T.po f = true
  mna : ∀ m a, T.vm m = true → G.va a = true → T.att a ≠ T.mnm m
  psl : ∀ f, (ps f).length = T.np f
  np : ∀ f fi, pg.fn f = some fi → fi.np = T.np f
  noa : ∀ c f, G.vc c = true → G.va f = true → NoAttr G.K (G.ca c) (T.att f)
  inj : ∀ f g, G.va f = true → G.va g = true → T.att f = T.att g → f = g
  xd : Nat → XD
  xf : Nat → Addr
  xfd : Nat → FuncData
  xcx : ∀ c, T.xv c = true → Xc G.P G.K G.mg (xd c) (G.cx c) (xf c) (xfd c)
  xok : ∀ c, T.xv c = true → (xd c).Ok
  xbd : ∀ c, T.xv c = true → ∀ us : List Value, us.length = 2 → bindArgs (xfd c) ⟨us, []⟩ = pure ([(xd c).me, (xd c).par].zip us)
  xnm : ∀ c, T.xv c = true → G.mg (T.xn c) = some (.ref (G.cx c))
  xat : ∀ c, T.xv c = true → (xd c).att = T.xt c
  xtt : G.xa = T.xt
  xvv : G.xv = T.xv
  xrd : ∀ c, T.xv c = true → XfC G.K (G.cx c)
  xis : ∀ c e, T.xv c = true → T.xv e = true → PySem.W.exmOne G.K (.ref (G.cx c)) (.ref (G.cx e)) = some (c == e)

section
variable {G : Glo} {N : List Str} {sc : Scope} {k : Nat} {W : WX} {X : Cx} {pg : Pg} {cf : CF} {o : Bool} {pos : Pos}

theorem Gd.vis (g : Gd G N sc k W X) {x : Str} (h : vis sc x = true) : Vis X.env.scope x := by
  rw [g.sc]
  unfold T.vis at h
  unfold Vis
  split at h
  · exact .inl (by assumption)
  · exact .inr (.inl (by assumption))
  · exact .inr (.inr (by assumption))
  · cases h
theorem Gd.gl (g : Gd G N sc k W X) {x : Str} (h : glb sc x = true) : Gl X x := by
  unfold glb at h
  show X.env.scope.names.lookup x = _
  rw [g.sc]
  split at h
  · assumption
  · cases h
theorem okN1 {x : Str} (h : okName x = true) : (x == ("__debug__" : Str)) = false := by
  unfold okName at h
  simp only [Bool.and_eq_true, Bool.not_eq_true'] at h
  exact h.1
theorem okN2 {x : Str} (h : okName x = true) : (x == ("__classdict__" : Str)) = false := by
  unfold okName at h
  simp only [Bool.and_eq_true, Bool.not_eq_true'] at h
  exact h.2

theorem s_var (g : Gd G N sc k W X) {i : Nat} {x : Str} (hN : N[i]? = some x) (hv : T.vis sc x = true) (hn : okName x = true) : PE X (.Name x pos) (tE G W pg cf o (.v i)) := by
  refine ⟨fun pins s σ H Q I h => ?_⟩
  obtain ⟨B, ss, μ, F, ι, R, h⟩ := h
  refine (pe_var (i := i) (by rw [g.N]; exact hN) (g.vis hv) (okN1 hn) (okN2 hn)).run pins s σ H Q I ?_
  unfold evE at h
  have hw := R.w
  have key : ∀ d, (if o = true then rdO ss i else rd ss i) = some d → ∃ v, σ[i]? = some (some v) ∧ Rq G F ι H o d v := by
    intro d e
    cases q : ss[i]? with
    | none => cases o <;> simp [rd, rdO, q] at e
    | some x =>
      have r := R.sl i x q
      cases x with
      | emp => cases o <;> simp [rd, rdO, q] at e
      | val d' =>
        have ed : d' = d := by cases o <;> simpa [rd, rdO, q] using e
        subst ed
        obtain ⟨v, ev, rv⟩ := r
        exact ⟨v, ev, .of rv⟩
      | own ds =>
        cases o with
        | false => simp [rd, q] at e
        | true =>
          have ed : D.lst ds = d := by simpa [rdO, q] using e
          subst ed
          obtain ⟨a, vs, ev, nf, ni, ha, rv⟩ := r
          exact ⟨_, ev, .own rfl ni ha rv⟩
  cases e : (if o = true then rdO ss i else rd ss i) with
  | none => rw [e] at h; exact h.elim
  | some d =>
    rw [e] at h
    obtain ⟨v, ev, rv⟩ := key d e
    exact ⟨v, ev, h v F ι H .refl R.w R.m rv⟩
end
end T
end

section
namespace T
open PySem PySem.Spec L2

section
variable {G : Glo} {N : List Str} {sc : Scope} {k : Nat} {W : WX} {X : Cx} {pg : Pg} {cf : CF} {o : Bool} {pos : Pos} {T : Tbl}
variable {F : Addr → Prop} {ι : List Addr} {H : Hp} {B : Ent} {ss : Slots} {μ : Store} {σ : St}

/-- what a value gives where nothing changes -/
theorem rdX_of {Q : VK} {d : D} (h : rdX G W σ F ι H (KV G o Q) (.ok d μ)) (w : Wld F ι H) (m : RelM G F μ ι H) {v : V} (r : Rp G F ι H d v) : Q v H := h F ι H .refl w m v (.of r)
/-- .. where only objects are new -/
theorem rdX_ext {Q : VK} {d : D} {H' : Hp} (h : rdX G W σ F ι H (KV G o Q) (.ok d μ)) (w : Wld F ι H) (m : RelM G F μ ι H) (x : ∀ b ob, H b = some ob → H' b = some ob) {v : V} (r : Rp G F ι H' d v) : Q v H' :=
  h F ι H' (Stp.ext w x) (w.ext x) (m.ext w x) v (.of r)

theorem s_non : PE X (.Constant .none j pos) (tE G W pg cf o .non) := by
  refine ⟨fun pins s σ H Q I h => ?_⟩
  obtain ⟨B, ss, μ, F, ι, R, h⟩ := h
  exact pe_non.run pins s σ H Q I (rdX_of (rdE_iff.mp h) R.w R.m .non)
theorem s_bl {b : Bool} : PE X (.Constant (.bool b) j pos) (tE G W pg cf o (.bl b)) := by
  refine ⟨fun pins s σ H Q I h => ?_⟩
  obtain ⟨B, ss, μ, F, ι, R, h⟩ := h
  exact pe_bl.run pins s σ H Q I (rdX_of (rdE_iff.mp h) R.w R.m (.bl b))
theorem s_int {i : Int} : PE X (.Constant (.int i) j pos) (tE G W pg cf o (.int i)) := by
  refine ⟨fun pins s σ H Q I h => ?_⟩
  obtain ⟨B, ss, μ, F, ι, R, h⟩ := h
  exact pe_int.run pins s σ H Q I (rdX_of (rdE_iff.mp h) R.w R.m (.int i))
theorem s_str {x : Str} : PE X (.Constant (.str x) j pos) (tE G W pg cf o (.str x)) := by
  refine ⟨fun pins s σ H Q I h => ?_⟩
  obtain ⟨B, ss, μ, F, ι, R, h⟩ := h
  exact pe_str.run pins s σ H Q I (rdX_of (rdE_iff.mp h) R.w R.m (.str x))
theorem s_gi (g : Gd G N sc k W X) (f : Fk T G pg) {x : Str} {i : Int} (hg : glb sc x = true) (hn : okName x = true) (hm : (x, i) ∈ T.gi) : PE X (.Name x pos) (tE G W pg cf o (.gi x i)) := by
  refine ⟨fun pins s σ H Q I h => ?_⟩
  obtain ⟨B, ss, μ, F, ι, R, h⟩ := h
  obtain ⟨t, e⟩ := f.gi x i hm
  exact (pe_glob (v := .int i) (g.gl hg) (by rw [g.mg]; exact e) ⟨t, rfl⟩ (okN1 hn)).run pins s σ H Q I (rdX_of (rdE_iff.mp h) R.w R.m (.int i))
theorem s_gs (g : Gd G N sc k W X) (f : Fk T G pg) {x z : Str} (hg : glb sc x = true) (hn : okName x = true) (hm : (x, z) ∈ T.gs) : PE X (.Name x pos) (tE G W pg cf o (.gs x z)) := by
  refine ⟨fun pins s σ H Q I h => ?_⟩
  obtain ⟨B, ss, μ, F, ι, R, h⟩ := h
  obtain ⟨t, e⟩ := f.gs x z hm
  exact (pe_glob (v := .str z) (g.gl hg) (by rw [g.mg]; exact e) ⟨t, rfl⟩ (okN1 hn)).run pins s σ H Q I (rdX_of (rdE_iff.mp h) R.w R.m (.str z))

/-! ### argument lists -/
theorem star_plain {e : Expr} {es : List Expr} {env : Env} (h : ∀ x p, e ≠ .Starred x p) : starEach (e :: es) env = (false, eval e env) :: starEach es env := by
  cases e <;> first | rfl | exact absurd rfl (h _ _)
theorem sa_nil : L2.PA X [] (tEs G W pg cf o .nil) := by
  refine ⟨fun ps pins s σ H Q I h => ?_⟩
  obtain ⟨B, ss, μ, F, ι, R, h⟩ := h
  exact pa_nil.run ps pins s σ H Q I (h [] F ι H .refl R.w R.m .nil)
theorem rdA_iff {Q : List V → Hp → Prop} {r : Res (List D)} : rdA G W σ F ι H o Q r ↔ rdX G W σ F ι H (fun ds _ F ι H => ∀ vs, Rqs G F ι H o ds vs → Q vs H) r := by
  cases r with
  | ok d μ' => exact ⟨fun h F' ι' H' s w m v r => h v F' ι' H' s w m r, fun h v F' ι' H' s w m r => h F' ι' H' s w m v r⟩
  | exn x μ' => exact Iff.rfl
  | bad => exact Iff.rfl
theorem sa_cons {e : Expr} {es : List Expr} {a : IE} {r : IEs} (hs : ∀ x p, e ≠ .Starred x p) (ha : PE X e (tE G W pg cf o a)) (hr : L2.PA X es (tEs G W pg cf o r)) : L2.PA X (e :: es) (tEs G W pg cf o (.cons a r)) := by
  refine ⟨fun ps pins s σ H Q I h => ?_⟩
  obtain ⟨B, ss, μ, F, ι, R, h⟩ := h
  refine (pa_cons ha hr (star_plain hs)).run ps pins s σ H Q I ?_
  have h := rdA_iff.mp h
  unfold evEs at h
  refine seqE R h fun d μ1 v F1 ι1 H1 _ s1 R1 r1 h1 => ?_
  refine seqEs R1 h1 fun ds μ2 vs F2 ι2 H2 _ s2 R2 r2 h2 => ?_
  exact h2 F2 ι2 H2 .refl R2.w R2.m _ (.cons (Rq.step R1.w s2 r1) r2)

/-! ### tuples, lists -/
theorem Rqs.length : ∀ {ds : List D} {vs : List V}, Rqs G F ι H o ds vs → ds.length = vs.length
  | _, _, .nil => rfl
  | _, _, .cons _ r => congrArg Nat.succ (Rqs.length r)
theorem Rps.length : ∀ {ds : List D} {vs : List V}, Rps G F ι H ds vs → ds.length = vs.length
  | _, _, .nil => rfl
  | _, _, .cons _ r => congrArg Nat.succ (Rps.length r)
theorem evEs_len : ∀ {es : IEs} {μ μ1 : Store} {ds : List D}, evEs pg cf o es ss μ = .ok ds μ1 → ds.length = es.len
  | .nil, μ, μ1, ds, h => by
    unfold evEs at h
    cases h
    rfl
  | .cons a r, μ, μ1, ds, h => by
    unfold evEs at h
    cases e : evE pg cf o a ss μ with
    | ok d μ2 =>
      rw [e] at h
      simp only [Res.bind] at h
      cases e2 : evEs pg cf o r ss μ2 with
      | ok xs μ3 =>
        rw [e2] at h
        cases h
        have := evEs_len e2
        simp only [List.length_cons, IEs.len, this]
      | exn x μ3 => rw [e2] at h; cases h
      | bad => rw [e2] at h; cases h
    | exn x μ2 => rw [e] at h; cases h
    | bad => rw [e] at h; cases h

theorem s_tup {xs : List Expr} {es : IEs} {j : Nat} (hl : es.len ≤ 1000) (ha : L2.PA X xs (tEs G W pg cf false es)) : PE X (.Tuple xs j pos) (tE G W pg cf o (.tup es)) := by
  refine ⟨fun pins s σ H Q I h => ?_⟩
  obtain ⟨B, ss, μ, F, ι, R, h⟩ := h
  refine (pe_tup ha).run pins s σ H Q I ?_
  have h := rdE_iff.mp h
  unfold evE at h
  refine seqEs R h fun ds μ1 vs F1 ι1 H1 e s1 R1 r1 h1 => ⟨?_, fun p hp => ?_⟩
  · rw [← r1.length, evEs_len e, sizeLine_eq]
    omega
  · exact rdX_ext h1 R1.w R1.m (ext_upd hp) (.tup (.inl (.inl upd_same)) (Rps.step R1.w (Stp.ext R1.w (ext_upd hp)) r1.rps))

theorem Rps.append : ∀ {ds es : List D} {vs us : List V}, Rps G F ι H ds vs → Rps G F ι H es us → Rps G F ι H (ds ++ es) (vs ++ us)
  | _, _, _, _, .nil, r => r
  | _, _, _, _, .cons h t, r => .cons h (Rps.append t r)

theorem Rps.rep {ds : List D} {vs : List V} (r : Rps G F ι H ds vs) : ∀ n : Nat, Rps G F ι H (List.replicate n ds).flatten (List.replicate n vs).flatten
  | 0 => .nil
  | n + 1 => by
    rw [List.replicate_succ, List.replicate_succ, List.flatten_cons, List.flatten_cons]
    exact Rps.append r (Rps.rep r n)
/-! ### arithmetic -/
theorem opr_bin (g : Gd G N sc k W X) (op : Operator) : OpR X (binaryOp op) (fun x y H Q => ∃ F ι d e z, Wld F ι H ∧ Rp G F ι H d x ∧ Rp G F ι H e y ∧ binD op d e = some z ∧
    ∀ v H', (∀ b ob, H b = some ob → H' b = some ob) → Rp G F ι H' z v → Q v H') := by
  intro pins s σ H x y v u Q I rx ry h
  obtain ⟨F, ι, d, e, z, w, r1, r2, ez, q⟩ := h
  have fin : ∀ {v}, Rp G F ι H z v → Q v H := fun r => q _ H (fun _ _ h => h) r
  unfold binD at ez
  split at ez
  · cases r1; cases r2; cases ez
    exact op_add pins s σ H _ _ _ _ Q I rx ry ⟨_, _, rfl, rfl, fin (.int _)⟩
  · cases r1; cases r2; cases ez
    exact op_sub pins s σ H _ _ _ _ Q I rx ry ⟨_, _, rfl, rfl, fin (.int _)⟩
  · cases r1; cases r2
    split at ez
    · cases ez
      rename_i hc
      unfold mulOk at hc
      simp only [Bool.or_eq_true, decide_eq_true_eq] at hc
      rcases hc with hc | hc
      · exact op_mul pins s σ H _ _ _ _ Q I rx ry ⟨_, _, rfl, rfl, hc, fin (.int _)⟩
      · exact op_mulW pins s σ H _ _ _ _ Q I rx ry ⟨_, _, rfl, rfl, hc, fin (.int _)⟩
    · cases ez
  · cases r1; cases r2
    split at ez
    · cases ez
      rename_i hc
      exact op_modN pins s σ H _ _ _ _ Q I rx ry ⟨_, _, rfl, rfl, hc, fin (.int _)⟩
    · cases ez
  · cases r1; cases r2
    split at ez
    · cases ez
      rename_i hc
      unfold divOk at hc
      simp only [Bool.or_eq_true, decide_eq_true_eq] at hc
      rcases hc with hc | hc
      · exact op_fdivN pins s σ H _ _ _ _ Q I rx ry ⟨_, _, rfl, rfl, hc, fin (.int _)⟩
      · refine op_fdivW pins s σ H _ _ _ _ Q I rx ry ⟨_, _, rfl, rfl, hc, ?_⟩
        show Q (.int (_ / _)) H
        rw [← Int.fdiv_eq_ediv_of_nonneg _ (Int.le_of_lt hc.1)]
        exact fin (.int _)
    · cases ez
  · cases r1; cases r2
    split at ez
    · cases ez
      rename_i a b hc
      obtain ⟨t, rfl⟩ := rx
      obtain ⟨u', rfl⟩ := ry
      unfold powOk at hc
      simp only [Bool.and_eq_true, decide_eq_true_eq, Bool.not_eq_true'] at hc
      obtain ⟨⟨⟨⟨h0, h1⟩, h2⟩, h3⟩, h4⟩ := hc
      exact PySem.AutoIntOps.pow_4 h0 (by rw [h1]; simp) (by rw [h2]; simp) (by rw [h3]; simp) (by rw [h4]; simp) ⟨.int _, H, I.tok _, ⟨_, rfl⟩, fin (.int _)⟩
    · cases ez
  · cases r1; cases r2
    split at ez
    · cases ez
      rename_i hc
      exact op_add_str pins s σ H _ _ _ _ Q I rx ry ⟨_, _, rfl, rfl, hc, fin (.str _)⟩
    · cases ez
  · cases r1 with
    | tup ha ra => cases r2 with
    | tup hb rb =>
      split at ez
      · cases ez
        rename_i hc
        have la := ra.length
        have lb := rb.length
        refine op_catA pins s σ H _ _ _ _ Q I rx ry ⟨_, _, _, _, rfl, rfl, by rw [g.K]; exact ha, by rw [g.K]; exact hb, by rw [← la, ← lb]; exact hc, fun z => ?_, fun z1 z2 => ?_, fun z1 z2 p hp => ?_⟩
        · subst z
          cases ra
          exact fin (.tup hb rb)
        · subst z2
          cases rb
          rw [List.append_nil] at fin
          exact fin (.tup ha ra)
        · refine q _ _ (ext_upd hp) (.tup (.inl (.inl upd_same)) ?_)
          exact Rps.append (Rps.step w (Stp.ext w (ext_upd hp)) ra) (Rps.step w (Stp.ext w (ext_upd hp)) rb)
      · cases ez
  · cases r1 with
    | tup ha ra =>
      cases r2
      split at ez
      · cases ez
        rename_i hc
        obtain ⟨h1, h2, h3, h4⟩ := hc
        refine op_repT pins s σ H _ _ _ _ Q I rx ry ⟨_, _, _, rfl, rfl, by rw [g.K]; exact ha, ?_, h1, h2, by rw [← ra.length]; exact h4, fun p hp => ?_⟩
        · rintro rfl
          cases ra
          cases h3
        · refine q _ _ (ext_upd hp) (.tup (.inl (.inl upd_same)) ?_)
          exact Rps.rep (Rps.step w (Stp.ext w (ext_upd hp)) ra) _
      · cases ez
  · cases ez
end
end T
end

section
namespace T
open PySem PySem.Spec L2

section
variable {G : Glo} {N : List Str} {sc : Scope} {k : Nat} {W : WX} {X : Cx} {pg : Pg} {cf : CF} {o : Bool} {pos : Pos} {T : Tbl}
variable {F : Addr → Prop} {ι : List Addr} {H : Hp} {B : Ent} {ss : Slots} {μ : Store} {σ : St}

theorem Gd.un (g : Gd G N sc k W X) : X.A.units + 200 < cLine := by
  have := g.room.un
  omega

/-! ### a list's, a tuple's items -/
theorem Rq.lview (w : Wld F ι H) (m : RelM G F μ ι H) {d : D} {v : V} {ds : List D} (r : Rq G F ι H o d v) (e : lview μ d = some ds) : ∃ a vs, v = .ref a ∧ H a = some (.lst vs) ∧ Rps G F ι H ds vs := by
  cases r with
  | of r =>
    cases r with
    | lst f h r => cases e; exact ⟨_, _, rfl, h, r⟩
    | @ref n a h =>
      unfold T.lview at e
      simp only at e
      cases q : μ[n]? with
      | none => rw [q] at e; cases e
      | some ob =>
        rw [q] at e
        obtain ⟨ho, e1, r1⟩ := m.at_ n ob a q h
        cases ob with
        | lst es =>
          cases e
          cases r1 with
          | lst r => exact ⟨_, _, rfl, e1, r⟩
        | dct _ _ => cases e
        | ins _ _ _ => cases e
    | _ => cases e
  | own _ _ h r => cases e; exact ⟨_, _, rfl, h, r⟩
theorem Rq.sview (w : Wld F ι H) (m : RelM G F μ ι H) {d : D} {v : V} {ds : List D} (r : Rq G F ι H o d v) (e : sview μ d = some ds) : ∃ a vs, v = .ref a ∧ (SqL G.K H a vs ∨ SqT G.K H a vs) ∧ Rps G F ι H ds vs := by
  cases d with
  | tup es =>
    cases e
    cases r with
    | of r => cases r with
      | tup h r => exact ⟨_, _, rfl, .inr h, r⟩
  | ro es =>
    cases e
    cases r with
    | of r => cases r with
      | ro h r => exact ⟨_, _, rfl, .inl h.sq, r⟩
  | _ =>
    obtain ⟨a, vs, ev, h, r⟩ := Rq.lview w m r e
    exact ⟨a, vs, ev, .inl (.inl (.inl h)), r⟩

/-! ### trees as the library's data -/
mutual
theorem Rp.dp : ∀ {d : D} {v : V} {x : PyData}, Rp G F ι H d v → toPy d = some x → x.canLay0 = true → Dp G.K H v x
  | _, _, _, .non, e, _ => by cases e; exact .non
  | _, _, _, .bl b, e, _ => by cases e; exact .bl b
  | _, _, _, .int i, e, _ => by cases e; exact .int i
  | _, _, _, .str z, e, _ => by cases e; exact .str z
  | _, _, _, .tup h r, e, c => by
    unfold toPy at e
    obtain ⟨xs, e1, e2⟩ := Option.map_eq_some_iff.mp e
    subst e2
    unfold PyData.canLay0 at c
    exact .tup h (Rps.dp r e1 c)
  | _, _, _, .lst f h r, e, c => by
    unfold toPy at e
    obtain ⟨xs, e1, e2⟩ := Option.map_eq_some_iff.mp e
    subst e2
    unfold PyData.canLay0 at c
    exact .lst (.inl (.inl h)) (Rps.dp r e1 c)
  | _, _, _, .ro _ _, e, _ => by cases e
  | _, _, _, .dct f h l r, e, c => by
    unfold toPy at e
    obtain ⟨xs, e1, e2⟩ := Option.map_eq_some_iff.mp e
    subst e2
    unfold PyData.canLay0 at c
    cases c
  | _, _, _, .ins _ _ _ _ _ _, e, _ => by cases e
  | _, _, _, .ref _, e, _ => by cases e
theorem Rps.dp : ∀ {ds : List D} {vs : List V} {xs : List PyData}, Rps G F ι H ds vs → toPys ds = some xs → PyData.canLayAll0 xs = true → DpAll G.K H vs xs
  | _, _, _, .nil, e, _ => by cases e; exact .nil
  | _, _, _, .cons h r, e, c => by
    unfold toPys at e
    split at e
    · cases e
      unfold PyData.canLayAll0 at c
      obtain ⟨c1, c2⟩ := Bool.and_eq_true_iff.mp c
      exact .cons (Rp.dp h (by assumption) c1) (Rps.dp r (by assumption) c2)
    · cases e
end
theorem Rq.dp (w : Wld F ι H) (m : RelM G F μ ι H) {d : D} {v : V} {x : PyData} (r : Rq G F ι H o d v) (e : toPy (dview μ d) = some x) (c : x.canLay0 = true) : Dp G.K H v x := by
  cases r with
  | of r =>
    cases r with
    | @ref n a h =>
      unfold dview at e
      simp only at e
      cases q : μ[n]? with
      | none => rw [q] at e; cases e
      | some ob =>
        rw [q] at e
        obtain ⟨ho, e1, r1⟩ := m.at_ n ob a q h
        cases ob with
        | lst es =>
          cases r1 with
          | lst r =>
            simp only at e
            unfold toPy at e
            obtain ⟨xs, e2, e3⟩ := Option.map_eq_some_iff.mp e
            subst e3
            unfold PyData.canLay0 at c
            exact .lst (.inl (.inl e1)) (Rps.dp r e2 c)
        | dct _ _ => cases e
        | ins _ _ _ => cases e
    | non => exact Rp.dp (F := F) (ι := ι) .non e c
    | bl b => exact Rp.dp (F := F) (ι := ι) (.bl b) e c
    | int i => exact Rp.dp (F := F) (ι := ι) (.int i) e c
    | str z => exact Rp.dp (F := F) (ι := ι) (.str z) e c
    | tup h r => exact Rp.dp (.tup h r) e c
    | lst f h r => exact Rp.dp (.lst f h r) e c
    | dct f h l r => exact Rp.dp (.dct f h l r) e c
    | ins f h l c1 v1 r => cases e
    | ro _ _ => cases e
  | own _ _ h r =>
    unfold dview at e
    simp only at e
    unfold toPy at e
    obtain ⟨xs, e2, e3⟩ := Option.map_eq_some_iff.mp e
    subst e3
    unfold PyData.canLay0 at c
    exact .lst (.inl (.inl h)) (Rps.dp r e2 c)

/-! ### comparisons -/
theorem scal_eq {d e : D} {x y : V} {b : Bool} (r1 : Rq G F ι H o d x) (r2 : Rq G F ι H o e y) (h : scalD d e = some b) : scal x y = true ∧ decide (x = y) = b := by
  unfold scalD at h
  split at h <;> first
    | cases h; done
    | (cases r1 with
       | of r1 => cases r2 with
         | of r2 => cases r1; cases r2; cases h; first | exact ⟨rfl, rfl⟩ | (refine ⟨rfl, ?_⟩; rename_i a b; cases a <;> cases b <;> rfl) | exact ⟨rfl, by simp⟩)
theorem eqv_shaped {x : PyData} (h : SeqAt.shaped x = true) : x.canLay0 = true := SeqAt.canLay_of_shaped h
theorem opr_eq (g : Gd G N sc k W X) : OpR X (compareOp .Eq) (fun x y H Q => ∃ F ι μ d e b, Wld F ι H ∧ RelM G F μ ι H ∧ Rq G F ι H true d x ∧ Rq G F ι H true e y ∧ eqD μ d e = some b ∧ Q (.bl b) H) := by
  intro pins s σ H x y v u Q I rx ry h
  obtain ⟨F, ι, μ, d, e, b, w, m, r1, r2, hb, q⟩ := h
  unfold eqD at hb
  split at hb
  · rename_i b' hs
    cases hb
    obtain ⟨h1, h2⟩ := scal_eq r1 r2 hs
    exact op_eq pins s σ H _ _ _ _ Q I rx ry ⟨h1, by rw [h2]; exact q⟩
  · unfold dataEq at hb
    split at hb
    · rename_i x' y' e1 e2
      split at hb
      · rename_i hc
        cases hb
        exact op_eqD (by have := g.un; omega) pins s σ H _ _ _ _ Q I rx ry ⟨_, _, by rw [g.K]; exact Rq.dp w m r1 e1 (eqv_shaped hc.1), by rw [g.K]; exact Rq.dp w m r2 e2 (eqv_shaped hc.2), hc.1, hc.2, q⟩
      · cases hb
    · cases hb
theorem opr_ne (g : Gd G N sc k W X) : OpR X (compareOp .NotEq) (fun x y H Q => ∃ F ι μ d e b, Wld F ι H ∧ RelM G F μ ι H ∧ Rq G F ι H true d x ∧ Rq G F ι H true e y ∧ eqD μ d e = some b ∧ Q (.bl (!b)) H) := by
  intro pins s σ H x y v u Q I rx ry h
  obtain ⟨F, ι, μ, d, e, b, w, m, r1, r2, hb, q⟩ := h
  unfold eqD at hb
  split at hb
  · rename_i b' hs
    cases hb
    obtain ⟨h1, h2⟩ := scal_eq r1 r2 hs
    exact op_ne pins s σ H _ _ _ _ Q I rx ry ⟨h1, by rw [h2]; exact q⟩
  · unfold dataEq at hb
    split at hb
    · rename_i x' y' e1 e2
      split at hb
      · rename_i hc
        cases hb
        exact op_neD (by have := g.un; omega) pins s σ H _ _ _ _ Q I rx ry ⟨_, _, by rw [g.K]; exact Rq.dp w m r1 e1 (eqv_shaped hc.1), by rw [g.K]; exact Rq.dp w m r2 e2 (eqv_shaped hc.2), hc.1, hc.2, q⟩
      · cases hb
    · cases hb

theorem flat_V {d : D} {v : V} (r : Rq G F ι H o d v) (f : flatD d = true) : flatV v = true := by
  cases r with
  | of r => cases r <;> first | rfl | cases f
  | own _ _ _ _ => cases f
theorem flats_V : ∀ {ds : List D} {vs : List V}, Rps G F ι H ds vs → ds.all flatD = true → vs.all flatV = true
  | _, _, .nil, _ => rfl
  | _, _, .cons h r, f => by
    rw [List.all_cons, Bool.and_eq_true] at f
    rw [List.all_cons, Bool.and_eq_true]
    exact ⟨flat_V (o := false) (.of h) f.1, flats_V r f.2⟩
theorem eqFlat_V {d e : D} {x y : V} (r1 : Rq G F ι H o d x) (r2 : Rq G F ι H o e y) (f1 : flatD d = true) (f2 : flatD e = true) : eqV x y = eqFlat d e := by
  cases r1 with
  | of r1 => cases r2 with
    | of r2 => cases r1 <;> cases r2 <;> first | rfl | cases f1 | cases f2
    | own _ _ _ _ => cases f2
  | own _ _ _ _ => cases f1
theorem in_V {d : D} {x : V} (r1 : Rq G F ι H o d x) (f1 : flatD d = true) : ∀ {ds : List D} {vs : List V}, Rps G F ι H ds vs → ds.all flatD = true → inV x vs = ds.any fun e => eqFlat e d
  | _, _, .nil, _ => rfl
  | _, _, .cons h r, f => by
    rw [List.all_cons, Bool.and_eq_true] at f
    have e1 := in_V r1 f1 r f.2
    unfold inV at e1 ⊢
    rw [List.any_cons, List.any_cons, e1, eqFlat_V (.of h) r1 f.1 f1]
theorem dp_list {a : Addr} {vs : List V} {xs : List PyData} (h : Rd H a (.lst vs)) (r : DpAll G.K H vs xs) : Dp G.K H (.ref a) (.list xs) := .lst (.inl h) r

theorem opr_in (g : Gd G N sc k W X) (neg : Bool) : OpR X (compareOp (if neg then .NotIn else .In)) (fun x y H Q => ∃ F ι μ d e es b, Wld F ι H ∧ RelM G F μ ι H ∧ Rq G F ι H true d x ∧ Rq G F ι H true e y ∧ sview μ e = some es ∧ inSeq d es = some b ∧ Q (.bl (if neg then !b else b)) H) := by
  intro pins s σ H x y v u Q I rx ry h
  obtain ⟨F, ι, μ, d, e, es, b, w, m, r1, r2, hv, hb, q⟩ := h
  obtain ⟨a, vs, rfl, hs, rs⟩ := Rq.sview w m r2 hv
  unfold inSeq at hb
  split at hb
  · rename_i hf
    cases hb
    rw [Bool.and_eq_true] at hf
    have hq := hs
    rw [← g.K] at hq
    rw [← in_V r1 hf.1 rs hf.2] at q
    cases neg with
    | false => exact op_in_seq pins s σ H _ _ _ _ Q I rx ry ⟨_, _, rfl, hq, flat_V r1 hf.1, flats_V rs hf.2, q⟩
    | true => exact op_notIn_seq pins s σ H _ _ _ _ Q I rx ry ⟨_, _, rfl, hq, flat_V r1 hf.1, flats_V rs hf.2, q⟩
  · split at hb
    · rename_i x' xs e1 e2
      split at hb
      · rename_i hc
        cases hb
        have hr : X.A.units + 65 < cLine := by have := g.un; omega
        have c1 := eqv_shaped hc.1
        have c2 := eqv_shaped hc.2
        have e1' : toPy (dview μ d) = some x' := by
          cases d <;> first | exact e1 | cases e1
        have d1 : Dp X.K H x x' := by rw [g.K]; exact Rq.dp w m r1 e1' c1
        have d2 : DpAll X.K H vs xs := by rw [g.K]; exact Rps.dp rs e2 (by unfold PyData.canLay0 at c2; exact c2)
        obtain ⟨as, q1⟩ := Dp.reads I x' x v d1 rx
        rcases hs with hs | hs
        · obtain ⟨bs, q2⟩ := Dp.reads I (.list xs) (.ref a) u (.lst (by rw [g.K]; exact hs) d2) ry
          cases neg with
          | false => exact SeqAt.in_list_reads q2 q1 (SeqAt.canLay_of_shaped hc.2) (SeqAt.canLay_of_shaped hc.1) (PyProof.Rows.room_in_shaped hc.1 hr) ⟨.bl _, H, I, rfl, q⟩
          | true => exact SeqAt.notIn_list_reads q2 q1 (SeqAt.canLay_of_shaped hc.2) (SeqAt.canLay_of_shaped hc.1) (PyProof.Rows.room_in_shaped hc.1 hr) ⟨.bl _, H, I, rfl, q⟩
        · obtain ⟨bs, q2⟩ := Dp.reads I (.tuple xs) (.ref a) u (.tup (by rw [g.K]; exact hs) d2) ry
          cases neg with
          | false => exact SeqAt.in_tuple_reads q2 q1 (SeqAt.canLay_of_shaped hc.2) (SeqAt.canLay_of_shaped hc.1) (PyProof.Rows.room_in_shaped hc.1 hr) ⟨.bl _, H, I, rfl, q⟩
          | true => exact SeqAt.notIn_tuple_reads q2 q1 (SeqAt.canLay_of_shaped hc.2) (SeqAt.canLay_of_shaped hc.1) (PyProof.Rows.room_in_shaped hc.1 hr) ⟨.bl _, H, I, rfl, q⟩
      · cases hb
    · cases hb
end
end T
end

section
namespace T
open PySem PySem.Spec L2

section
variable {G : Glo} {N : List Str} {sc : Scope} {k : Nat} {W : WX} {X : Cx} {pg : Pg} {cf : CF} {o : Bool} {pos : Pos} {T : Tbl}
variable {F : Addr → Prop} {ι : List Addr} {H : Hp} {B : Ent} {ss : Slots} {μ : Store} {σ : St}

/-- an operation by values, as it stands in the interpreter -/
theorem s_bin (g : Gd G N sc k W X) {op : Operator} {x y : Expr} {a b : IE} (ha : PE X x (tE G W pg cf false a)) (hb : PE X y (tE G W pg cf false b)) : PE X (.BinOp x op y pos) (tE G W pg cf o (.bin op a b)) := by
  refine ⟨fun pins s σ H Q I h => ?_⟩
  obtain ⟨B, ss, μ, F, ι, R, h⟩ := h
  refine (pe_op (opr_bin g op) ha hb).run pins s σ H Q I ?_
  have h := rdE_iff.mp h
  unfold evE at h
  refine seqE R h fun d μ1 v F1 ι1 H1 _ s1 R1 r1 h1 => seqE R1 h1 fun e μ2 u F2 ι2 H2 _ s2 R2 r2 h2 => ?_
  cases ez : binD op d e with
  | none => rw [ez] at h2; exact h2.elim
  | some z =>
    rw [ez] at h2
    exact ⟨F2, ι2, d, e, z, R2.w, (Rq.step R1.w s2 r1).rp, r2.rp, ez, fun v H' x r => rdX_ext h2 R2.w R2.m x r⟩

theorem s_neg (g : Gd G N sc k W X) {x : Expr} {a : IE} (ha : PE X x (tE G W pg cf false a)) : PE X (.UnaryOp .USub x pos) (tE G W pg cf o (.neg a)) := by
  refine ⟨fun pins s σ H Q I h => ?_⟩
  obtain ⟨B, ss, μ, F, ι, R, h⟩ := h
  refine (pe_un un_neg ha).run pins s σ H Q I ?_
  have h := rdE_iff.mp h
  unfold evE at h
  refine seqE R h fun d μ1 v F1 ι1 H1 _ s1 R1 r1 h1 => ?_
  cases d with
  | int i =>
    cases r1.rp
    exact ⟨i, rfl, rdX_of h1 R1.w R1.m (.int _)⟩
  | _ => exact h1.elim

/-! ### truth -/
theorem tru_D (g : Gd G N sc k W X) (w : Wld F ι H) (m : RelM G F μ ι H) {d : D} {v : V} {b : Bool} (r : Rq G F ι H o d v) (e : truthyD μ d = some b) : TruV X.K v H b := by
  have seq : ∀ {ds : List D} {vs : List V}, Rps G F ι H ds vs → (!ds.isEmpty) = (!vs.isEmpty) := fun r => by cases r <;> rfl
  cases r with
  | own _ _ h r =>
    unfold truthyD T.sview T.lview at e
    cases e
    exact .inl ⟨_, .inl (.inl h), seq r⟩
  | of r =>
    cases r with
    | non => cases e; rfl
    | bl b => cases e; rfl
    | int i => cases e; rfl
    | str x =>
      unfold truthyD at e
      simp only at e
      split at e
      · rename_i hl
        cases e
        refine ⟨hl, ?_⟩
        cases hx : x.length with
        | zero => rfl
        | succ n => simp [bne]; omega
      · cases e
    | tup h r =>
      unfold truthyD T.sview at e
      cases e
      exact .inr (.inl ⟨_, by rw [g.K]; exact h, seq r⟩)
    | lst f h r =>
      unfold truthyD T.sview T.lview at e
      cases e
      exact .inl ⟨_, .inl (.inl h), seq r⟩
    | ro h r =>
      unfold truthyD T.sview at e
      cases e
      exact .inl ⟨_, by rw [g.K]; exact h.sq, seq r⟩
    | @dct a as1 vs ds f h l r =>
      unfold truthyD at e
      cases e
      refine .inr (.inr ⟨_, h, ?_⟩)
      cases r with
      | nil => cases as1 <;> simp_all
      | cons _ _ => cases as1 <;> simp_all
    | ins _ _ _ _ _ _ => cases e
    | @ref n a h =>
      unfold truthyD T.sview T.lview at e
      simp only at e
      cases q : μ[n]? with
      | none => rw [q] at e; cases e
      | some ob =>
        rw [q] at e
        obtain ⟨ho, e1, r1⟩ := m.at_ n ob a q h
        cases ob with
        | lst es =>
          cases e
          cases r1 with
          | lst r => exact .inl ⟨_, .inl (.inl e1), seq r⟩
        | dct _ _ => cases e
        | ins _ _ _ => cases e

/-- a value's truth, behind its expression -/
theorem seqT (g : Gd G N sc k W X) {a : IE} {α : Type} {f : Bool → Store → Res α} {K : α → Store → (Addr → Prop) → List Addr → Hp → Prop} {P : VK} (R : Rel G B ss μ F ι σ H) (h : rdX G W σ F ι H K ((evE pg cf true a ss μ).tst.bind f))
    (k : ∀ b μ1 v F1 ι1 H1, TruV X.K v H1 b → Stp F ι H F1 ι1 H1 → Rel G B ss μ1 F1 ι1 σ H1 → rdX G W σ F1 ι1 H1 K (f b μ1) → P v H1) : tE G W pg cf true a σ H P := by
  have e : ((evE pg cf true a ss μ).tst.bind f) = (evE pg cf true a ss μ).bind fun x μ1 => (Res.of (truthyD μ1 x) μ1).bind f := by
    unfold Res.tst Res.bind
    cases evE pg cf true a ss μ <;> rfl
  rw [e] at h
  refine seqE R h fun d μ1 v F1 ι1 H1 _ s1 R1 r1 h1 => ?_
  cases q : truthyD μ1 d with
  | none => rw [q] at h1; exact h1.elim
  | some b =>
    rw [q] at h1
    exact k b μ1 v F1 ι1 H1 (tru_D g R1.w R1.m r1 q) s1 R1 h1

theorem s_not (g : Gd G N sc k W X) {x : Expr} {a : IE} (ha : PE X x (tE G W pg cf true a)) : PE X (.UnaryOp .Not x pos) (tE G W pg cf o (.nt a)) := by
  refine ⟨fun pins s σ H Q I h => ?_⟩
  obtain ⟨B, ss, μ, F, ι, R, h⟩ := h
  refine (pe_notT ha).run pins s σ H Q I ?_
  have h := rdE_iff.mp h
  unfold evE at h
  exact seqT g R h fun b μ1 v F1 ι1 H1 t s1 R1 h1 => ⟨b, t, rdX_of h1 R1.w R1.m (.bl _)⟩

/-! ### tests -/
/-- a test's reading: the truth of the expression's value -/
def tT (G : Glo) (W : WX) (pg : Pg) (cf : CF) (e : IE) : TT := fun σ H Q => ∃ B ss μ F ι, Rel G B ss μ F ι σ H ∧ rdX G W σ F ι H (fun b _ _ _ H => Q b H) (evE pg cf true e ss μ).tst

/-- heads at which a test is the truth of the value -/
def plainT : Expr → Bool
  | .UnaryOp .Not _ _ => false
  | .BoolOp _ _ _ => false
  | .IfExp _ _ _ _ => false
  | .Compare _ _ _ _ => false
  | _ => true
theorem isTrue_plain' {e : Expr} {env : Env} (h : plainT e = true) (whole : Sem Value) : isTrue e env whole = (do let v ← whole; standAt e.pos; holding [v] (PySem.truthy v)) := by
  cases e with
  | UnaryOp op x p => cases op <;> first | rfl | (exact absurd h (by decide)) | (cases h)
  | BoolOp _ _ _ => cases h
  | IfExp _ _ _ _ => cases h
  | Compare _ _ _ _ => cases h
  | _ => rfl
theorem rdX_bok {r : Res Bool} : r.bind (fun b μ => Res.ok b μ) = r := by cases r <;> rfl
theorem st_plain (g : Gd G N sc k W X) {x : Expr} {a : IE} (hp : plainT x = true) (ha : PE X x (tE G W pg cf true a)) : PT X x (tT G W pg cf a) := by
  refine ⟨fun pins s σ H Q I h => ?_⟩
  obtain ⟨B, ss, μ, F, ι, R, h⟩ := h
  refine (pt_truth ha (fun whole => isTrue_plain' hp whole)).run pins s σ H Q I ?_
  rw [← rdX_bok (r := (evE pg cf true a ss μ).tst)] at h
  exact seqT g R h fun b μ1 v F1 ι1 H1 t s1 R1 h1 => ⟨b, t, h1 F1 ι1 H1 .refl R1.w R1.m⟩

/-- a test first, then what follows -/
theorem seqB {α : Type} {a : IE} {f : Bool → Store → Res α} {K : α → Store → (Addr → Prop) → List Addr → Hp → Prop} {P : Bool → Hp → Prop} (R : Rel G B ss μ F ι σ H) (h : rdX G W σ F ι H K ((evE pg cf true a ss μ).tst.bind f))
    (k : ∀ b μ1 F1 ι1 H1, Stp F ι H F1 ι1 H1 → Rel G B ss μ1 F1 ι1 σ H1 → rdX G W σ F1 ι1 H1 K (f b μ1) → P b H1) : tT G W pg cf a σ H P := by
  refine ⟨B, ss, μ, F, ι, R, ?_⟩
  cases e : (evE pg cf true a ss μ).tst with
  | ok b μ1 =>
    rw [e] at h
    exact fun F1 ι1 H1 s w m => k b μ1 F1 ι1 H1 s (R.step s w m) (rdX.step s h)
  | exn x μ1 =>
    rw [e] at h
    exact h
  | bad =>
    rw [e] at h
    exact h
theorem tst_not {a : IE} : (evE pg cf true (.nt a) ss μ).tst = (evE pg cf true a ss μ).tst.bind fun t μ1 => .ok (!t) μ1 := by
  show Res.tst ((evE pg cf true a ss μ).tst.bind fun t μ1 => .ok (.bl !t) μ1) = _
  cases (evE pg cf true a ss μ).tst <;> rfl
theorem st_not {x : Expr} {a : IE} (ha : PT X x (tT G W pg cf a)) : PT X (.UnaryOp .Not x pos) (tT G W pg cf (.nt a)) := by
  refine ⟨fun pins s σ H Q I h => ?_⟩
  obtain ⟨B, ss, μ, F, ι, R, h⟩ := h
  refine (pt_not ha).run pins s σ H Q I ?_
  rw [tst_not] at h
  exact seqB R h fun b μ1 F1 ι1 H1 s1 R1 h1 => h1 F1 ι1 H1 .refl R1.w R1.m
theorem tst_ite {c a b : IE} : (evE pg cf true (.ite c a b) ss μ).tst = (evE pg cf true c ss μ).tst.bind fun t μ1 => if t then (evE pg cf true a ss μ1).tst else (evE pg cf true b ss μ1).tst := by
  show Res.tst (evE pg cf true (.ite c a b) ss μ) = _
  rw [show evE pg cf true (.ite c a b) ss μ = (evE pg cf true c ss μ).tst.bind fun t μ1 => if t then evE pg cf true a ss μ1 else evE pg cf true b ss μ1 from rfl]
  cases (evE pg cf true c ss μ).tst with
  | ok t μ1 => cases t <;> rfl
  | exn x μ1 => rfl
  | bad => rfl
theorem s_ite {c x y : Expr} {t a b : IE} (hc : PT X c (tT G W pg cf t)) (ha : PE X x (tE G W pg cf o a)) (hb : PE X y (tE G W pg cf o b)) : PE X (.IfExp c x y pos) (tE G W pg cf o (.ite t a b)) := by
  refine ⟨fun pins s σ H Q I h => ?_⟩
  obtain ⟨B, ss, μ, F, ι, R, h⟩ := h
  refine (pe_ifExp hc ha hb).run pins s σ H Q I ?_
  have h := rdE_iff.mp h
  unfold evE at h
  refine seqB R h fun b μ1 F1 ι1 H1 s1 R1 h1 => ?_
  cases b with
  | true => exact ⟨B, ss, μ1, F1, ι1, R1, rdE_iff.mpr h1⟩
  | false => exact ⟨B, ss, μ1, F1, ι1, R1, rdE_iff.mpr h1⟩
theorem isTrue_IfExp {c x y : Expr} {env : Env} {whole : Sem Value} : isTrue (.IfExp c x y pos) env whole = (do if ← isTrue c env (eval c env) then isTrue x env (eval x env) else isTrue y env (eval y env)) := rfl
theorem st_ite {c x y : Expr} {t a b : IE} (hc : PT X c (tT G W pg cf t)) (ha : PT X x (tT G W pg cf a)) (hb : PT X y (tT G W pg cf b)) : PT X (.IfExp c x y pos) (tT G W pg cf (.ite t a b)) := by
  refine ⟨fun pins s σ H Q I h => ?_⟩
  obtain ⟨B, ss, μ, F, ι, R, h⟩ := h
  rw [tst_ite] at h
  rw [isTrue_IfExp]
  refine wpAny_bind (thn (hc.run pins s σ H _ I (seqB (P := fun t H1 => if t = true then tT G W pg cf a σ H1 Q else tT G W pg cf b σ H1 Q) R h fun b μ1 F1 ι1 H1 s1 R1 h1 => ?_)) fun d s1 ⟨H1, I1, q1⟩ => ?_)
  · cases b with
    | true => exact ⟨B, ss, μ1, F1, ι1, R1, h1⟩
    | false => exact ⟨B, ss, μ1, F1, ι1, R1, h1⟩
  · cases d with
    | true => exact ha.run pins s1 σ H1 Q I1 q1
    | false => exact hb.run pins s1 σ H1 Q I1 q1

/-! ### and, or -/
theorem s_bo1 {op : BoolOp} {x : Expr} {a : IE} (ha : PE X x (tE G W pg cf o a)) : PE X (.BoolOp op [x] pos) (tE G W pg cf o (.bo op (.cons a .nil))) := by
  refine ⟨fun pins s σ H Q I h => ?_⟩
  exact (pe_one ha).run pins s σ H Q I h
theorem evBo_cons {op : BoolOp} {a b : IE} {r : IEs} : evBo pg cf o op (.cons a (.cons b r)) ss μ = (evE pg cf o a ss μ).bind fun x μ1 => match op, truthyD μ1 x with
      | .And, some true => evBo pg cf o op (.cons b r) ss μ1
      | .And, some false => .ok x μ1
      | .Or, some true => .ok x μ1
      | .Or, some false => evBo pg cf o op (.cons b r) ss μ1
      | _, none => .bad := rfl
theorem s_bo (g : Gd G N sc k W X) {op : BoolOp} {x y : Expr} {xs : List Expr} {a b : IE} {r : IEs} (ha : PE X x (tE G W pg cf o a)) (hb : PE X (.BoolOp op (y :: xs) pos) (tE G W pg cf o (.bo op (.cons b r)))) :
    PE X (.BoolOp op (x :: y :: xs) pos) (tE G W pg cf o (.bo op (.cons a (.cons b r)))) := by
  refine ⟨fun pins s σ H Q I h => ?_⟩
  obtain ⟨B, ss, μ, F, ι, R, h⟩ := h
  have h := rdE_iff.mp h
  unfold evE at h
  rw [evBo_cons] at h
  cases op with
  | And =>
    refine (pe_andT ha hb).run pins s σ H Q I ?_
    refine seqE R h fun d μ1 v F1 ι1 H1 _ s1 R1 r1 h1 => ?_
    cases q : truthyD μ1 d with
    | none => rw [q] at h1; exact h1.elim
    | some t =>
      rw [q] at h1
      refine ⟨t, tru_D g R1.w R1.m r1 q, ?_⟩
      cases t with
      | true => exact ⟨B, ss, μ1, F1, ι1, R1, rdE_iff.mpr h1⟩
      | false => exact h1 F1 ι1 H1 .refl R1.w R1.m _ r1
  | Or =>
    refine (pe_orT ha hb).run pins s σ H Q I ?_
    refine seqE R h fun d μ1 v F1 ι1 H1 _ s1 R1 r1 h1 => ?_
    cases q : truthyD μ1 d with
    | none => rw [q] at h1; exact h1.elim
    | some t =>
      rw [q] at h1
      refine ⟨t, tru_D g R1.w R1.m r1 q, ?_⟩
      cases t with
      | false => exact ⟨B, ss, μ1, F1, ι1, R1, rdE_iff.mpr h1⟩
      | true => exact h1 F1 ι1 H1 .refl R1.w R1.m _ r1

structure PWt (X : Cx) (x : Expr) (t : TT) : Prop where
  pw : PW X x t
theorem st_bo1 {op : BoolOp} {x : Expr} {a : IE} (ha : PT X x (tT G W pg cf a)) : PW X (.BoolOp op [x] pos) (tT G W pg cf (.bo op (.cons a .nil))) := by
  refine ⟨fun wh pins s σ H Q I h => ?_⟩
  cases op with
  | And => exact (pw_and1 ha).run wh pins s σ H Q I h
  | Or => exact (pw_or1 ha).run wh pins s σ H Q I h
theorem tst_bo {op : BoolOp} {a b : IE} {r : IEs} : (evE pg cf true (.bo op (.cons a (.cons b r))) ss μ).tst = (evE pg cf true a ss μ).tst.bind fun t μ1 => match op, t with
      | .And, true => (evE pg cf true (.bo op (.cons b r)) ss μ1).tst
      | .And, false => .ok false μ1
      | .Or, true => .ok true μ1
      | .Or, false => (evE pg cf true (.bo op (.cons b r)) ss μ1).tst := by
  show Res.tst (evBo pg cf true op (.cons a (.cons b r)) ss μ) = _
  rw [evBo_cons]
  cases evE pg cf true a ss μ with
  | ok d μ1 =>
    show Res.tst _ = Res.bind (Res.of (truthyD μ1 d) μ1) _
    cases q : truthyD μ1 d with
    | none => cases op <;> (simp only [Res.bind, q]; rfl)
    | some t => cases op <;> cases t <;> (simp only [Res.bind, Res.of, Res.tst, q]) <;> rfl
  | exn x μ1 => rfl
  | bad => rfl
theorem st_bo {op : BoolOp} {x y : Expr} {xs : List Expr} {a b : IE} {r : IEs} (ha : PT X x (tT G W pg cf a)) (hb : PW X (.BoolOp op (y :: xs) pos) (tT G W pg cf (.bo op (.cons b r)))) :
    PW X (.BoolOp op (x :: y :: xs) pos) (tT G W pg cf (.bo op (.cons a (.cons b r)))) := by
  refine ⟨fun wh pins s σ H Q I h => ?_⟩
  obtain ⟨B, ss, μ, F, ι, R, h⟩ := h
  rw [tst_bo] at h
  cases op with
  | And =>
    refine (pw_and ha hb).run wh pins s σ H Q I ?_
    refine seqB R h fun t μ1 F1 ι1 H1 s1 R1 h1 => ?_
    cases t with
    | true => exact ⟨B, ss, μ1, F1, ι1, R1, h1⟩
    | false => exact h1 F1 ι1 H1 .refl R1.w R1.m
  | Or =>
    refine (pw_or ha hb).run wh pins s σ H Q I ?_
    refine seqB R h fun t μ1 F1 ι1 H1 s1 R1 h1 => ?_
    cases t with
    | false => exact ⟨B, ss, μ1, F1, ι1, R1, h1⟩
    | true => exact h1 F1 ι1 H1 .refl R1.w R1.m
end
end T
end

section
namespace T
open PySem PySem.Spec L2

section
variable {G : Glo} {N : List Str} {sc : Scope} {k : Nat} {W : WX} {X : Cx} {pg : Pg} {cf : CF} {o : Bool} {pos : Pos} {T : Tbl}
variable {F : Addr → Prop} {ι : List Addr} {H : Hp} {B : Ent} {ss : Slots} {μ : Store} {σ : St}

/-- == and != of instances by their own __eq__ -/
def EqH (G : Glo) (pg : Pg) (cf : CF) (X : Cx) : Prop := ∀ (neg : Bool) (pins : List (Addr × Obj)) (s : Shared) (σ : St) (H : Hp) (F : Addr → Prop) (ι : List Addr) (μ μ1 : Store) (d e : D) (c f : Nat) (x y : V) (u v : Value) (b : Bool) (Q : VK),
  Inv X pins σ H s → RelV x u → RelV y v → Wld F ι H → RelM G F μ ι H → clsOf μ d = some c → pg.eq c = some f → Rp G F ι H d x → Rp G F ι H e y → cf f [d, e] μ = .ok (.bl b) μ1 →
  (∀ F' ι' H', Stp F ι H F' ι' H' → Wld F' ι' H' → RelM G F' μ1 ι' H' → Q (.bl (if neg then !b else b)) H') →
  wpAny (model X.prog X.w) X.A (compareOp (if neg then .NotEq else .Eq) u v) (EP X pins σ Q) X.xe s

/-- a comparison by values -/
def rCd (G : Glo) (W : WX) (op : CmpOp) : R2 := fun x y H Q => ∃ o F ι μ d e σ, Wld F ι H ∧ RelM G F μ ι H ∧ Rq G F ι H o d x ∧ Rq G F ι H o e y ∧ rdX G W σ F ι H (fun c _ _ _ H => ∀ b, c = .bl b → Q (.bl b) H) (Res.of ((cmpD μ op d e).map D.bl) μ)
def rC (G : Glo) (W : WX) (pg : Pg) (cf : CF) (op : CmpOp) : R2 := fun x y H Q => ∃ F ι μ d e σ, Wld F ι H ∧ RelM G F μ ι H ∧ Rp G F ι H d x ∧ Rp G F ι H e y ∧ rdX G W σ F ι H (fun c _ _ _ H => ∀ b, c = .bl b → Q (.bl b) H) (cmpR pg cf op d e μ)
theorem Rq.tt {d : D} {v : V} (r : Rq G F ι H o d v) : Rq G F ι H true d v := by
  cases r with
  | of r => exact .of r
  | own _ ni h r => exact .own rfl ni h r

theorem opr_cmpd (g : Gd G N sc k W X) (op : CmpOp) : OpR X (compareOp op) (rCd G W op) := by
  intro pins s σ' H x y v u Q I rx ry h
  obtain ⟨o, F, ι, μ, d, e, σ, w, m, r1, r2, h⟩ := h
  have r1 := r1.tt
  have r2 := r2.tt
  cases hb : cmpD μ op d e with
  | none => rw [hb] at h; exact h.elim
  | some b =>
    rw [hb] at h
    have q := h F ι H .refl w m b rfl
    have isIn : ∀ (neg : Bool) (es : List D) (b' : Bool), sview μ e = some es → inSeq d es = some b' → b = (if neg then !b' else b') → wpAny (model X.prog X.w) X.A (compareOp (if neg then .NotIn else .In) v u) (EP X pins σ' Q) X.xe s := by
      intro neg es b' hv hb2 eb
      subst eb
      exact opr_in g neg pins s σ' H x y v u Q I rx ry ⟨F, ι, μ, d, e, es, b', w, m, r1, r2, hv, hb2, q⟩
    unfold cmpD at hb
    split at hb
    · exact opr_eq g pins s σ' H x y v u Q I rx ry ⟨F, ι, μ, _, _, b, w, m, r1, r2, hb, q⟩
    · obtain ⟨b', e1, e2⟩ := Option.map_eq_some_iff.mp hb
      subst e2
      exact opr_ne g pins s σ' H x y v u Q I rx ry ⟨F, ι, μ, _, _, b', w, m, r1, r2, e1, q⟩
    · cases r1 with | of r1 => cases r2 with | of r2 => cases r1; cases r2; cases hb; exact op_lt pins s σ' H _ _ _ _ Q I rx ry ⟨_, _, rfl, rfl, q⟩
    · cases r1 with | of r1 => cases r2 with | of r2 => cases r1; cases r2; cases hb; exact op_le pins s σ' H _ _ _ _ Q I rx ry ⟨_, _, rfl, rfl, q⟩
    · cases r1 with | of r1 => cases r2 with | of r2 => cases r1; cases r2; cases hb; exact op_gt pins s σ' H _ _ _ _ Q I rx ry ⟨_, _, rfl, rfl, q⟩
    · cases r1 with | of r1 => cases r2 with | of r2 => cases r1; cases r2; cases hb; exact op_ge pins s σ' H _ _ _ _ Q I rx ry ⟨_, _, rfl, rfl, q⟩
    · cases r1 with | of r1 => cases r2 with | of r2 => cases r1; cases r2; cases hb; cases rx; cases ry; exact wpAny_is_plain rfl (fin_bl I q (by rename_i a b; cases a <;> cases b <;> rfl))
    · cases r1 with | of r1 => cases r2 with | of r2 => cases r1; cases r2; cases hb; cases rx; cases ry; exact wpAny_isNot_plain rfl (fin_bl I q (by rename_i a b; cases a <;> cases b <;> rfl))
    · cases r1 with | of r1 => cases r2 with | of r2 => cases r1; cases r2; cases hb; exact op_in_str pins s σ' H _ _ _ _ Q I rx ry ⟨_, _, rfl, rfl, q⟩
    · cases r1 with | of r1 => cases r2 with | of r2 => cases r1; cases r2; cases hb; exact op_notin_str pins s σ' H _ _ _ _ Q I rx ry ⟨_, _, rfl, rfl, q⟩
    · split at hb
      · rename_i es hv
        exact isIn false es b hv hb rfl
      · cases hb
    · split at hb
      · rename_i es hv
        obtain ⟨b', e1, e2⟩ := Option.map_eq_some_iff.mp hb
        exact isIn true es b' hv e1 e2.symm
      · cases hb
    · cases hb

theorem opr_cmp (g : Gd G N sc k W X) (hE : EqH G pg cf X) (op : CmpOp) : OpR X (compareOp op) (rC G W pg cf op) := by
  intro pins s σ' H x y v u Q I rx ry h
  obtain ⟨F, ι, μ, d, e, σ, w, m, r1, r2, h⟩ := h
  unfold cmpR at h
  split at h
  · rename_i f hf
    obtain ⟨c, hc, hf⟩ := Option.bind_eq_some_iff.mp hf
    split at h
    · rename_i b μ1 hcf
      exact hE false pins s σ' H F ι μ μ1 d e c f x y v u b Q I rx ry w m hc hf r1 r2 hcf fun F' ι' H' s1 w1 m1 => h F' ι' H' s1 w1 m1 _ rfl
    · exact h.elim
  · rename_i f hf
    obtain ⟨c, hc, hf⟩ := Option.bind_eq_some_iff.mp hf
    split at h
    · rename_i b μ1 hcf
      exact hE true pins s σ' H F ι μ μ1 d e c f x y v u b Q I rx ry w m hc hf r1 r2 hcf fun F' ι' H' s1 w1 m1 => h F' ι' H' s1 w1 m1 _ rfl
    · exact h.elim
  · exact opr_cmpd (W := W) g _ pins s σ' H x y v u Q I rx ry ⟨true, F, ι, μ, d, e, σ, w, m, .of r1, .of r2, h⟩

/-! ### as expressions, as tests -/
section
variable {op op' : CmpOp} {x y z : Expr} {a b c : IE}
/-- a comparison's outcome is a truth -/
theorem KV_bl {Q : VK} {r : Res D} (h : rdX G W σ F ι H (KV G o Q) r) : rdX G W σ F ι H (fun c _ _ _ H => ∀ b, c = D.bl b → Q (.bl b) H) r := by
  cases r with
  | ok d μ' =>
    intro F' ι' H' s w m b e
    subst e
    exact h F' ι' H' s w m _ (.of (.bl b))
  | exn x μ' => exact h
  | bad => exact h
theorem KT_bl {Q : Bool → Hp → Prop} {r : Res D} (h : rdX G W σ F ι H (fun b _ _ _ H => Q b H) r.tst) : rdX G W σ F ι H (fun c _ _ _ H => ∀ b, c = D.bl b → ∃ k, V.bl b = .bl k ∧ Q k H) r := by
  cases r with
  | ok d μ' =>
    intro F' ι' H' s w m b e
    subst e
    exact ⟨b, rfl, h F' ι' H' s w m⟩
  | exn x μ' => exact h
  | bad => exact h
theorem rdX_tst_bind {α : Type} {r : Res α} {f : α → Store → Res D} : (r.bind f).tst = r.bind fun x μ => (f x μ).tst := by cases r <;> rfl
theorem tst_cmp : (evE pg cf true (.cmp op a b) ss μ).tst = (evE pg cf true a ss μ).bind fun x μ1 => (evE pg cf true b ss μ1).bind fun y μ2 => (Res.of ((cmpD μ2 op x y).map D.bl) μ2).tst := by
  show Res.tst ((evE pg cf true a ss μ).bind fun x μ1 => (evE pg cf true b ss μ1).bind fun y μ2 => Res.of ((cmpD μ2 op x y).map D.bl) μ2) = _
  rw [rdX_tst_bind]
  simp only [rdX_tst_bind]
theorem tst_cmpo : (evE pg cf true (.cmpo op a b) ss μ).tst = (evE pg cf false a ss μ).bind fun x μ1 => (evE pg cf false b ss μ1).bind fun y μ2 => (cmpR pg cf op x y μ2).tst := by
  show Res.tst ((evE pg cf false a ss μ).bind fun x μ1 => (evE pg cf false b ss μ1).bind fun y μ2 => cmpR pg cf op x y μ2) = _
  rw [rdX_tst_bind]
  simp only [rdX_tst_bind]

theorem s_cmp (g : Gd G N sc k W X) (hm : behindInMarks op y = false) (ha : PE X x (tE G W pg cf true a)) (hb : PE X y (tE G W pg cf true b)) : PE X (.Compare x [op] [y] pos) (tE G W pg cf o (.cmp op a b)) := by
  refine ⟨fun pins s σ H Q I h => ?_⟩
  obtain ⟨B, ss, μ, F, ι, R, h⟩ := h
  refine (pe_cmpR (opr_cmpd (W := W) g op) ha hb hm).run pins s σ H Q I ?_
  have h := rdE_iff.mp h
  unfold evE at h
  exact seqE R h fun d μ1 v F1 ι1 H1 _ s1 R1 r1 h1 => seqE R1 h1 fun e μ2 u F2 ι2 H2 _ s2 R2 r2 h2 => ⟨true, F2, ι2, μ2, d, e, σ, R2.w, R2.m, Rq.step R1.w s2 r1, r2, KV_bl h2⟩
theorem st_cmp (g : Gd G N sc k W X) (hm : behindInMarks op y = false) (ha : PE X x (tE G W pg cf true a)) (hb : PE X y (tE G W pg cf true b)) : PT X (.Compare x [op] [y] pos) (tT G W pg cf (.cmp op a b)) := by
  refine ⟨fun pins s σ H Q I h => ?_⟩
  obtain ⟨B, ss, μ, F, ι, R, h⟩ := h
  refine (pt_cmpR (opr_cmpd (W := W) g op) ha hb hm).run pins s σ H Q I ?_
  rw [tst_cmp] at h
  exact seqE R h fun d μ1 v F1 ι1 H1 _ s1 R1 r1 h1 => seqE R1 h1 fun e μ2 u F2 ι2 H2 _ s2 R2 r2 h2 => ⟨true, F2, ι2, μ2, d, e, σ, R2.w, R2.m, Rq.step R1.w s2 r1, r2, KT_bl h2⟩
theorem s_cmpo (g : Gd G N sc k W X) (hE : EqH G pg cf X) (hm : behindInMarks op y = false) (ha : PE X x (tE G W pg cf false a)) (hb : PE X y (tE G W pg cf false b)) : PE X (.Compare x [op] [y] pos) (tE G W pg cf o (.cmpo op a b)) := by
  refine ⟨fun pins s σ H Q I h => ?_⟩
  obtain ⟨B, ss, μ, F, ι, R, h⟩ := h
  refine (pe_cmpR (opr_cmp (W := W) g hE op) ha hb hm).run pins s σ H Q I ?_
  have h := rdE_iff.mp h
  unfold evE at h
  exact seqE R h fun d μ1 v F1 ι1 H1 _ s1 R1 r1 h1 => seqE R1 h1 fun e μ2 u F2 ι2 H2 _ s2 R2 r2 h2 => ⟨F2, ι2, μ2, d, e, σ, R2.w, R2.m, (Rq.step R1.w s2 r1).rp, r2.rp, KV_bl h2⟩
theorem st_cmpo (g : Gd G N sc k W X) (hE : EqH G pg cf X) (hm : behindInMarks op y = false) (ha : PE X x (tE G W pg cf false a)) (hb : PE X y (tE G W pg cf false b)) : PT X (.Compare x [op] [y] pos) (tT G W pg cf (.cmpo op a b)) := by
  refine ⟨fun pins s σ H Q I h => ?_⟩
  obtain ⟨B, ss, μ, F, ι, R, h⟩ := h
  refine (pt_cmpR (opr_cmp (W := W) g hE op) ha hb hm).run pins s σ H Q I ?_
  rw [tst_cmpo] at h
  exact seqE R h fun d μ1 v F1 ι1 H1 _ s1 R1 r1 h1 => seqE R1 h1 fun e μ2 u F2 ι2 H2 _ s2 R2 r2 h2 => ⟨F2, ι2, μ2, d, e, σ, R2.w, R2.m, (Rq.step R1.w s2 r1).rp, r2.rp, KT_bl h2⟩

/-! ### a < b <= c -/
theorem s_chain (g : Gd G N sc k W X) (hm : lastMarks [op, op'] [y, z] = false) (ha : PE X x (tE G W pg cf false a)) (hb : PE X y (tE G W pg cf false b)) (hc : PE X z (tE G W pg cf false c)) : PE X (.Compare x [op, op'] [y, z] pos) (tE G W pg cf o (.chain op op' a b c)) := by
  refine ⟨fun pins s σ H Q I h => ?_⟩
  obtain ⟨B, ss, μ, F, ι, R, h⟩ := h
  refine (pe_chain (opr_cmpd (W := W) g op) (opr_cmpd (W := W) g op') ha hb hc hm).run pins s σ H Q I ?_
  have h := rdE_iff.mp h
  unfold evE at h
  refine seqE R h fun d μ1 v F1 ι1 H1 _ s1 R1 r1 h1 => seqE R1 h1 fun e μ2 u F2 ι2 H2 _ s2 R2 r2 h2 => ?_
  cases q : cmpD μ2 op d e with
  | none => rw [q] at h2; exact h2.elim
  | some t =>
    rw [q] at h2
    refine ⟨false, F2, ι2, μ2, d, e, σ, R2.w, R2.m, Rq.step R1.w s2 r1, r2, ?_⟩
    rw [q]
    intro F' ι' H' s3 w3 m3 t' et
    cases et
    refine ⟨t, rfl, ?_⟩
    cases t with
    | true =>
      refine seqE (R2.step s3 w3 m3) (rdX.step s3 h2) fun f μ3 w F3 ι3 H3 _ s4 R3 r3 h3 => ?_
      exact ⟨false, F3, ι3, μ3, e, f, σ, R3.w, R3.m, Rq.step (R2.step s3 w3 m3).w s4 (Rq.step R2.w s3 r2), r3, KV_bl h3⟩
    | false => exact rdX_of (rdX.step s3 h2) w3 m3 (.bl false)
theorem st_chain (g : Gd G N sc k W X) (hm : lastMarks [op, op'] [y, z] = false) (ha : PE X x (tE G W pg cf false a)) (hb : PE X y (tE G W pg cf false b)) (hc : PE X z (tE G W pg cf false c)) : PT X (.Compare x [op, op'] [y, z] pos) (tT G W pg cf (.chain op op' a b c)) := by
  refine ⟨fun pins s σ H Q I h => ?_⟩
  obtain ⟨B, ss, μ, F, ι, R, h⟩ := h
  refine (pt_chain (opr_cmpd (W := W) g op) (opr_cmpd (W := W) g op') ha hb hc hm).run pins s σ H Q I ?_
  have e0 : (evE pg cf true (.chain op op' a b c) ss μ).tst = (evE pg cf false a ss μ).bind fun x μ1 => (evE pg cf false b ss μ1).bind fun y μ2 => Res.tst (match cmpD μ2 op x y with
    | some true => (evE pg cf false c ss μ2).bind fun z μ3 => Res.of ((cmpD μ3 op' y z).map D.bl) μ3
    | some false => .ok (.bl false) μ2
    | none => .bad) := by
    show Res.tst ((evE pg cf false a ss μ).bind fun x μ1 => (evE pg cf false b ss μ1).bind fun y μ2 => (match cmpD μ2 op x y with
    | some true => (evE pg cf false c ss μ2).bind fun z μ3 => Res.of ((cmpD μ3 op' y z).map D.bl) μ3
    | some false => .ok (.bl false) μ2
    | none => .bad)) = _
    simp only [rdX_tst_bind]
  rw [e0] at h
  refine seqE R h fun d μ1 v F1 ι1 H1 _ s1 R1 r1 h1 => seqE R1 h1 fun e μ2 u F2 ι2 H2 _ s2 R2 r2 h2 => ?_
  cases q : cmpD μ2 op d e with
  | none => rw [q] at h2; exact h2.elim
  | some t =>
    rw [q] at h2
    refine ⟨false, F2, ι2, μ2, d, e, σ, R2.w, R2.m, Rq.step R1.w s2 r1, r2, ?_⟩
    rw [q]
    intro F' ι' H' s3 w3 m3 t' et
    cases et
    refine ⟨t, rfl, ?_⟩
    cases t with
    | true =>
      simp only [rdX_tst_bind] at h2
      refine seqE (R2.step s3 w3 m3) (rdX.step s3 h2) fun f μ3 w F3 ι3 H3 _ s4 R3 r3 h3 => ?_
      exact ⟨false, F3, ι3, μ3, e, f, σ, R3.w, R3.m, Rq.step (R2.step s3 w3 m3).w s4 (Rq.step R2.w s3 r2), r3, KT_bl h3⟩
    | false => exact ⟨false, rfl, h2 F' ι' H' s3 w3 m3⟩

/-! ### is None -/
theorem non_iff {d : D} {v : V} (r : Rq G F ι H o d v) : isNon d = decide (v = .non) := by
  cases r with
  | of r => cases r <;> rfl
  | own _ _ _ _ => rfl
theorem s_isN (ha : PE X x (tE G W pg cf true a)) : PE X (.Compare x [.Is] [.Constant .none j pos'] pos) (tE G W pg cf o (.isN a)) := by
  refine ⟨fun pins s σ H Q I h => ?_⟩
  obtain ⟨B, ss, μ, F, ι, R, h⟩ := h
  refine (pe_cmpR op_isN ha pe_non (nomark _)).run pins s σ H Q I ?_
  have h := rdE_iff.mp h
  unfold evE at h
  refine seqE R h fun d μ1 v F1 ι1 H1 _ s1 R1 r1 h1 => ⟨rfl, ?_⟩
  rw [← non_iff r1]
  exact rdX_of h1 R1.w R1.m (.bl _)
theorem s_notN (ha : PE X x (tE G W pg cf true a)) : PE X (.Compare x [.IsNot] [.Constant .none j pos'] pos) (tE G W pg cf o (.notN a)) := by
  refine ⟨fun pins s σ H Q I h => ?_⟩
  obtain ⟨B, ss, μ, F, ι, R, h⟩ := h
  refine (pe_cmpR op_notN ha pe_non (nomark _)).run pins s σ H Q I ?_
  have h := rdE_iff.mp h
  unfold evE at h
  refine seqE R h fun d μ1 v F1 ι1 H1 _ s1 R1 r1 h1 => ⟨rfl, ?_⟩
  rw [← non_iff r1]
  exact rdX_of h1 R1.w R1.m (.bl _)
theorem st_isN (ha : PE X x (tE G W pg cf true a)) : PT X (.Compare x [.Is] [.Constant .none j pos'] pos) (tT G W pg cf (.isN a)) := by
  refine ⟨fun pins s σ H Q I h => ?_⟩
  obtain ⟨B, ss, μ, F, ι, R, h⟩ := h
  refine (pt_cmpR op_isN ha pe_non (nomark _)).run pins s σ H Q I ?_
  rw [show (evE pg cf true (.isN a) ss μ).tst = (evE pg cf true a ss μ).bind fun x μ1 => .ok (isNon x) μ1 from by
    show Res.tst ((evE pg cf true a ss μ).bind fun x μ1 => .ok (.bl (isNon x)) μ1) = _
    cases evE pg cf true a ss μ <;> rfl] at h
  refine seqE R h fun d μ1 v F1 ι1 H1 _ s1 R1 r1 h1 => ⟨rfl, _, rfl, ?_⟩
  rw [← non_iff r1]
  exact h1 F1 ι1 H1 .refl R1.w R1.m
theorem st_notN (ha : PE X x (tE G W pg cf true a)) : PT X (.Compare x [.IsNot] [.Constant .none j pos'] pos) (tT G W pg cf (.notN a)) := by
  refine ⟨fun pins s σ H Q I h => ?_⟩
  obtain ⟨B, ss, μ, F, ι, R, h⟩ := h
  refine (pt_cmpR op_notN ha pe_non (nomark _)).run pins s σ H Q I ?_
  rw [show (evE pg cf true (.notN a) ss μ).tst = (evE pg cf true a ss μ).bind fun x μ1 => .ok (!(isNon x)) μ1 from by
    show Res.tst ((evE pg cf true a ss μ).bind fun x μ1 => .ok (.bl !(isNon x)) μ1) = _
    cases evE pg cf true a ss μ with
    | ok d μ1 => cases d <;> rfl
    | exn x μ1 => rfl
    | bad => rfl] at h
  refine seqE R h fun d μ1 v F1 ι1 H1 _ s1 R1 r1 h1 => ⟨rfl, _, rfl, ?_⟩
  rw [← non_iff r1]
  exact h1 F1 ι1 H1 .refl R1.w R1.m
end
end
end T
end

section
namespace T
open PySem PySem.Spec L2

section
variable {G : Glo} {N : List Str} {sc : Scope} {k : Nat} {W : WX} {X : Cx} {pg : Pg} {cf : CF} {o : Bool} {pos : Pos} {T : Tbl}
variable {F : Addr → Prop} {ι : List Addr} {H : Hp} {B : Ent} {ss : Slots} {μ : Store} {σ : St}

/-! ### items, slices -/
theorem Rps.get : ∀ {ds : List D} {vs : List V} {i : Nat} {d : D}, Rps G F ι H ds vs → ds[i]? = some d → ∃ v, vs[i]? = some v ∧ Rp G F ι H d v
  | _, _, _, _, .nil, e => by simp at e
  | _, _, 0, _, .cons h r, e => by
    simp at e
    subst e
    exact ⟨_, by simp, h⟩
  | _, _, i + 1, d, .cons h r, e => by
    obtain ⟨v, e1, r1⟩ := Rps.get (i := i) r (by simpa using e)
    exact ⟨v, by simpa using e1, r1⟩
theorem Rps.atI {ds : List D} {vs : List V} {i : Int} {d : D} (r : Rps G F ι H ds vs) (e : atI ds i = some d) : ∃ v, L2.atI vs i = some v ∧ Rp G F ι H d v := by
  unfold L2.atI at e ⊢
  obtain ⟨j, e1, e2⟩ := Option.bind_eq_some_iff.mp e
  obtain ⟨v, e3, r3⟩ := r.get e2
  exact ⟨v, Option.bind_eq_some_iff.mpr ⟨j, by rw [← r.length]; exact e1, e3⟩, r3⟩
theorem plainIx {y : Expr} (h : noSlice y = true) : PlainIx y := by
  intro ov iv
  cases y <;> first | rfl | cases h
theorem s_ix (g : Gd G N sc k W X) {x y : Expr} {a i : IE} (hs : noSlice y = true) (ha : PE X x (tE G W pg cf true a)) (hi : PE X y (tE G W pg cf false i)) : PE X (.Subscript x y pos) (tE G W pg cf o (.ix a i)) := by
  refine ⟨fun pins s σ H Q I h => ?_⟩
  obtain ⟨B, ss, μ, F, ι, R, h⟩ := h
  refine (pe_ix ix_seq ha hi (plainIx hs)).run pins s σ H Q I ?_
  have h := rdE_iff.mp h
  unfold evE at h
  refine seqE R h fun d μ1 v F1 ι1 H1 _ s1 R1 r1 h1 => seqE R1 h1 fun e μ2 u F2 ι2 H2 _ s2 R2 r2 h2 => ?_
  have r1 := Rq.step R1.w s2 r1
  have r2 := r2.rp
  cases q : ixD μ2 d e with
  | none => rw [q] at h2; exact h2.elim
  | some z =>
    rw [q] at h2
    unfold ixD at q
    split at q
    · cases r1 with | of r1 => cases r1; cases r2
                               split at q
                               · obtain ⟨c, e1, e2⟩ := Option.map_eq_some_iff.mp q
                                 subst e2
                                 exact .inr (.inr ⟨_, _, c, rfl, rfl, by assumption, e1, rdX_of h2 R2.w R2.m (.str _)⟩)
                               · cases q
    · split at q
      · rename_i ds hv
        cases r2
        obtain ⟨a, vs, rfl, hs, rs⟩ := Rq.sview R2.w R2.m r1 hv
        obtain ⟨v, e1, r3⟩ := Rps.atI rs q
        rcases hs with hs | hs
        · exact .inl ⟨_, _, _, v, rfl, rfl, by rw [g.K]; exact hs, e1, rdX_of h2 R2.w R2.m r3⟩
        · exact .inr (.inl ⟨_, _, _, v, rfl, rfl, by rw [g.K]; exact hs, e1, rdX_of h2 R2.w R2.m r3⟩)
      · cases q
    · cases q

theorem Rps.take : ∀ {ds : List D} {vs : List V} (n : Nat), Rps G F ι H ds vs → Rps G F ι H (ds.take n) (vs.take n)
  | _, _, 0, _ => by simp; exact .nil
  | _, _, _ + 1, .nil => .nil
  | _, _, n + 1, .cons h r => .cons h (Rps.take n r)
theorem Rps.drop : ∀ {ds : List D} {vs : List V} (n : Nat), Rps G F ι H ds vs → Rps G F ι H (ds.drop n) (vs.drop n)
  | _, _, 0, r => r
  | _, _, _ + 1, .nil => .nil
  | _, _, n + 1, .cons h r => Rps.drop n r
theorem Rps.cut {ds : List D} {vs : List V} (lo hi : Option Int) (r : Rps G F ι H ds vs) : Rps G F ι H (cutD ds lo hi) (cutV vs lo hi) := by
  unfold cutD cutV
  rw [r.length]
  exact (r.drop _).take _

/-- an optional bound -/
def tO (G : Glo) (W : WX) (pg : Pg) (cf : CF) (e : IO) : St → Hp → (Option Int → Hp → Prop) → Prop := fun σ H Q => ∃ B ss μ F ι, Rel G B ss μ F ι σ H ∧ rdX G W σ F ι H (fun b _ _ _ H => Q b H) (evI pg cf e ss μ)
theorem so_no : PO X none (tO G W pg cf .no) := by
  refine ⟨fun pins s σ H Q I h => ?_⟩
  obtain ⟨B, ss, μ, F, ι, R, h⟩ := h
  exact po_none.run pins s σ H Q I (h F ι H .refl R.w R.m)
theorem so_so {x : Expr} {a : IE} (ha : PE X x (tE G W pg cf false a)) : PO X (some x) (tO G W pg cf (.so a)) := by
  refine ⟨fun pins s σ H Q I h => ?_⟩
  obtain ⟨B, ss, μ, F, ι, R, h⟩ := h
  refine (po_some ha).run pins s σ H Q I ?_
  unfold evI at h
  refine seqE R h fun d μ1 v F1 ι1 H1 _ s1 R1 r1 h1 => ?_
  cases d with
  | int i =>
    cases r1.rp
    exact ⟨i, rfl, h1 F1 ι1 H1 .refl R1.w R1.m⟩
  | _ => exact h1.elim
theorem seqO {α : Type} {a : IO} {f : Option Int → Store → Res α} {K : α → Store → (Addr → Prop) → List Addr → Hp → Prop} {P : Option Int → Hp → Prop} (R : Rel G B ss μ F ι σ H) (h : rdX G W σ F ι H K ((evI pg cf a ss μ).bind f))
    (k : ∀ b μ1 F1 ι1 H1, Stp F ι H F1 ι1 H1 → Rel G B ss μ1 F1 ι1 σ H1 → rdX G W σ F1 ι1 H1 K (f b μ1) → P b H1) : tO G W pg cf a σ H P := by
  refine ⟨B, ss, μ, F, ι, R, ?_⟩
  cases e : evI pg cf a ss μ with
  | ok b μ1 =>
    rw [e] at h
    exact fun F1 ι1 H1 s w m => k b μ1 F1 ι1 H1 s (R.step s w m) (rdX.step s h)
  | exn x μ1 =>
    rw [e] at h
    exact h
  | bad =>
    rw [e] at h
    exact h
end
end T
end

section
namespace T
open PySem PySem.Spec L2

section
variable {G : Glo} {N : List Str} {sc : Scope} {k : Nat} {W : WX} {X : Cx} {pg : Pg} {cf : CF} {o : Bool} {pos : Pos} {T : Tbl}
variable {F : Addr → Prop} {ι : List Addr} {H : Hp} {B : Ent} {ss : Slots} {μ : Store} {σ : St}

theorem Rq.tup_inv {ds : List D} {v : V} (r : Rq G F ι H o (.tup ds) v) : ∃ a vs, v = .ref a ∧ SqT G.K H a vs ∧ Rps G F ι H ds vs := by
  cases r with
  | of r =>
    cases r with
    | tup h r => exact ⟨_, _, rfl, h, r⟩
theorem Rq.str_inv {z : Str} {v : V} (r : Rq G F ι H o (.str z) v) : v = .str z := by
  cases r with
  | of r => cases r; rfl
theorem Rq.int_inv {z : Int} {v : V} (r : Rq G F ι H o (.int z) v) : v = .int z := by
  cases r with
  | of r => cases r; rfl
theorem Rq.bl_inv {z : Bool} {v : V} (r : Rq G F ι H o (.bl z) v) : v = .bl z := by
  cases r with
  | of r => cases r; rfl
theorem Rq.non_inv {v : V} (r : Rq G F ι H o .non v) : v = .non := by
  cases r with
  | of r => cases r; rfl

theorem s_slc (g : Gd G N sc k W X) {x : Expr} {l h : Option Expr} {a : IE} {lo hi : IO} {p2 : Pos} (ha : PE X x (tE G W pg cf true a)) (hl : PO X l (tO G W pg cf lo)) (hh : PO X h (tO G W pg cf hi)) :
    PE X (.Subscript x (.Slice l h none p2) pos) (tE G W pg cf o (.slc a lo hi)) := by
  refine ⟨fun pins s σ H Q I hq => ?_⟩
  obtain ⟨B, ss, μ, F, ι, R, hq⟩ := hq
  refine (pe_slice (sl_tupA.or sl_str) ha hl hh).run pins s σ H Q I ?_
  have hq := rdE_iff.mp hq
  unfold evE at hq
  refine seqE R hq fun d μ1 v F1 ι1 H1 _ s1 R1 r1 h1 => seqO R1 h1 fun lo μ2 F2 ι2 H2 s2 R2 h2 => seqO R2 h2 fun hi μ3 F3 ι3 H3 s3 R3 h3 => ?_
  have r1 := Rq.step R2.w s3 (Rq.step R1.w s2 r1)
  cases d with
  | tup ds =>
    obtain ⟨a0, vs, ev, ht, rs⟩ := r1.tup_inv
    subst ev
    refine .inl ⟨_, _, rfl, by rw [g.K]; exact ht, fun hw => ?_, fun hw p hp => ?_⟩
    · have e : cutD ds lo hi = ds := by
        unfold cutD
        rw [rs.length, hw.1, hw.2, List.drop_zero, Nat.sub_zero, ← rs.length, List.take_length]
      have h3 : rdX G W σ F3 ι3 H3 (KV G o Q) (Res.ok (D.tup (cutD ds lo hi)) μ3) := h3
      rw [e] at h3
      exact rdX_of h3 R3.w R3.m (.tup ht rs)
    · exact rdX_ext h3 R3.w R3.m (ext_upd hp) (.tup (.inl (.inl upd_same)) (Rps.step R3.w (Stp.ext R3.w (ext_upd hp)) (rs.cut lo hi)))
  | str z =>
    have h3 : rdX G W σ F3 ι3 H3 (KV G o Q) (if z.length ≤ sizeLine then Res.ok (D.str (cutS z lo hi)) μ3 else .bad) := h3
    have ev := r1.str_inv
    subst ev
    split at h3
    · exact .inr ⟨_, rfl, by assumption, rdX_of h3 R3.w R3.m (.str _)⟩
    · exact h3.elim
  | _ => exact h3.elim

/-! ### attributes -/
theorem base_plain {x : Expr} {f : Str} {env : Env} (h : noSuper x = true) : attributeBase x f env (eval x env) = eval x env := by
  unfold attributeBase
  split
  · rename_i e
    cases h
  · rfl
theorem lookup_zip (fk : Fk T G pg) {f : Nat} (hf : G.va f = true) : ∀ {as : List Nat} {ds : List D} {vs : List V} {d : D}, (∀ a ∈ as, G.va a = true) → Rps G F ι H ds vs → (as.zip ds).lookup f = some d →
    ∃ v, ((as.map G.at_).zip vs).lookup (T.att f) = some v ∧ Rp G F ι H d v
  | [], _, _, _, _, _, e => by simp at e
  | a :: as, _, _, d, hv, .nil, e => by simp at e
  | a :: as, _, _, d, hv, .cons h r, e => by
    by_cases ea : f = a
    · subst ea
      simp [List.lookup] at e
      subst e
      refine ⟨_, ?_, h⟩
      simp [List.lookup, fk.att]
    · have e1 : (f == a) = false := by simpa using ea
      simp only [List.zip_cons_cons, List.lookup, e1] at e
      obtain ⟨v, e2, r2⟩ := lookup_zip fk hf (fun b hb => hv b (List.mem_cons_of_mem _ hb)) r e
      refine ⟨v, ?_, r2⟩
      have e3 : (T.att f == G.at_ a) = false := by
        rw [fk.att]
        refine beq_eq_false_iff_ne.mpr fun z => ea (fk.inj f a hf (hv a List.mem_cons_self) z)
      simp only [List.map_cons, List.zip_cons_cons, List.lookup, e3]
      exact e2
theorem s_fld (g : Gd G N sc k W X) (fk : Fk T G pg) {x : Expr} {a : IE} {f : Nat} (hf : T.va f = true) (hs : noSuper x = true) (ha : PE X x (tE G W pg cf false a)) : PE X (.Attribute x (T.att f) pos) (tE G W pg cf o (.fld a f)) := by
  refine ⟨fun pins s σ H Q I h => ?_⟩
  obtain ⟨B, ss, μ, F, ι, R, h⟩ := h
  refine (pe_fld ha (base_plain hs)).run pins s σ H Q I ?_
  have h := rdE_iff.mp h
  unfold evE at h
  refine seqE R h fun d μ1 v F1 ι1 H1 _ s1 R1 r1 h1 => ?_
  have r1 := r1.rp
  have hf' : G.va f = true := by rw [fk.va]; exact hf
  cases q : fldD μ1 d f with
  | none => rw [q] at h1; exact h1.elim
  | some z =>
    rw [q] at h1
    have fin : ∀ {a dx : Addr} {c : Nat} {as : List Nat} {ds : List D} {vs : List V}, H1 a = some (.ins (G.ca c) dx ((as.map G.at_).zip vs)) → G.vc c = true → (∀ a ∈ as, G.va a = true) → Rps G F1 ι1 H1 ds vs → (as.zip ds).lookup f = some z →
        ∃ a1 C dx fs v, V.ref a = .ref a1 ∧ H1 a1 = some (.ins C dx fs) ∧ Cls X.K C ∧ NoAttr X.K C (T.att f) ∧ fs.lookup (T.att f) = some v ∧ Q v H1 := by
      intro a dx c as ds vs ha hc hv rs e
      obtain ⟨v, e2, r2⟩ := lookup_zip fk hf' hv rs e
      exact ⟨a, G.ca c, dx, _, v, rfl, ha, by rw [g.K]; exact fk.cls c hc, by rw [g.K]; exact fk.noa c f hc hf', e2, rdX_of h1 R1.w R1.m r2⟩
    cases d with
    | ins c as ds =>
      cases r1 with | ins _ ha _ hc hv rs => exact fin ha hc hv rs q
    | ref n =>
      unfold fldD at q
      simp only at q
      cases hm : μ1[n]? with
      | none => rw [hm] at q; cases q
      | some ob =>
        rw [hm] at q
        cases ob with
        | ins c as ds =>
          cases r1 with
          | ref hr =>
            obtain ⟨ho, e1, ro⟩ := R1.m.at_ n _ _ hm hr
            cases ro with
            | ins rs hl hc hv => exact fin e1 hc hv rs q
        | _ => cases q
    | _ => cases q

/-! ### built-in functions -/
theorem boolsD_V : ∀ {ds : List D} {vs : List V} {bs : List Bool}, Rps G F ι H ds vs → boolsD ds = some bs → vs = bs.map V.bl
  | _, _, _, .nil, e => by cases e; rfl
  | _, _, _, .cons h r, e => by
    cases h with
    | bl b =>
      obtain ⟨bs, e1, e2⟩ := Option.map_eq_some_iff.mp e
      subst e2
      rw [boolsD_V r e1, List.map_cons]
    | _ => cases e
theorem intsD_V : ∀ {ds : List D} {vs : List V} {bs : List Int}, Rps G F ι H ds vs → intsD ds = some bs → vs = bs.map V.int
  | _, _, _, .nil, e => by cases e; rfl
  | _, _, _, .cons h r, e => by
    cases h with
    | int b =>
      obtain ⟨bs, e1, e2⟩ := Option.map_eq_some_iff.mp e
      subst e2
      rw [intsD_V r e1, List.map_cons]
    | _ => cases e
theorem strsD_V : ∀ {ds : List D} {vs : List V} {bs : List Str}, Rps G F ι H ds vs → strsD ds = some bs → vs = bs.map V.str
  | _, _, _, .nil, e => by cases e; rfl
  | _, _, _, .cons h r, e => by
    cases h with
    | str b =>
      obtain ⟨bs, e1, e2⟩ := Option.map_eq_some_iff.mp e
      subst e2
      rw [strsD_V r e1, List.map_cons]
    | _ => cases e
theorem greatest_is : ∀ (is : List Int) (m : Int), greatest m is ∈ m :: is ∧ ∀ y, y ∈ m :: is → y ≤ greatest m is
  | [], m => ⟨by simp [greatest], fun y hy => by simp at hy; simp [greatest, hy]⟩
  | i :: is, m => by
    obtain ⟨h1, h2⟩ := greatest_is is (if m < i then i else m)
    unfold greatest
    generalize greatest (if m < i then i else m) is = gg at h1 h2 ⊢
    refine ⟨?_, fun y hy => ?_⟩
    · rcases List.mem_cons.mp h1 with e | e
      · rw [e]
        split
        · simp
        · simp
      · simp [e]
    · have h3 := h2 _ List.mem_cons_self
      rcases List.mem_cons.mp hy with e | e
      · subst e
        split at h3 <;> omega
      · rcases List.mem_cons.mp e with e | e
        · subst e
          split at h3 <;> omega
        · exact h2 y (List.mem_cons_of_mem _ e)
theorem leastI_is : ∀ (is : List Int) (m : Int), leastI m is ∈ m :: is ∧ ∀ y, y ∈ m :: is → leastI m is ≤ y
  | [], m => ⟨by simp [leastI], fun y hy => by simp at hy; simp [leastI, hy]⟩
  | i :: is, m => by
    obtain ⟨h1, h2⟩ := leastI_is is (if i < m then i else m)
    unfold leastI
    generalize leastI (if i < m then i else m) is = gg at h1 h2 ⊢
    refine ⟨?_, fun y hy => ?_⟩
    · rcases List.mem_cons.mp h1 with e | e
      · rw [e]
        split
        · simp
        · simp
      · simp [e]
    · have h3 := h2 _ List.mem_cons_self
      rcases List.mem_cons.mp hy with e | e
      · subst e
        split at h3 <;> omega
      · rcases List.mem_cons.mp e with e | e
        · subst e
          split at h3 <;> omega
        · exact h2 y (List.mem_cons_of_mem _ e)

/-- a call of a built-in, by values -/
def rBi (G : Glo) (W : WX) (b : Bi) : List V → Hp → VK → Prop := fun vs H Q => ∃ F ι μ ds σ, Wld F ι H ∧ RelM G F μ ι H ∧ Rqs G F ι H true ds vs ∧ rdX G W σ F ι H (KV G false Q) (Res.of (biD μ b ds) μ)
def Bi.val : Bi → Value
  | .len => .builtin "len" | .tuple => .type "tuple" | .all => .builtin "all" | .any => .builtin "any" | .sum => .builtin "sum" | .max => .builtin "max" | .min => .builtin "min" | .max2 => .builtin "max" | .min2 => .builtin "min" | .abs => .builtin "abs" | .int => .type "int" | .str => .type "str" | .repr => .builtin "repr" | .lenset => .builtin "len"

theorem Rqs.one {d : D} {vs : List V} (r : Rqs G F ι H o [d] vs) : ∃ v, vs = [v] ∧ Rq G F ι H o d v := by
  cases r with
  | cons h r => cases r; exact ⟨_, rfl, h⟩
theorem Rqs.two {d e : D} {vs : List V} (r : Rqs G F ι H o [d, e] vs) : ∃ v u, vs = [v, u] ∧ Rq G F ι H o d v ∧ Rq G F ι H o e u := by
  cases r with
  | cons h r => cases r with
    | cons h2 r => cases r; exact ⟨_, _, rfl, h, h2⟩
end
end T
end

section
namespace T
open PySem PySem.Spec PyProof.Rows

section
variable {prog : Program} {w : World} {A : Around} {R : Result → Shared → Prop} {I : Addr} {fp wr : List Addr} {G : Array GenState → Array GenState → Prop} {n : Nat} {P : Nat → Value → Prop} {St : Nat → Shared → Prop}
theorem metS_snoc (xs : List Str) (x : Str) : metS (xs ++ [x]) = if (metS xs).contains x then metS xs else metS xs ++ [x] := by
  unfold metS
  rw [List.foldl_append]
  rfl
theorem metS_len (xs : List Str) : (metS xs).length ≤ xs.length := by
  suffices h : ∀ (xs l : List Str), (xs.foldl (fun l x => if l.contains x then l else l ++ [x]) l).length ≤ l.length + xs.length by
    have := h xs []
    simpa [metS] using this
  intro xs
  induction xs with
  | nil => intro l; simp
  | cons x xs ih =>
    intro l
    simp only [List.foldl_cons, List.length_cons]
    have := ih (if l.contains x then l else l ++ [x])
    split at this <;> rename_i hc
    · rw [if_pos hc]; omega
    · rw [if_neg hc]
      simp only [List.length_append, List.length_singleton] at this
      omega

theorem loopStrG (W : WalksS prog w A.in1 I fp wr G n P St) (S : Addr) (hSf : S ∉ fp) (xs : List Str) (hsz : xs.length = n) (hn1 : n + 1 < scanBound)
    (hval : ∀ i v, P i v → ∃ t, v = .str (xs.getD i Str.empty) t) :
    ∀ (k i : Nat) (s : Shared), n - i = k → i ≤ n → St i s →
      s.heap.SetOf (PySem.strKind prog w) S (fun k' => (metS (xs.take i)).any (· == k')) (metS (xs.take i)).length →
      (∀ s', Moved (S :: wr) G s s' → s'.heap.SetOf (PySem.strKind prog w) S (fun k' => (metS xs).any (· == k')) (metS xs).length → R (.ok (.ret .none)) s') →
      codeAny (model prog w) A (.builtin "set.update.loop" ⟨[.ref S, .ref I], []⟩) R s := by
  have hSw : S ∉ wr := fun h => hSf (W.sub _ h)
  have hsub : ∀ b ∈ wr, b ∈ S :: wr := fun b hb => List.mem_cons_of_mem _ hb
  intro k
  induction k with
  | zero =>
    intro i s hk hi hst hS hR
    have hin : i = n := by omega
    subst hin
    refine codeAny_builtin PyProof.Rows.F.entry_set_update_loop ?_
    rw [Around.under_plainId PyProof.Rows.F.plain_set_update_loop _]
    show wpAny _ A.in1 (pyNext (.ref I) >>= _) _ _ s
    refine wpAny_bind (W.done s _ _ hst fun s' hm => ?_)
    show wpAny _ A.in1 (ret Value.none) _ _ s'
    rw [← hsz, List.take_length] at hS
    exact wpAny_pure (hR s' (hm.mono hsub) (by
      obtain ⟨o, es, ep, t, ho, rest⟩ := hS
      exact ⟨o, es, ep, t, hm.heap S _ hSw ho, rest⟩))
  | succ k ih =>
    intro i s hk hi hst hS hR
    have hlt : i < n := by omega
    refine codeAny_builtin PyProof.Rows.F.entry_set_update_loop ?_
    rw [Around.under_plainId PyProof.Rows.F.plain_set_update_loop _]
    show wpAny _ A.in1 (pyNext (.ref I) >>= _) _ _ s
    refine wpAny_bind (W.item i s _ _ hlt hst fun v s' hP hst' hm => ?_)
    obtain ⟨t, rfl⟩ := hval i v hP
    have hS' : s'.heap.SetOf (PySem.strKind prog w) S (fun k' => (metS (xs.take i)).any (· == k')) (metS (xs.take i)).length := by
      obtain ⟨o, es, ep, tb, ho, rest⟩ := hS
      exact ⟨o, es, ep, tb, hm.heap S _ hSw ho, rest⟩
    show wpAny _ A.in1 (holding [Value.str (xs.getD i Str.empty) t] (setAdd S (.str (xs.getD i Str.empty) t)) >>= _) _ _ s'
    refine wpAny_bind (wpAny_holding ?_)
    unfold setAdd
    refine wpAny_holding ?_
    refine wpAny_bind ((PySem.strKind prog w).pyHash (k := xs.getD i Str.empty) (PySem.strKind_is _ _ _ _) ?_)
    have hlen : (metS (xs.take i)).length ≤ i := Nat.le_trans (metS_len _) (by rw [List.length_take]; omega)
    refine wpAny_setAddHashed_of (knd := PySem.strKind prog w) (s := { s' with toks := s'.toks + 1 }) (PySem.strKind_is _ _ _ _) rfl hS' (by omega) fun h' hsb hS2 => ?_
    have e1 : xs.take (i + 1) = xs.take i ++ [xs.getD i Str.empty] := by
      rw [List.take_add_one, List.getD_eq_getElem?_getD, List.getElem?_eq_getElem (by omega)]
      rfl
    have hSi : h'.SetOf (PySem.strKind prog w) S (fun k' => (metS (xs.take (i + 1))).any (· == k')) (metS (xs.take (i + 1))).length := by
      rw [e1, metS_snoc]
      have hcon : (metS (xs.take i)).contains (xs.getD i Str.empty) = (metS (xs.take i)).any (· == xs.getD i Str.empty) := by
        rw [List.contains_eq_any_beq]
        congr 1
        funext y
        exact Bool.beq_comm ..
      refine SetOf_congr hS2 (fun k' => ?_) ?_
      · rw [hcon]
        by_cases hc : (metS (xs.take i)).any (· == xs.getD i Str.empty) = true
        · rw [if_pos hc]
          by_cases e : k' = xs.getD i Str.empty
          · subst e
            simp only [hc, Bool.true_or]
          · simp only [e, decide_false, Bool.or_false]
        · rw [if_neg hc, List.any_append]
          congr 1
          by_cases e : k' = xs.getD i Str.empty
          · subst e
            simp
          · simp only [e, decide_false, List.any_cons, List.any_nil, Bool.or_false]
            exact (beq_eq_false_iff_ne.mpr fun z => e z.symm).symm
      · rw [hcon]
        by_cases hc : (metS (xs.take i)).any (· == xs.getD i Str.empty) = true
        · simp only [hc, if_true]
        · simp only [hc, if_false, List.length_append, List.length_singleton, Bool.false_eq_true]
    refine wpAny_pure ⟨plainId_quiet PyProof.Rows.F.plain_set_update_loop _, ih (i + 1) _ (by omega) hlt (W.frame _ s' _ _ hst' (Nat.le_succ _) fun b hb o e => ?_) hSi fun s'' hm'' hS'' => ?_⟩
    · rw [hsb.2 b (fun h : b = S => hSf (by rw [← h]; exact hb))]; exact e
    · refine hR s'' (Moved.trans W.gtrans ((hm.mono hsub).then_heap (Nat.le_succ _) fun b o hb e => ?_) hm'') hS''
      rw [hsb.2 b (fun h : b = S => hb (by rw [h]; exact List.mem_cons_self))]; exact e
end
section
variable {prog : Program} {w : World} {A : Around} {E : Value → Shared → Prop} {s : Shared}
theorem call_set_tupG {l : Addr} {items : Array Value} {xs : List Str} {Q : Value → Shared → Prop}
    (hh : A.handled = none) (hl : s.heap.IsTuple l items) (hi : PyProof.Rows.StrsAre items.toList xs) (hn1 : xs.length + 1 < scanBound)
    (h : ∀ (h' : Heap) (tk : Nat), h'.SetOf (PySem.strKind prog w) s.heap.objs.size (fun k' => (metS xs).any (· == k')) (metS xs).length →
      (∀ b o, b < s.heap.objs.size → s.heap.get? b = some o → h'.get? b = some o) → Q (.ref s.heap.objs.size) { s with heap := h', toks := tk }) :
    wpAny (model prog w) A (call (.type "set") [.ref l]) Q E s := by
  obtain ⟨c, tl, hmro⟩ := PySem.F.called_set.mro
  have hmade := PySem.F.called_set.made
  have hsub := PySem.F.called_set.sub
  refine wpAny_call (codeAny_of_tree ?_)
  show wpAny _ _ (callAny (.type "set") _) _ _ _
  refine wpAny_pure ⟨Code.quiet_builtin _ (by decide +kernel), codeAny_builtin PySem.F.entry_type_call ?_⟩
  rw [Around.under_plain (weight_type_call_type "set" [.ref l] []) rfl]
  have h1 := PySem.F.called_set.notType
  have h2 := PySem.F.called_set.canCreate
  have hct := PySem.F.typeCall_set_1 (.ref l)
  repeat (any_goals (first | assumption | wp_step))

  refine codeAny_mono (code_set_new_1 (.ref l) (E := E) (Q₁ := fun obj s₁ => ∃ led : Bool, obj = .ref s.heap.objs.size ∧ s₁ = { s with heap := s.heap.push { cls := .type "set", dict := none, data := .set #[] 0 (.fresh 0 0 led) } }) fun led => ⟨led, rfl, rfl⟩) fun r s₁ hr => ?_
  cases r with
  | error e => exact hr
  | ok fl =>
    cases fl with
    | ret obj =>
      obtain ⟨led, rfl, rfl⟩ := hr
      have hS : (s.heap.push { cls := .type "set", dict := none, data := .set #[] 0 (.fresh 0 0 led) }).get? s.heap.objs.size = some { cls := .type "set", dict := none, data := .set #[] 0 (.fresh 0 0 led) } := Heap.get?_push_size _ rfl
      have hT : Shared.TypeIs { s with heap := s.heap.push { cls := .type "set", dict := none, data := .set #[] 0 (.fresh 0 0 led) } } (.ref s.heap.objs.size) "set" := ⟨_, hS, rfl⟩
      have hli := PySem.F.called_set.init.lookup
      have hbi := PySem.F.called_set.init.bind (.ref s.heap.objs.size)
      repeat (any_goals (first | assumption | wp_step))

      refine codeAny_mono (codeAny_call_builtin (R := wants (fun r s₂ => r = .none ∧ ∃ h' tk, s₂ = { s with heap := h', toks := tk } ∧
          h'.SetOf (PySem.strKind prog w) s.heap.objs.size (fun k' => (metS xs).any (· == k')) (metS xs).length ∧
          (∀ b o, b < s.heap.objs.size → s.heap.get? b = some o → h'.get? b = some o)) E) PySem.F.called_set.init.plain PySem.F.entry_set_init (check_set_init_1 hT ?_)) fun r₂ s₂ hr₂ => ?_
      · obtain ⟨ol, hol, hcl, nl, hdl⟩ := hl
        obtain ⟨ocls, odict, odata, oslots⟩ := ol
        simp only at hcl hdl
        subst hcl; subst hdl
        have hol' : (s.heap.push { cls := .type "set", dict := none, data := .set #[] 0 (.fresh 0 0 led) }).get? l = some { cls := .type "tuple", dict := odict, data := .seq items nl, slots := oslots } := Heap.get?_push_of_some _ hol
        have hsls := PySem.F.sub_tuple_set
        have hslf := PySem.F.sub_tuple_frozenset
        have hne : (Value.type "tuple" == Value.type "dict") = false := by decide
        have hl1 : (s.heap.push { cls := .type "set", dict := none, data := .set #[] 0 (.fresh 0 0 led) }).IsTuple l items := ⟨_, hol', rfl, nl, rfl⟩
        unfold Builtin.«set.__init__» noKeywords Builtin.Frozenset.updateFrom
        generalize hPI : pyIter = PI
        wp_walk
        subst hPI

        refine wpAny_pyIter_tuple hl1 ?_
        refine wpAny_bind (wpAny_runValue ?_)
        have hlS : l < s.heap.objs.size := Heap.lt_size hol
        have hh3 : A.in1.in1.in1.handled = none := by simp [hh]
        have hneI : l ≠ (s.heap.push { cls := .type "set", dict := none, data := .set #[] 0 (.fresh 0 0 led) }).objs.size := by
          rw [Heap.size_push]; exact Nat.ne_of_lt (Nat.lt_succ_of_lt hlS)
        have hSf : s.heap.objs.size ∉ [(s.heap.push { cls := .type "set", dict := none, data := .set #[] 0 (.fresh 0 0 led) }).objs.size, l] := by
          rw [Heap.size_push]; simp only [List.mem_cons, List.mem_singleton, List.not_mem_nil, or_false, not_or]
          exact ⟨Nat.ne_of_lt (Nat.lt_succ_self _), Nat.ne_of_gt hlS⟩
        have hsz : xs.length = items.size := by rw [← StrsAre.len_eq hi, Array.length_toList]
        have hval : ∀ (i : Nat) (v : Value), items[i]? = some v → ∃ t, v = .str (xs.getD i Str.empty) t := fun i v hv => SS.strs_at hi i v (by rw [Array.getElem?_toList]; exact hv)
        refine loopStrG ((Walks.tuple hh3 _ l hneI items).toS) s.heap.objs.size
          hSf xs hsz (by rw [← hsz]; exact hn1) hval (items.size - 0) 0 _ (by omega) (Nat.zero_le _)
          ⟨⟨_, Heap.get?_push_size _ rfl, rfl, rfl⟩, (hl1.push _)⟩ ?hS0 ?hR
        case hS0 =>
          have hget : ((s.heap.push { cls := .type "set", dict := none, data := .set #[] 0 (.fresh 0 0 led) }).push { cls := .type "tuple_iterator", data := .fields #[.ref l, .int 0 0] }).get? s.heap.objs.size
              = some { cls := .type "set", dict := none, data := .set #[] 0 (.fresh 0 0 led) } := Heap.get?_push_of_some _ hS
          exact PyProof.Rows.SetOf_congr ((PyProof.Rows.setObjOf_fresh (knd := PySem.strKind prog w) led).setOf hget (by unfold scanBound; omega)) (fun _ => rfl) rfl
        case hR =>
          intro s' hm hS'
          obtain ⟨h', g', d', tk', os'⟩ := s'
          have eg : g' = s.gens := hm.gens
          have ed : d' = s.drawn := hm.drawn
          have eo : os' = s.os := hm.os
          subst eg; subst ed; subst eo
          show wpAny _ _ _ _ _ _
          refine wpAny_pure ?_
          show wpAny _ _ (ret Value.none) _ _ _
          refine wpAny_pure ⟨rfl, h', tk', rfl, hS', fun b o hb e => ?_⟩
          have hb1 : b ≠ s.heap.objs.size := Nat.ne_of_lt hb
          have hb2 : b ≠ (s.heap.push { cls := .type "set", dict := none, data := .set #[] 0 (.fresh 0 0 led) }).objs.size := by
            rw [Heap.size_push]; exact Nat.ne_of_lt (Nat.lt_succ_of_lt hb)
          exact hm.heap b o (by simp only [List.mem_cons, List.mem_singleton, List.not_mem_nil, or_false, not_or]; exact ⟨hb1, hb2⟩) (Heap.get?_push_of_some _ (Heap.get?_push_of_some _ e))

      · cases r₂ with
        | error e => exact hr₂
        | ok fl₂ =>
          cases fl₂ with
          | ret r =>
            obtain ⟨rfl, h', tk, rfl, hS', hk'⟩ := hr₂
            repeat (any_goals (first | assumption | wp_step))
            exact h _ _ hS' hk'
          | _ => exact hr₂.elim
    | _ => exact hr.elim

end
end T
end

section
namespace T
open PySem PySem.Spec PyProof.Rows L2
section
variable {P : Program} {w : World} {A : Around} {E : Value → Shared → Prop} {s : Shared}
theorem call_set_lstI {l : Addr} {items : Array Value} (ns : List Int) {Q : Value → Shared → Prop} (hh : A.handled = none) (hl : s.heap.IsList l items) (hit : IntsAre items.toList ns) (hb : ns.length + 1 < scanBound)
    (h : ∀ (h' : Heap) (tk c : Nat), SetR w h' s.heap.objs.size (fun j => decide (j ∈ ns)) c → c ≤ ns.length → (∀ b o, s.heap.get? b = some o → h'.get? b = some o) → Q (.ref s.heap.objs.size) { s with heap := h', toks := tk }) :
    wpAny (model P w) A (call (.type "set") [.ref l]) Q E s := by
  have hisz : items.size = ns.length := by
    have q := IntsAre.length hit
    rw [Array.length_toList] at q
    exact q
  obtain ⟨c, tl, hmro⟩ := F.called_set.mro
  have hmade := F.called_set.made
  have hsub := F.called_set.sub
  refine wpAny_call (codeAny_of_tree ?_)
  show wpAny _ _ (callAny (.type "set") _) _ _ _
  refine wpAny_pure ⟨Code.quiet_builtin _ (by decide +kernel), codeAny_builtin F.entry_type_call ?_⟩
  rw [Around.under_plain (weight_type_call_type "set" [.ref l] []) rfl]
  have h1 := F.called_set.notType
  have h2 := F.called_set.canCreate
  have hct := F.typeCall_set_1 (.ref l)
  repeat (any_goals (first | assumption | wp_step))

  refine codeAny_mono (code_set_led1 (.ref l) (E := E) (Q₁ := fun obj s₁ => obj = .ref s.heap.objs.size ∧ s₁ = { s with heap := s.heap.push { cls := .type "set", dict := none, data := .set #[] 0 (.fresh 0 0 (!w.params.followText "set-order")) } }) ⟨rfl, rfl⟩) fun r s₁ hr => ?_
  cases r with
  | error e => exact hr
  | ok fl =>
    cases fl with
    | ret obj =>
      obtain ⟨rfl, rfl⟩ := hr
      have hS : (s.heap.push { cls := .type "set", dict := none, data := .set #[] 0 (.fresh 0 0 (!w.params.followText "set-order")) }).get? s.heap.objs.size = some { cls := .type "set", dict := none, data := .set #[] 0 (.fresh 0 0 (!w.params.followText "set-order")) } := Heap.get?_push_size _ rfl
      have hT : Shared.TypeIs { s with heap := s.heap.push { cls := .type "set", dict := none, data := .set #[] 0 (.fresh 0 0 (!w.params.followText "set-order")) } } (.ref s.heap.objs.size) "set" := ⟨_, hS, rfl⟩
      have hli := F.called_set.init.lookup
      have hbi := F.called_set.init.bind (.ref s.heap.objs.size)
      repeat (any_goals (first | assumption | wp_step))

      refine codeAny_mono (codeAny_call_builtin (R := wants (fun r s₂ => r = .none ∧ ∃ h' tk c, s₂ = { s with heap := h', toks := tk } ∧ SetR w h' s.heap.objs.size (fun j => decide (j ∈ ns)) c ∧ c ≤ ns.length ∧
          (∀ b o, s.heap.get? b = some o → h'.get? b = some o)) E) F.called_set.init.plain F.entry_set_init (check_set_init_1 hT ?_)) fun r₂ s₂ hr₂ => ?_
      · obtain ⟨ol, hol, hcl, nl, hdl⟩ := hl
        obtain ⟨ocls, odict, odata, oslots⟩ := ol
        simp only at hcl hdl
        subst hcl; subst hdl
        have hol' : (s.heap.push { cls := .type "set", dict := none, data := .set #[] 0 (.fresh 0 0 (!w.params.followText "set-order")) }).get? l = some { cls := .type "list", dict := odict, data := .seq items nl, slots := oslots } := Heap.get?_push_of_some _ hol
        have hsls := F.sub_list_set
        have hslf := F.sub_list_frozenset
        have hne : (Value.type "list" == Value.type "dict") = false := by decide
        have hl1 : (s.heap.push { cls := .type "set", dict := none, data := .set #[] 0 (.fresh 0 0 (!w.params.followText "set-order")) }).IsList l items := ⟨_, hol', rfl, nl, rfl⟩
        unfold Builtin.«set.__init__» noKeywords Builtin.Frozenset.updateFrom
        generalize hPI : pyIter = PI
        wp_walk
        subst hPI

        refine wpAny_pyIter_list hl1 ?_
        refine wpAny_bind (wpAny_runValue ?_)
        have hlS : l < s.heap.objs.size := Heap.lt_size hol
        have hh3 : A.in1.in1.in1.handled = none := by simp [hh]
        have hz1 : (s.heap.push { cls := .type "set", dict := none, data := .set #[] 0 (.fresh 0 0 (!w.params.followText "set-order")) }).objs.size = s.heap.objs.size + 1 := Heap.size_push ..
        have hneI : l ≠ (s.heap.push { cls := .type "set", dict := none, data := .set #[] 0 (.fresh 0 0 (!w.params.followText "set-order")) }).objs.size := by
          rw [Heap.size_push]; exact Nat.ne_of_lt (Nat.lt_succ_of_lt hlS)
        have hSf : s.heap.objs.size ∉ [(s.heap.push { cls := .type "set", dict := none, data := .set #[] 0 (.fresh 0 0 (!w.params.followText "set-order")) }).objs.size, l] := by
          rw [Heap.size_push]; simp only [List.mem_cons, List.mem_singleton, List.not_mem_nil, or_false, not_or]
          exact ⟨Nat.ne_of_lt (Nat.lt_succ_self _), Nat.ne_of_gt hlS⟩
        have hval : ∀ (i : Nat) (v : Value), items[i]? = some v → ∃ k t, ns[i]? = some k ∧ v = .int k t := fun i v hv => by
          have hi : i < ns.length := by rw [← hisz]; exact (Array.getElem?_eq_some_iff.mp hv).1
          obtain ⟨t, e⟩ := PyProof.Rows.IntsAre.int_at hit i v (by rw [Array.getElem?_toList]; exact hv)
          refine ⟨ns[i], t, List.getElem?_eq_getElem hi, ?_⟩
          rw [e, List.getD_eq_getElem?_getD, List.getElem?_eq_getElem hi] <;> rfl
        refine set_update_ints ((Walks.list hh3 _ l hneI items).toS) s.heap.objs.size
          hSf ns hisz hb hval (items.size - 0) 0 _ (by omega) (Nat.zero_le _)
          ⟨⟨_, Heap.get?_push_size _ rfl, rfl, rfl⟩, (hl1.push _)⟩ ?hS0 ?hR
        case hS0 =>
          have hget : ((s.heap.push { cls := .type "set", dict := none, data := .set #[] 0 (.fresh 0 0 (!w.params.followText "set-order")) }).push { cls := .type "list_iterator", data := .fields #[.ref l, .int 0 0] }).get? s.heap.objs.size
              = some { cls := .type "set", dict := none, data := .set #[] 0 (.fresh 0 0 (!w.params.followText "set-order")) } := Heap.get?_push_of_some _ hS
          exact ⟨0, Nat.le_refl 0, setR_new_at hget⟩
        case hR =>
          intro s' c' hm hc' hS'
          obtain ⟨h', g2, d', tk', os'⟩ := s'
          have eg : g2 = s.gens := hm.gens
          have ed : d' = s.drawn := hm.drawn
          have eo : os' = s.os := hm.os
          subst eg; subst ed; subst eo
          show wpAny _ _ _ _ _ _
          refine wpAny_pure ?_
          show wpAny _ _ (ret Value.none) _ _ _
          rw [hisz] at hc'
          refine wpAny_pure ⟨rfl, h', tk', c', rfl, hS', hc', fun b o e => ?_⟩
          have hb0 : b < s.heap.objs.size := Heap.lt_size e
          have hb1 : b ≠ s.heap.objs.size := Nat.ne_of_lt hb0
          have hb2 : b ≠ (s.heap.push { cls := .type "set", dict := none, data := .set #[] 0 (.fresh 0 0 (!w.params.followText "set-order")) }).objs.size := by
            rw [Heap.size_push]; exact Nat.ne_of_lt (Nat.lt_succ_of_lt hb0)
          exact hm.heap b o (by simp only [List.mem_cons, List.mem_singleton, List.not_mem_nil, or_false, not_or]; exact ⟨hb1, hb2⟩) (Heap.get?_push_of_some _ (Heap.get?_push_of_some _ e))

      · cases r₂ with
        | error e => exact hr₂
        | ok fl₂ =>
          cases fl₂ with
          | ret r =>
            obtain ⟨rfl, h', tk, c', rfl, hS', hc', hk'⟩ := hr₂
            repeat (any_goals (first | assumption | wp_step))
            exact h _ _ _ hS' hc' hk'
          | _ => exact hr₂.elim
    | _ => exact hr.elim
theorem nodup_ed : ∀ (n : Nat) (l : List Int), l.length ≤ n → l.eraseDups.Nodup
  | _, [], _ => by simp
  | 0, a :: l, h => by simp at h
  | n + 1, a :: l, h => by
    rw [List.eraseDups_cons]
    have hl : (l.filter fun b => !b == a).length ≤ n := Nat.le_trans (List.length_filter_le _ _) (by simpa using h)
    refine List.nodup_cons.mpr ⟨fun hm => ?_, nodup_ed n _ hl⟩
    have := List.mem_eraseDups.mp hm
    simp at this
theorem setR_perm {h : Heap} {a : Addr} {ns : List Int} {c : Nat} (R : SetR w h a (fun j => decide (j ∈ ns)) c) : c = ns.eraseDups.length := by
  obtain ⟨ob, es, ep, t, ho, hex, hd, g, nd, hm, hb, hf, hn, _⟩ := R
  have hp : (es.toList.map keyOf).Perm ns.eraseDups := (List.perm_ext_iff_of_nodup nd (nodup_ed _ _ (Nat.le_refl _))).mpr fun k => by
    rw [← hm k, decide_eq_true_eq, List.mem_eraseDups]
  have := hp.length_eq
  rw [List.length_map, Array.length_toList] at this
  omega
/-- set(xs), xs a list of ints -/
def rSetI (K : PySem.W.Frag) (w : World) : List V → Hp → VK → Prop := fun xs H Q => ∃ (l : Addr) (ns : List Int), xs = [.ref l] ∧ SqL K H l (ns.map V.int) ∧ ns.length < 64 ∧ ∀ p, H p = none → Q (.ref p) (upd H p (SetO w p (fun j => decide (j ∈ ns)) ns.eraseDups.length))
theorem cr_setI {X : Cx} (hc : X.calm = true) : CallR X (.type "set") (rSetI X.K X.w) := by
  intro pins s σ H xs us Q I r h
  obtain ⟨l, ns, rfl, hq, hl, q⟩ := h
  rw [Vals.ref1 r]
  obtain ⟨its, r2, pl, hz⟩ := I.list hq
  have hlen : ns.length = its.length := by rw [← r2.length, List.length_map]
  refine call_set_lstI ns (I.ok.hd hc) pl.isList (by simpa using r2.ints) (by unfold scanBound; omega) fun h' tk c R hcl k => ?_
  have hn : H s.heap.objs.size = none := I.hok.fresh (Nat.le_refl _)
  have ec := setR_perm R
  subst ec
  exact ⟨.ref _, _, I.laid (t' := tk) (fun b u e => k b u e) (Nat.le_refl _) (setO_new R), rfl, q _ hn⟩
end
end T
end

section
namespace T
open PySem PySem.Spec L2

section
variable {G : Glo} {N : List Str} {sc : Scope} {k : Nat} {W : WX} {X : Cx} {pg : Pg} {cf : CF} {o : Bool} {pos : Pos} {T : Tbl}
variable {F : Addr → Prop} {ι : List Addr} {H : Hp} {B : Ent} {ss : Slots} {μ : Store} {σ : St}

/-- what a list's items are -/
theorem bi_inv {b : Bi} {ds : List D} {vs : List V} {Q : VK} (h : rdX G W σ F ι H (KV G false Q) (Res.of (biD μ b ds) μ)) (w : Wld F ι H) (m : RelM G F μ ι H) : ∃ z, biD μ b ds = some z ∧ ∀ v H', (∀ b ob, H b = some ob → H' b = some ob) → Rp G F ι H' z v → Q v H' := by
  cases e : biD μ b ds with
  | none => rw [e] at h; exact h.elim
  | some z =>
    rw [e] at h
    exact ⟨z, rfl, fun v H' x r => rdX_ext h w m x r⟩

theorem cr_len (g : Gd G N sc k W X) : CallR X (.builtin "len") (rBi G W .len) := by
  intro pins s σ' H vs us Q I r h
  obtain ⟨F, ι, μ, ds, σ, w, m, rs, h⟩ := h
  obtain ⟨z, ez, q⟩ := bi_inv (vs := vs) h w m
  have q0 : ∀ v, Rp G F ι H z v → Q v H := fun v r => q v H (fun _ _ h => h) r
  have seq : ∀ d v, ds = [d] → vs = [v] → Rq G F ι H true d v → ∀ es, sview μ d = some es → z = .int es.length → wpAny (model X.prog X.w) X.A (call (.builtin "len") us) (EP X pins σ' Q) X.xe s := by
    intro d v ed ev rd es hv hz
    subst ed ev hz
    obtain ⟨a, us', rfl, hs, r2⟩ := Rq.sview w m rd hv
    refine call_len pins s σ' H _ us Q I r ⟨_, es.length, rfl, ?_, q0 _ (.int _)⟩
    rcases hs with hs | hs
    · exact .inl ⟨_, by rw [g.K]; exact hs, r2.length⟩
    · exact .inr ⟨_, by rw [g.K]; exact hs, r2.length⟩
  have ez : biLen μ ds = some z := ez
  unfold biLen at ez
  split at ez
  · obtain ⟨v, rfl, rd⟩ := rs.one
    have := rd.str_inv
    subst this
    split at ez
    · cases ez
      exact call_len pins s σ' H _ us Q I r ⟨_, _, rfl, ⟨by assumption, rfl⟩, q0 _ (.int _)⟩
    · cases ez
  · obtain ⟨v, rfl, rd⟩ := rs.one
    obtain ⟨es, e1, e2⟩ := Option.map_eq_some_iff.mp ez
    exact seq _ v rfl rfl rd es e1 e2.symm
  · cases ez

theorem cr_tuple (g : Gd G N sc k W X) : CallR X (.type "tuple") (rBi G W .tuple) := by
  intro pins s σ' H vs us Q I r h
  obtain ⟨F, ι, μ, ds, σ, w, m, rs, h⟩ := h
  obtain ⟨z, ez, q⟩ := bi_inv (vs := vs) h w m
  have q0 : ∀ v, Rp G F ι H z v → Q v H := fun v r => q v H (fun _ _ h => h) r
  have ez : biTuple μ ds = some z := ez
  unfold biTuple at ez
  split at ez
  · obtain ⟨v, rfl, rd⟩ := rs.one
    obtain ⟨es, e1, e2⟩ := Option.map_eq_some_iff.mp ez
    subst e2
    obtain ⟨a, us', rfl, hs, r2⟩ := Rq.sview w m rd e1
    refine call_tuple_of pins s σ' H _ us Q I r ⟨_, us', rfl, ?_⟩
    rcases hs with hs | hs
    · exact .inl ⟨by rw [g.K]; exact hs, fun l hl => q _ _ (ext_upd hl) (.tup (.inl (.inl upd_same)) (Rps.step w (Stp.ext w (ext_upd hl)) r2))⟩
    · exact .inr ⟨by rw [g.K]; exact hs, q0 _ (.tup hs r2)⟩
  · cases ez

theorem cr_all_ (g : Gd G N sc k W X) : CallR X (.builtin "all") (rBi G W .all) := by
  intro pins s σ' H vs us Q I r h
  obtain ⟨F, ι, μ, ds, σ, w, m, rs, h⟩ := h
  obtain ⟨z, ez, q⟩ := bi_inv (vs := vs) h w m
  have q0 : ∀ v, Rp G F ι H z v → Q v H := fun v r => q v H (fun _ _ h => h) r
  have ez : biAll μ ds = some z := ez
  unfold biAll at ez
  split at ez
  · obtain ⟨v, rfl, rd⟩ := rs.one
    obtain ⟨es, e1, e2⟩ := Option.map_eq_some_iff.mp ez
    subst e2
    obtain ⟨ls, e3, e4⟩ := Option.bind_eq_some_iff.mp e1
    obtain ⟨a, us', rfl, hs, r2⟩ := Rq.lview w m rd e3
    have e5 := boolsD_V r2 e4
    subst e5
    exact L2.cr_all g.calm pins s σ' H _ us Q I r ⟨_, _, rfl, .inl (.inl hs), q0 _ (.bl _)⟩
  · cases ez

theorem cr_any_ (g : Gd G N sc k W X) : CallR X (.builtin "any") (rBi G W .any) := by
  intro pins s σ' H vs us Q I r h
  obtain ⟨F, ι, μ, ds, σ, w, m, rs, h⟩ := h
  obtain ⟨z, ez, q⟩ := bi_inv (vs := vs) h w m
  have q0 : ∀ v, Rp G F ι H z v → Q v H := fun v r => q v H (fun _ _ h => h) r
  have ez : biAny μ ds = some z := ez
  unfold biAny at ez
  split at ez
  · obtain ⟨v, rfl, rd⟩ := rs.one
    obtain ⟨es, e1, e2⟩ := Option.map_eq_some_iff.mp ez
    subst e2
    obtain ⟨ls, e3, e4⟩ := Option.bind_eq_some_iff.mp e1
    obtain ⟨a, us', rfl, hs, r2⟩ := Rq.lview w m rd e3
    have e5 := boolsD_V r2 e4
    subst e5
    exact L2.cr_any g.calm pins s σ' H _ us Q I r ⟨_, _, rfl, .inl (.inl hs), q0 _ (.bl _)⟩
  · cases ez

theorem cr_sum_ (g : Gd G N sc k W X) : CallR X (.builtin "sum") (rBi G W .sum) := by
  intro pins s σ' H vs us Q I r h
  obtain ⟨F, ι, μ, ds, σ, w, m, rs, h⟩ := h
  obtain ⟨z, ez, q⟩ := bi_inv (vs := vs) h w m
  have q0 : ∀ v, Rp G F ι H z v → Q v H := fun v r => q v H (fun _ _ h => h) r
  have ez : biSum μ ds = some z := ez
  unfold biSum at ez
  split at ez
  · obtain ⟨v, rfl, rd⟩ := rs.one
    obtain ⟨es, e1, e2⟩ := Option.map_eq_some_iff.mp ez
    subst e2
    obtain ⟨ls, e3, e4⟩ := Option.bind_eq_some_iff.mp e1
    obtain ⟨a, us', rfl, hs, r2⟩ := Rq.lview w m rd e3
    have e5 := intsD_V r2 e4
    subst e5
    exact L2.cr_sum g.calm pins s σ' H _ us Q I r ⟨_, _, rfl, .inl (.inl hs), q0 _ (.int _)⟩
  · cases ez

theorem cr_max_ (g : Gd G N sc k W X) : CallR X (.builtin "max") (rBi G W .max) := by
  intro pins s σ' H vs us Q I r h
  obtain ⟨F, ι, μ, ds, σ, w, m, rs, h⟩ := h
  obtain ⟨z, ez, q⟩ := bi_inv (vs := vs) h w m
  have q0 : ∀ v, Rp G F ι H z v → Q v H := fun v r => q v H (fun _ _ h => h) r
  have ez : biMax μ ds = some z := ez
  unfold biMax at ez
  split at ez
  · obtain ⟨v, rfl, rd⟩ := rs.one
    obtain ⟨is, e1, e2⟩ := Option.bind_eq_some_iff.mp ez
    obtain ⟨ls, e3, e4⟩ := Option.bind_eq_some_iff.mp e1
    obtain ⟨a, us', rfl, hs, r2⟩ := Rq.lview w m rd e3
    have e5 := intsD_V r2 e4
    subst e5
    cases is with
    | nil => cases e2
    | cons i is =>
      cases e2
      refine L2.cr_max g.calm pins s σ' H _ us Q I r ⟨_, _, rfl, .inl (.inl hs), by simp, fun mm h1 h2 => ?_⟩
      obtain ⟨g1, g2⟩ := greatest_is is i
      have e6 : greatest i is = mm := Int.le_antisymm (h2 _ g1) (g2 _ h1)
      subst e6
      exact q0 _ (.int _)
  · cases ez

theorem cr_max2_ (g : Gd G N sc k W X) : CallR X (.builtin "max") (rBi G W .max2) := by
  intro pins s σ' H vs us Q I r h
  obtain ⟨F, ι, μ, ds, σ, w, m, rs, h⟩ := h
  obtain ⟨z, ez, q⟩ := bi_inv (vs := vs) h w m
  have q0 : ∀ v, Rp G F ι H z v → Q v H := fun v r => q v H (fun _ _ h => h) r
  have ez : biMax2 ds = some z := ez
  unfold biMax2 at ez
  split at ez
  · obtain ⟨v, u, rfl, rd, rd2⟩ := rs.two
    have := rd.int_inv
    subst this
    have := rd2.int_inv
    subst this
    cases ez
    exact L2.call_max2 g.calm pins s σ' H _ us Q I r ⟨_, _, rfl, q0 _ (.int _)⟩
  · cases ez

theorem cr_min_ (g : Gd G N sc k W X) : CallR X (.builtin "min") (rBi G W .min) := by
  intro pins s σ' H vs us Q I r h
  obtain ⟨F, ι, μ, ds, σ, w, m, rs, h⟩ := h
  obtain ⟨z, ez, q⟩ := bi_inv (vs := vs) h w m
  have q0 : ∀ v, Rp G F ι H z v → Q v H := fun v r => q v H (fun _ _ h => h) r
  have ez : biMin μ ds = some z := ez
  unfold biMin at ez
  split at ez
  · obtain ⟨v, rfl, rd⟩ := rs.one
    obtain ⟨is, e1, e2⟩ := Option.bind_eq_some_iff.mp ez
    obtain ⟨ls, e3, e4⟩ := Option.bind_eq_some_iff.mp e1
    obtain ⟨a, us', rfl, hs, r2⟩ := Rq.lview w m rd e3
    have e5 := intsD_V r2 e4
    subst e5
    cases is with
    | nil => cases e2
    | cons i is =>
      cases e2
      refine L2.cr_min g.calm pins s σ' H _ us Q I r ⟨_, _, rfl, .inl (.inl hs), by simp, fun mm h1 h2 => ?_⟩
      obtain ⟨g1, g2⟩ := leastI_is is i
      have e6 : leastI i is = mm := Int.le_antisymm (g2 _ h1) (h2 _ g1)
      subst e6
      exact q0 _ (.int _)
  · cases ez

theorem cr_min2_ (g : Gd G N sc k W X) : CallR X (.builtin "min") (rBi G W .min2) := by
  intro pins s σ' H vs us Q I r h
  obtain ⟨F, ι, μ, ds, σ, w, m, rs, h⟩ := h
  obtain ⟨z, ez, q⟩ := bi_inv (vs := vs) h w m
  have q0 : ∀ v, Rp G F ι H z v → Q v H := fun v r => q v H (fun _ _ h => h) r
  have ez : biMin2 ds = some z := ez
  unfold biMin2 at ez
  split at ez
  · obtain ⟨v, u, rfl, rd, rd2⟩ := rs.two
    have := rd.int_inv
    subst this
    have := rd2.int_inv
    subst this
    cases ez
    exact L2.call_min2 g.calm pins s σ' H _ us Q I r ⟨_, _, rfl, q0 _ (.int _)⟩
  · cases ez

theorem cr_abs_ : CallR X (.builtin "abs") (rBi G W .abs) := by
  intro pins s σ' H vs us Q I r h
  obtain ⟨F, ι, μ, ds, σ, w, m, rs, h⟩ := h
  obtain ⟨z, ez, q⟩ := bi_inv (vs := vs) h w m
  have q0 : ∀ v, Rp G F ι H z v → Q v H := fun v r => q v H (fun _ _ h => h) r
  have ez : biAbs ds = some z := ez
  unfold biAbs at ez
  split at ez
  · obtain ⟨v, rfl, rd⟩ := rs.one
    have := rd.int_inv
    subst this
    cases ez
    exact L2.call_abs pins s σ' H _ us Q I r ⟨_, rfl, q0 _ (.int _)⟩
  · cases ez

theorem cr_int_ : CallR X (.type "int") (rBi G W .int) := by
  intro pins s σ' H vs us Q I r h
  obtain ⟨F, ι, μ, ds, σ, w, m, rs, h⟩ := h
  obtain ⟨z, ez, q⟩ := bi_inv (vs := vs) h w m
  have q0 : ∀ v, Rp G F ι H z v → Q v H := fun v r => q v H (fun _ _ h => h) r
  have ez : biInt ds = some z := ez
  unfold biInt at ez
  split at ez
  · obtain ⟨v, rfl, rd⟩ := rs.one
    have := rd.int_inv
    subst this
    cases ez
    exact L2.call_int1 pins s σ' H _ us Q I r (.inl ⟨_, rfl, q0 _ (.int _)⟩)
  · obtain ⟨v, rfl, rd⟩ := rs.one
    have := rd.bl_inv
    subst this
    cases ez
    exact L2.call_int1 pins s σ' H _ us Q I r (.inr ⟨_, rfl, q0 _ (.int _)⟩)
  · cases ez

theorem cr_str_ : CallR X (.type "str") (rBi G W .str) := by
  intro pins s σ' H vs us Q I r h
  obtain ⟨F, ι, μ, ds, σ, w, m, rs, h⟩ := h
  obtain ⟨z, ez, q⟩ := bi_inv (vs := vs) h w m
  have q0 : ∀ v, Rp G F ι H z v → Q v H := fun v r => q v H (fun _ _ h => h) r
  have ez : biStr ds = some z := ez
  unfold biStr at ez
  split at ez
  · obtain ⟨v, rfl, rd⟩ := rs.one
    have := rd.int_inv
    subst this
    split at ez
    · cases ez
      exact L2.call_str_int pins s σ' H _ us Q I r ⟨_, rfl, by assumption, q0 _ (.str _)⟩
    · cases ez
  · obtain ⟨v, rfl, rd⟩ := rs.one
    have := rd.str_inv
    subst this
    cases ez
    exact SkE.call_str_str pins s σ' H _ us Q I r ⟨_, rfl, q0 _ (.str _)⟩
  · cases ez

/-! ### data in the heap, dicts among them -/
section
variable {pins : List (Addr × Obj)} {s : Shared} {σ' : St}
theorem kv_split : ∀ {ks : List Key} {vs : List V} {ws : List (Key × Value)}, ks.length = vs.length → L2.KV (ks.zip vs) ws → ws.map (·.1) = ks ∧ Vals vs (ws.map (·.2))
  | [], [], ws, _, h => by cases h; exact ⟨rfl, .nil⟩
  | k :: ks, v :: vs, ws, l, h => by
    cases h with
    | cons h t =>
      obtain ⟨e, r⟩ := kv_split (by simpa using l) t
      exact ⟨by rw [List.map_cons, e, ← h.1], .cons h.2 r⟩
  | [], _ :: _, _, l, _ => by cases l
  | _ :: _, [], _, l, _ => by cases l
theorem pairs_split {P : Program} {w : World} : ∀ {es : List DictEntry} {kvs : List (Key × Value)}, Pairs (mixKind P w) es kvs → es.map (·.val) = kvs.map (·.2) ∧ ∀ h : Heap, ReadsAll h (es.map (·.key)) ((kvs.map (·.1)).map kP) []
  | _, _, .nil => ⟨rfl, fun _ => .nil⟩
  | _, _, .cons h1 h2 t => by
    obtain ⟨e, r⟩ := pairs_split t
    refine ⟨by rw [List.map_cons, List.map_cons, e, h2], fun h => ?_⟩
    rcases keyIs_shape h1 with ⟨i, tk, e1, e2⟩ | ⟨x, tk, e1, e2⟩
    · rw [List.map_cons, List.map_cons, List.map_cons, e1, e2]
      exact .cons (.int i tk) (r h)
    · rw [List.map_cons, List.map_cons, List.map_cons, e1, e2]
      exact .cons (.str x tk) (r h)
theorem toPys_length : ∀ {ds : List D} {xs : List PyData}, toPys ds = some xs → xs.length = ds.length
  | [], xs, h => by
    unfold toPys at h
    cases h
    rfl
  | d :: ds, xs, h => by
    unfold toPys at h
    split at h
    · cases h
      rw [List.length_cons, List.length_cons, toPys_length (by assumption)]
    · cases h
theorem list_sm {a : Addr} {vs : List V} (I : Inv X pins σ' H s) (hK : X.K = G.K) (sm : ∃ o, G.K.lookup sysModules = some o ∧ o.cls = .type "dict") (h : H a = some (.lst vs)) : sysModules ≠ a := fun hm => by
  obtain ⟨its, rv, ⟨o, n, ho, hc, _, hd⟩, _⟩ := I.list (.inl (.inl h))
  obtain ⟨o', k1, k2⟩ := sm
  have := I.kIn _ _ (by rw [hK]; exact k1)
  rw [hm] at this
  rw [ho] at this
  cases this
  rw [hc] at k2
  exact absurd k2 (by decide)
mutual
theorem Rp.rds (I : Inv X pins σ' H s) (hK : X.K = G.K) (sm : ∃ o, G.K.lookup sysModules = some o ∧ o.cls = .type "dict") : ∀ {d : D} {v : V} {x : PyData} {u : Value}, Rp G F ι H d v → toPy d = some x → RelV v u → ∃ as, Reads s.heap u x as ∧ sysModules ∉ as
  | _, _, _, _, .non, e, r => by cases e; cases r; exact ⟨_, Reads.none, by simp⟩
  | _, _, _, _, .bl b, e, r => by cases e; cases r; exact ⟨_, Reads.bool b, by simp⟩
  | _, _, _, _, .int i, e, r => by cases e; obtain ⟨t, rfl⟩ := r; exact ⟨_, Reads.int i t, by simp⟩
  | _, _, _, _, .str z, e, r => by cases e; obtain ⟨t, rfl⟩ := r; exact ⟨_, Reads.str z t, by simp⟩
  | _, _, _, _, .tup h q, e, r => by
    unfold toPy at e
    obtain ⟨xs, e1, e2⟩ := Option.map_eq_some_iff.mp e
    subst e2
    cases r
    obtain ⟨its, rv, ⟨o, ho, hc, n, hd⟩, _⟩ := I.tuple (by rw [hK]; exact h)
    obtain ⟨as, hr, hn⟩ := Rps.rds I hK sm q e1 rv
    exact ⟨_, Reads.tuple ho hc hd hr, hn⟩
  | _, _, _, _, .lst f h q, e, r => by
    unfold toPy at e
    obtain ⟨xs, e1, e2⟩ := Option.map_eq_some_iff.mp e
    subst e2
    cases r
    obtain ⟨its, rv, ⟨o, n, ho, hc, _, hd⟩, _⟩ := I.list (.inl (.inl h))
    obtain ⟨as, hr, hn⟩ := Rps.rds I hK sm q e1 rv
    refine ⟨_, Reads.list ho hc hd hr, fun hm => ?_⟩
    rcases List.mem_cons.mp hm with hm | hm
    · obtain ⟨o', k1, k2⟩ := sm
      have := I.kIn _ _ (by rw [hK]; exact k1)
      rw [hm] at this
      rw [ho] at this
      cases this
      rw [hc] at k2
      exact absurd k2 (by decide)
    · exact hn hm
  | _, _, _, _, .ro _ _, e, _ => by cases e
  | _, _, _, _, .dct f h l q, e, r => by
    unfold toPy at e
    obtain ⟨xs, e1, e2⟩ := Option.map_eq_some_iff.mp e
    subst e2
    cases r
    obtain ⟨_, hne, ws, kv, dd⟩ := dk_of I.hok h
    obtain ⟨o, es, ep, ho, hex, hd, _, hp, _⟩ := dd
    obtain ⟨ek, rv⟩ := kv_split l kv
    obtain ⟨ev, rk⟩ := pairs_split hp
    obtain ⟨as, hr, hn⟩ := Rps.rds I hK sm q e1 rv
    have hl : xs.length = (ws.map (·.1)).length := by
      have := Rps.length q
      have := toPys_length e1
      rw [ek]
      omega
    have c1 : (((ws.map (·.1)).map kP).zip xs).map (·.1) = (ws.map (·.1)).map kP := List.map_fst_zip (by rw [List.length_map]; omega)
    have c2 : (((ws.map (·.1)).map kP).zip xs).map (·.2) = xs := List.map_snd_zip (by rw [List.length_map]; omega)
    rw [← ek]
    refine ⟨_, Reads.dict ho hex.1 hd (by rw [c1]; exact rk _) (by rw [c2, ev]; exact hr), fun hm => ?_⟩
    rcases List.mem_append.mp hm with hm | hm
    · simp at hm
      rw [hm] at hne
      simp at hne
    · exact hn hm
  | _, _, _, _, .ins _ _ _ _ _ _, e, _ => by cases e
  | _, _, _, _, .ref _, e, _ => by cases e
theorem Rps.rds (I : Inv X pins σ' H s) (hK : X.K = G.K) (sm : ∃ o, G.K.lookup sysModules = some o ∧ o.cls = .type "dict") : ∀ {ds : List D} {vs : List V} {xs : List PyData} {us : List Value}, Rps G F ι H ds vs → toPys ds = some xs → Vals vs us → ∃ as, ReadsAll s.heap us xs as ∧ sysModules ∉ as
  | _, _, _, _, .nil, e, r => by cases e; cases r; exact ⟨_, .nil, by simp⟩
  | _, _, _, _, .cons h t, e, r => by
    unfold toPys at e
    split at e
    · cases e
      cases r with
      | cons r1 r2 =>
        obtain ⟨as, q1, n1⟩ := Rp.rds I hK sm h (by assumption) r1
        obtain ⟨bs, q2, n2⟩ := Rps.rds I hK sm t (by assumption) r2
        refine ⟨_, .cons q1 q2, fun hm => ?_⟩
        rcases List.mem_append.mp hm with hm | hm
        · exact n1 hm
        · exact n2 hm
    · cases e
end
end
theorem lst_rds {pins : List (Addr × Obj)} {s : Shared} {σ' : St} (I : Inv X pins σ' H s) (hK : X.K = G.K) (sm : ∃ o, G.K.lookup sysModules = some o ∧ o.cls = .type "dict") {ds : List D} {a : Addr} {vs : List V} {x : PyData} {u : Value} (h : H a = some (.lst vs)) (q : Rps G F ι H ds vs) (e : toPy (.lst ds) = some x) (r : RelV (.ref a) u) : ∃ as, Reads s.heap u x as ∧ sysModules ∉ as := by
  unfold toPy at e
  obtain ⟨xs, e1, e2⟩ := Option.map_eq_some_iff.mp e
  subst e2
  cases r
  obtain ⟨its, rv, ⟨o, n, ho, hc, _, hd⟩, _⟩ := I.list (.inl (.inl h))
  obtain ⟨as, hr, hn⟩ := Rps.rds I hK sm q e1 rv
  refine ⟨_, Reads.list ho hc hd hr, fun hm => ?_⟩
  rcases List.mem_cons.mp hm with hm | hm
  · exact list_sm I hK sm h hm
  · exact hn hm
theorem Rq.rds {pins : List (Addr × Obj)} {s : Shared} {σ' : St} (I : Inv X pins σ' H s) (hK : X.K = G.K) (sm : ∃ o, G.K.lookup sysModules = some o ∧ o.cls = .type "dict") (m : RelM G F μ ι H) {d : D} {v : V} {x : PyData} {u : Value} (r : Rq G F ι H o d v) (e : toPy (dview μ d) = some x) (ru : RelV v u) : ∃ as, Reads s.heap u x as ∧ sysModules ∉ as := by
  cases r with
  | of r =>
    cases d with
    | ref n =>
      cases r with
      | @ref _ a h =>
        unfold dview at e
        simp only at e
        cases q : μ[n]? with
        | none => rw [q] at e; cases e
        | some ob =>
          rw [q] at e
          obtain ⟨ho, e1, r1⟩ := m.at_ n ob a q h
          cases ob with
          | lst es =>
            cases r1 with
            | lst r => exact lst_rds I hK sm e1 r e ru
          | dct _ _ => cases e
          | ins _ _ _ => cases e
    | _ => exact Rp.rds I hK sm r e ru
  | own _ _ h r => exact lst_rds I hK sm h r e ru
theorem cr_repr_ (sm : ∃ o, G.K.lookup sysModules = some o ∧ o.cls = .type "dict") (g : Gd G N sc k W X) : CallR X (.builtin "repr") (rBi G W .repr) := by
  intro pins s σ' H vs us Q I r h
  obtain ⟨F, ι, μ, ds, σ, w, m, rs, h⟩ := h
  obtain ⟨z, ez, q⟩ := bi_inv (vs := vs) h w m
  have q0 : ∀ v, Rp G F ι H z v → Q v H := fun v r => q v H (fun _ _ h => h) r
  have ez : biRepr μ ds = some z := ez
  unfold biRepr at ez
  split at ez
  · obtain ⟨v, rfl, rd⟩ := rs.one
    have := rd.non_inv
    subst this
    cases ez
    obtain ⟨u, rfl, ru⟩ := vals1 r
    cases ru
    exact PySem.P.repr_of_none ⟨.str _, H, I.tok _, ⟨_, rfl⟩, q0 _ (.str _)⟩
  · obtain ⟨v, rfl, rd⟩ := rs.one
    have := rd.bl_inv
    subst this
    cases ez
    obtain ⟨u, rfl, ru⟩ := vals1 r
    cases ru
    exact PySem.P.repr_of_bool ⟨.str _, H, I.tok _, ⟨_, rfl⟩, q0 _ (.str _)⟩
  · obtain ⟨v, rfl, rd⟩ := rs.one
    have := rd.int_inv
    subst this
    split at ez
    · cases ez
      exact SkE.call_repr_int pins s σ' H _ us Q I r ⟨_, rfl, by assumption, q0 _ (.str _)⟩
    · cases ez
  · obtain ⟨v, rfl, rd⟩ := rs.one
    have := rd.str_inv
    subst this
    split at ez
    · cases ez
      obtain ⟨u, rfl, t, rfl⟩ := vals1 r
      exact PySem.P.repr_of_str ⟨.str _, H, I.tok _, ⟨_, rfl⟩, q0 _ (.str _)⟩ (by assumption)
    · cases ez
  · obtain ⟨v, rfl, rd⟩ := rs.one
    split at ez
    · rename_i x hx
      split at ez
      · rename_i hs
        cases ez
        unfold showable at hs
        simp only [Bool.and_eq_true, decide_eq_true_eq, Bool.not_eq_true'] at hs
        obtain ⟨⟨h1, h3⟩, h4⟩ := hs
        obtain ⟨u, rfl, ru⟩ := vals1 r
        obtain ⟨as, rr, hsm⟩ := Rq.rds I g.K sm m rd hx ru
        have un := g.un
        have big : ∀ a : Addr, v = .ref a → wpAny (model X.prog X.w) X.A (call (.builtin "repr") [u]) (EP X pins σ' Q) X.xe s := by
          intro a ev
          subst ev
          cases ru
          exact repr_of_reads' rr h1 (fun _ => hsm) g.gu (by omega) (fun _ _ e => e) (fun h' u tk hk => ⟨.str _, H, I.kept hk, ⟨_, rfl⟩, q0 _ (.str _)⟩) h4
        cases rr with
        | none => exact PySem.P.repr_of_none ⟨.str _, H, I.tok _, ⟨_, rfl⟩, q0 _ (.str _)⟩
        | bool b => exact PySem.P.repr_of_bool ⟨.str _, H, I.tok _, ⟨_, rfl⟩, q0 _ (.str _)⟩
        | int i t => exact PySem.P.repr_of_int (by unfold PyData.showable at h1; exact of_decide_eq_true h1) ⟨.str _, H, I.tok _, ⟨_, rfl⟩, q0 _ (.str _)⟩
        | str y t => exact PySem.P.repr_of_str ⟨.str _, H, I.tok _, ⟨_, rfl⟩, q0 _ (.str _)⟩ h4
        | list _ _ _ _ => exact big _ (by cases v <;> first | (cases ru; rfl) | (obtain ⟨_, h⟩ := ru; cases h) | cases ru)
        | tuple _ _ _ _ => exact big _ (by cases v <;> first | (cases ru; rfl) | (obtain ⟨_, h⟩ := ru; cases h) | cases ru)
        | dict _ _ _ _ _ => exact big _ (by cases v <;> first | (cases ru; rfl) | (obtain ⟨_, h⟩ := ru; cases h) | cases ru)
      · cases ez
    · cases ez
  · cases ez
end
end T
end

section
namespace T
open PySem PySem.Spec L2

section
variable {G : Glo} {N : List Str} {sc : Scope} {k : Nat} {W : WX} {X : Cx} {pg : Pg} {cf : CF} {o : Bool} {pos : Pos} {T : Tbl}
variable {F : Addr → Prop} {ι : List Addr} {H : Hp} {B : Ent} {ss : Slots} {μ : Store} {σ : St}

theorem plainA_ne {e : Expr} (h : plainA e = true) : ∀ x p, e ≠ .Starred x p := by
  intro x p q
  subst q
  cases h
theorem starEach_cons {e : Expr} {es : List Expr} {env : Env} (h : plainA e = true) : starEach (e :: es) env = (false, eval e env) :: starEach es env := star_plain (plainA_ne h)
theorem starEach_any {env : Env} {pos : Pos} : ∀ {es : List Expr}, (∀ e ∈ es, plainA e = true) → (backTo pos (starEach es env)).any (·.1) = false
  | [], _ => rfl
  | e :: es, h => by
    rw [starEach_cons (h e List.mem_cons_self)]
    have ih := starEach_any (env := env) (pos := pos) (es := es) fun x hx => h x (List.mem_cons_of_mem _ hx)
    unfold backTo at ih ⊢
    simp only [List.map_cons, List.any_cons, Bool.false_or]
    exact ih
theorem starEach_any0 {env : Env} : ∀ {es : List Expr}, (∀ e ∈ es, plainA e = true) → (starEach es env).any (·.1) = false
  | [], _ => rfl
  | e :: es, h => by
    rw [starEach_cons (h e List.mem_cons_self)]
    simp only [List.any_cons, Bool.false_or]
    exact starEach_any0 fun x hx => h x (List.mem_cons_of_mem _ hx)

/-! ### calls of built-ins -/
theorem rBi_of {b : Bi} {es : IEs} {Q : VK} (R : Rel G B ss μ F ι σ H) (h : rdX G W σ F ι H (KV G o Q) ((evEs pg cf true es ss μ).bind fun ds μ1 => Res.of (biD μ1 b ds) μ1)) :
    tEs G W pg cf true es σ H fun vs H1 => rBi G W b vs H1 Q := by
  refine seqEs R h fun ds μ1 vs F1 ι1 H1 _ s1 R1 r1 h1 => ⟨F1, ι1, μ1, ds, σ, R1.w, R1.m, r1, ?_⟩
  cases e : biD μ1 b ds with
  | none => rw [e] at h1; exact h1.elim
  | some z =>
    rw [e] at h1
    exact fun F2 ι2 H2 s2 w2 m2 v r => h1 F2 ι2 H2 s2 w2 m2 v (.of r.rp)
theorem s_biB {b : Bi} {id : String} {x : Str} {p : Pos} {e : Expr} {es : List Expr} {as : IEs} (hc : CallR X (.builtin id) (rBi G W b)) (hg : Gl X x) (hm : X.mg x = none) (hv : bootBuiltins x = some (.builtin id)) (hn : x ≠ "__name__") (hdb : (x == ("__debug__" : Str)) = false)
    (hp : ∀ y ∈ e :: es, plainA y = true) (ha : L2.PA X (e :: es) (tEs G W pg cf true as)) : PE X (.Call (.Name x p) (e :: es) [] pos) (tE G W pg cf o (.bi b as)) := by
  refine ⟨fun pins s σ H Q I h => ?_⟩
  obtain ⟨B, ss, μ, F, ι, R, h⟩ := h
  refine (pe_callB hc hg hm hv ha hn hdb (starEach_cons (hp e List.mem_cons_self)) (starEach_any fun y hy => hp y (List.mem_cons_of_mem _ hy))).run pins s σ H Q I ?_
  have h := rdE_iff.mp h
  unfold evE at h
  exact rBi_of R h
theorem s_biT {b : Bi} {id : String} {x : Str} {p : Pos} {e : Expr} {es : List Expr} {as : IEs} (hc : CallR X (.type id) (rBi G W b)) (hg : Gl X x) (hm : X.mg x = none) (hv : bootBuiltins x = some (.type id)) (hn : x ≠ "__name__") (hdb : (x == ("__debug__" : Str)) = false)
    (hp : ∀ y ∈ e :: es, plainA y = true) (ha : L2.PA X (e :: es) (tEs G W pg cf true as)) : PE X (.Call (.Name x p) (e :: es) [] pos) (tE G W pg cf o (.bi b as)) := by
  refine ⟨fun pins s σ H Q I h => ?_⟩
  obtain ⟨B, ss, μ, F, ι, R, h⟩ := h
  refine (pe_callTy hc hg hm hv ha hn hdb (starEach_cons (hp e List.mem_cons_self)) (starEach_any fun y hy => hp y (List.mem_cons_of_mem _ hy))).run pins s σ H Q I ?_
  have h := rdE_iff.mp h
  unfold evE at h
  exact rBi_of R h

theorem Fk.bl1 (fk : Fk T G pg) (g : Gd G N sc k W X) {x : Str} (h : x ∈ (["len", "tuple", "all", "any", "sum", "max", "min", "abs", "int", "str", "repr", "range", "enumerate", "zip", "set", "sorted", "list", "isinstance", "bool", "dict"] : List Str)) : X.mg x = none := by
  rw [g.mg]; exact fk.bl x h

theorem s_bi (g : Gd G N sc k W X) (fk : Fk T G pg) {b : Bi} (hb : b ≠ .lenset) {x : Str} {p : Pos} {e : Expr} {es : List Expr} {as : IEs} (hx : Str.ofString b.name = x) (hg : Gl X x) (hp : ∀ y ∈ e :: es, plainA y = true) (ha : L2.PA X (e :: es) (tEs G W pg cf true as)) :
    PE X (.Call (.Name x p) (e :: es) [] pos) (tE G W pg cf o (.bi b as)) := by
  subst hx
  cases b with
  | len => exact s_biB (cr_len g) hg (fk.bl1 g (by decide)) (by decide +kernel) (by decide) (by decide) hp ha
  | tuple => exact s_biT (cr_tuple g) hg (fk.bl1 g (by decide)) (by decide +kernel) (by decide) (by decide) hp ha
  | all => exact s_biB (cr_all_ g) hg (fk.bl1 g (by decide)) (by decide +kernel) (by decide) (by decide) hp ha
  | any => exact s_biB (cr_any_ g) hg (fk.bl1 g (by decide)) (by decide +kernel) (by decide) (by decide) hp ha
  | sum => exact s_biB (cr_sum_ g) hg (fk.bl1 g (by decide)) (by decide +kernel) (by decide) (by decide) hp ha
  | max => exact s_biB (cr_max_ g) hg (fk.bl1 g (by decide)) (by decide +kernel) (by decide) (by decide) hp ha
  | min => exact s_biB (cr_min_ g) hg (fk.bl1 g (by decide)) (by decide +kernel) (by decide) (by decide) hp ha
  | max2 => exact s_biB (cr_max2_ g) hg (fk.bl1 g (by decide)) (by decide +kernel) (by decide) (by decide) hp ha
  | min2 => exact s_biB (cr_min2_ g) hg (fk.bl1 g (by decide)) (by decide +kernel) (by decide) (by decide) hp ha
  | abs => exact s_biB cr_abs_ hg (fk.bl1 g (by decide)) (by decide +kernel) (by decide) (by decide) hp ha
  | int => exact s_biT cr_int_ hg (fk.bl1 g (by decide)) (by decide +kernel) (by decide) (by decide) hp ha
  | str => exact s_biT cr_str_ hg (fk.bl1 g (by decide)) (by decide +kernel) (by decide) (by decide) hp ha
  | repr => exact s_biB (cr_repr_ fk.sm g) hg (fk.bl1 g (by decide)) (by decide +kernel) (by decide) (by decide) hp ha
  | lenset => exact absurd rfl hb

/-! ### len(set(xs)) -/
theorem strsAre_vals : ∀ {ns : List Str} {us : List Value}, Vals (ns.map V.str) us → PyProof.Rows.StrsAre us ns
  | [], _, .nil => .nil
  | n :: ns, _, .cons r t => by
    obtain ⟨k, rfl⟩ := r
    exact .cons n k (strsAre_vals t)
theorem s_lenset (g : Gd G N sc k W X) (fk : Fk T G pg) {x : Expr} {a : IE} {p p2 q : Pos} (hg : Gl X "len") (hg2 : Gl X "set") (hp : plainA x = true) (ha : PE X x (tE G W pg cf true a)) :
    PE X (.Call (.Name "len" p) [.Call (.Name "set" p2) [x] [] q] [] pos) (tE G W pg cf o (.bi .lenset (.cons a .nil))) := by
  refine ⟨fun pins s σ H Q I h => ?_⟩
  obtain ⟨B, ss, μ, F, ι, R, h⟩ := h
  refine wpAny_Call_Name_kw (ld_blt I hg (fk.bl1 g (by decide)) PySem.boot_len ?_)
  refine PyProof.Rows.callWith_builtin1 (PyProof.Rows.args_cons ?_ rfl) rfl rfl
  refine wpAny_Call_Name_kw (ld_blt I hg2 (fk.bl1 g (by decide)) PyProof.Rows.boot_set ?_)
  have hs := starEach_cons (es := []) (env := X.env) hp
  have h := rdE_iff.mp h
  have e0 : evE pg cf o (.bi .lenset (.cons a .nil)) ss μ = (evE pg cf true a ss μ).bind fun d μ1 => Res.of (biLenset μ1 [d]) μ1 := by
    show ((evE pg cf true a ss μ).bind fun x μ1 => (Res.ok [] μ1).bind fun xs μ2 => .ok (x :: xs) μ2).bind _ = _
    cases evE pg cf true a ss μ <;> rfl
  rw [e0] at h
  have run := ha.run pins s σ H (fun v H1 => ∃ d μ1 F1 ι1, Wld F1 ι1 H1 ∧ RelM G F1 μ1 ι1 H1 ∧ Rq G F1 ι1 H1 true d v ∧ rdX G W σ F1 ι1 H1 (KV G o Q) (Res.of (biLenset μ1 [d]) μ1)) I (seqE R h fun d μ1 v F1 ι1 H1 _ s1 R1 r1 h1 => ⟨d, μ1, F1, ι1, R1.w, R1.m, r1, h1⟩)
  refine PyProof.Rows.callWith_type1 (PyProof.Rows.args_cons (thn run fun v s1 ⟨x, H1, I1, r1, q1⟩ => PyProof.Rows.args_nil ?_) hs) hs rfl
  obtain ⟨d, μ1, F1, ι1, w1, m1, rq, h1⟩ := q1
  cases eb : biLenset μ1 [d] with
  | none => rw [eb] at h1; exact h1.elim
  | some z =>
    rw [eb] at h1
    unfold biLenset at eb
    split at eb
    · rename_i ds eds
      cases eds
      obtain ⟨xs, e1, e2⟩ := Option.bind_eq_some_iff.mp eb
      split at e2
      · rename_i hlen
        cases e2
        obtain ⟨l, vs, ev, ht, rs⟩ := rq.tup_inv
        subst ev
        cases r1
        have ev := strsD_V rs e1
        subst ev
        obtain ⟨its, r, pl, hz⟩ := I1.tuple (by rw [g.K]; exact ht)
        have hl : xs.length = its.length := by rw [← r.length, List.length_map]
        refine call_set_tupG (I1.ok.hd g.calm) pl (by simpa using strsAre_vals r) (by unfold scanBound; omega) fun h' tk hS hk => ?_
        refine PyProof.Rows.args_nil ?_
        have hm : (metS xs).length < 1000 := Nat.lt_of_le_of_lt (metS_len xs) hlen
        obtain ⟨ob, es, ep, t, ho, hex, hd, _, _, _, hf, hn⟩ := hS
        have I2 : Inv X pins σ H1 { s1 with heap := h', toks := tk } := I1.kept fun b o e => hk b o (Heap.lt_size e) e
        exact call_len_set ho hex hd hf (by rw [hn] <;> omega) ⟨.int (metS xs).length, H1, I2.tok _, ⟨_, by rw [hn]⟩, rdX_of h1 w1 m1 (.int _)⟩
      · cases e2
    · rename_i d' eds
      cases eds
      obtain ⟨is, e1, e2⟩ := Option.bind_eq_some_iff.mp eb
      obtain ⟨ds, e3, e4⟩ := Option.bind_eq_some_iff.mp e1
      split at e2
      · rename_i hlen
        cases e2
        obtain ⟨l, vs, ev, ht, rs⟩ := Rq.lview w1 m1 rq e3
        subst ev
        cases r1
        have ev := intsD_V rs e4
        subst ev
        obtain ⟨its, r, pl, hz⟩ := I1.list (.inl (.inl ht))
        refine call_set_lstI is (I1.ok.hd g.calm) pl.isList (by simpa using r.ints) (by unfold scanBound; omega) fun h' tk c hS hcl hk => ?_
        refine PyProof.Rows.args_nil ?_
        have ec := setR_perm hS
        obtain ⟨ob, es, ep, t, ho, hex, hd, _, _, _, _, hf, hn, _⟩ := hS
        have I2 : Inv X pins σ H1 { s1 with heap := h', toks := tk } := I1.kept fun b o e => hk b o e
        exact call_len_set ho hex hd hf (by rw [hn] <;> omega) ⟨.int is.eraseDups.length, H1, I2.tok _, ⟨_, by rw [hn, ec]⟩, rdX_of h1 w1 m1 (.int _)⟩
      · cases e2
    · cases eb
end
end T
end

section
namespace T
open PySem PySem.Spec L2

section
variable {G : Glo} {N : List Str} {sc : Scope} {k : Nat} {W : WX} {X : Cx} {pg : Pg} {cf : CF} {o : Bool} {pos : Pos} {T : Tbl}
variable {F : Addr → Prop} {ι : List Addr} {H : Hp} {B : Ent} {ss : Slots} {μ : Store} {σ : St}

/-! ### isinstance -/
/-- the type that the run sees -/
def tyKind (μ : Store) : D → Option (String ⊕ Nat)
  | .non => some (.inl "NoneType")
  | .bl _ => some (.inl "bool")
  | .int _ => some (.inl "int")
  | .str _ => some (.inl "str")
  | .tup _ => some (.inl "tuple")
  | .lst _ => some (.inl "list")
  | .ro _ => some (.inl "list")
  | .dct _ _ => some (.inl "dict")
  | .ins c _ _ => some (.inr c)
  | .ref n => match μ[n]? with
    | some (.lst _) => some (.inl "list")
    | some (.dct _ _) => some (.inl "dict")
    | some (.ins c _ _) => some (.inr c)
    | none => none
theorem rd_list {K : PySem.W.Frag} {H : Hp} {a : Addr} {vs : List V} (h : Rd H a (.lst vs)) : TyX K H (.ref a) (.type "list") := by
  rcases h with h | ⟨ob, h⟩
  · exact .base (.lst h)
  · exact .base (.frz h)
theorem ty_D (g : Gd G N sc k W X) (fk : Fk T G pg) (w : Wld F ι H) (m : RelM G F μ ι H) {d : D} {v : V} (r : Rq G F ι H o d v) :
    (∀ n, tyKind μ d = some (.inl n) → TyX G.K H v (.type n)) ∧ (∀ c, tyKind μ d = some (.inr c) → G.vc c = true ∧ TyX G.K H v (.ref (G.ca c))) := by
  have ins : ∀ {a dx : Addr} {c : Nat} {fs : List (Str × V)}, G.vc c = true → H a = some (.ins (G.ca c) dx fs) → G.vc c = true ∧ TyX G.K H (.ref a) (.ref (G.ca c)) :=
    fun hv e => ⟨hv, .base (.ins e (fk.cls _ hv) (fk.insA _ hv) fk.insG fk.insT (fk.insM _ hv))⟩
  cases r with
  | own _ ni h r => exact ⟨fun n e => by cases e; exact .base (.lst h), fun c e => by cases e⟩
  | of r =>
    cases r with
    | non => exact ⟨fun n e => by cases e; exact .base .non, fun c e => by cases e⟩
    | bl b => exact ⟨fun n e => by cases e; exact .base (.bl b), fun c e => by cases e⟩
    | int b => exact ⟨fun n e => by cases e; exact .base (.int b), fun c e => by cases e⟩
    | str b => exact ⟨fun n e => by cases e; exact .base (.str b), fun c e => by cases e⟩
    | tup h r =>
      refine ⟨fun n e => ?_, fun c e => by cases e⟩
      cases e
      rcases h with h | ⟨ob, its, n, h1, h2, _⟩
      · rcases h with h | ⟨ob, h⟩
        · exact .base (.tup h)
        · exact .fTuple h
      · exact .kTuple h1 h2
    | lst f h r => exact ⟨fun n e => by cases e; exact .base (.lst h), fun c e => by cases e⟩
    | ro h r =>
      refine ⟨fun n e => ?_, fun c e => by cases e⟩
      cases e
      rcases h with ⟨ob, h⟩ | ⟨ob, its, n, h1, h2, _⟩
      · exact .base (.frz h)
      · exact .kList h1 h2
    | dct f h l r => exact ⟨fun n e => by cases e; exact .base (.dK h), fun c e => by cases e⟩
    | ins f h l c v r => exact ⟨(fun n e => nomatch e), fun c' e => by cases e; exact ins c h⟩
    | @ref n a h =>
      unfold tyKind
      simp only
      cases q : μ[n]? with
      | none => exact ⟨(fun n e => nomatch e), fun c e => by cases e⟩
      | some ob =>
        obtain ⟨ho, e1, r1⟩ := m.at_ n ob a q h
        cases r1 with
        | lst r => exact ⟨(fun n e => by cases e; exact .base (.lst e1)), fun c e => by cases e⟩
        | dct r l => exact ⟨(fun n e => by cases e; exact .base (.dK e1)), fun c e => by cases e⟩
        | ins r l c v => exact ⟨(fun n e => nomatch e), fun c' e => by cases e; exact ins c e1⟩

def tyN (t : Ty) (n : String) : Bool := match t with | .cls _ => false | t => n == t.name || (n == "bool" && t.name == "int")
def tyC (t : Ty) (c : Nat) : Bool := match t with | .cls c' => c == c' | _ => false
def tyV (G : Glo) (t : Ty) (c : V) : Prop := match t with | .cls c' => G.vc c' = true ∧ c = .ref (G.ca c') | t => c = .ty t.name
def tyB (n : String) (t : Ty) : Bool := n == t.name || (n == "bool" && t.name == "int")
theorem tyOf_kind {t : Ty} {d : D} {b : Bool} (h : tyOf μ t d = some b) : ∃ q, tyKind μ d = some q ∧ (∀ n, q = .inl n → n ∈ ["NoneType", "int", "bool", "str", "tuple", "list", "dict"] ∧ b = tyN t n) ∧ (∀ c, q = .inr c → b = tyC t c) := by
  have key : ∀ n : String, n ∈ ["NoneType", "int", "bool", "str", "tuple", "list", "dict"] → tyKind μ d = some (.inl n) → (b = tyN t n) →
      ∃ q, tyKind μ d = some q ∧ (∀ n, q = .inl n → n ∈ ["NoneType", "int", "bool", "str", "tuple", "list", "dict"] ∧ b = tyN t n) ∧ (∀ c, q = .inr c → b = tyC t c) :=
    fun n hn e1 e2 => ⟨_, e1, fun n' e => by cases e; exact ⟨hn, e2⟩, fun c e => by cases e⟩
  have key2 : ∀ c : Nat, tyKind μ d = some (.inr c) → (b = tyC t c) →
      ∃ q, tyKind μ d = some q ∧ (∀ n, q = .inl n → n ∈ ["NoneType", "int", "bool", "str", "tuple", "list", "dict"] ∧ b = tyN t n) ∧ (∀ c, q = .inr c → b = tyC t c) :=
    fun c e1 e2 => ⟨_, e1, (fun n e => nomatch e), fun c' e => by cases e; exact e2⟩
  cases d with
  | non => cases t <;> cases h <;> exact key "NoneType" (by decide) rfl (by first | rfl | decide)
  | bl _ => cases t <;> cases h <;> exact key "bool" (by decide) rfl (by first | rfl | decide)
  | int _ => cases t <;> cases h <;> exact key "int" (by decide) rfl (by first | rfl | decide)
  | str _ => cases t <;> cases h <;> exact key "str" (by decide) rfl (by first | rfl | decide)
  | tup _ => cases t <;> cases h <;> exact key "tuple" (by decide) rfl (by first | rfl | decide)
  | lst _ => cases t <;> cases h <;> exact key "list" (by decide) rfl (by first | rfl | decide)
  | ro _ => cases t <;> cases h <;> exact key "list" (by decide) rfl (by first | rfl | decide)
  | dct _ _ => cases t <;> cases h <;> exact key "dict" (by decide) rfl (by first | rfl | decide)
  | ins c _ _ => cases t <;> cases h <;> exact key2 c rfl rfl
  | ref n =>
    unfold tyOf at h
    simp only at h
    have kn : ∀ z, μ[n]? = z → tyKind μ (.ref n) = match z with
      | some (.lst _) => some (.inl "list")
      | some (.dct _ _) => some (.inl "dict")
      | some (.ins c _ _) => some (.inr c)
      | none => none := by
      intro z e
      subst e
      rfl
    cases q : μ[n]? with
    | none => rw [q] at h; cases h
    | some ob =>
      rw [q] at h
      have k1 := kn _ q
      cases ob with
      | lst _ => cases t <;> cases h <;> exact key "list" (by decide) k1 (by first | rfl | decide)
      | dct _ _ => cases t <;> cases h <;> exact key "dict" (by decide) k1 (by first | rfl | decide)
      | ins c _ _ => cases t <;> cases h <;> exact key2 c k1 rfl

theorem kits {K : PySem.W.Frag} {n : String} {t : Ty} (hn : n ∈ ["NoneType", "int", "bool", "str", "tuple", "list", "dict"]) (ht : ∀ c, t ≠ .cls c) : PySem.W.kitOne K (.type n) (.type t.name) = some (tyN t n) := by
  refine kit_ty ?_
  simp only [List.mem_cons, List.not_mem_nil, or_false] at hn
  rcases hn with rfl | rfl | rfl | rfl | rfl | rfl | rfl <;> cases t <;> first | exact absurd rfl (ht _) | decide +kernel

/-- isinstance(x, c): the value, the class as a value -/
theorem cr_isi (g : Gd G N sc k W X) (fk : Fk T G pg) {t : Ty} {d : D} {v c : V} {b : Bool} (w : Wld F ι H) (m : RelM G F μ ι H) (r : Rq G F ι H o d v) (h : tyOf μ t d = some b)
    (hc : tyV G t c) : ∃ (t' u : Value), ClsV c u ∧ TyX X.K H v t' ∧ PySem.W.kitOne X.K t' u = some b := by
  obtain ⟨q, e1, h1, h2⟩ := tyOf_kind h
  obtain ⟨r1, r2⟩ := ty_D (T := T) (pg := pg) g fk w m r
  rw [g.K]
  cases q with
  | inl n =>
    obtain ⟨hn, hb⟩ := h1 n rfl
    have ty := r1 n e1
    cases t with
    | cls c' =>
      obtain ⟨hv, rfl⟩ := hc
      subst hb
      exact ⟨_, _, .own _, ty, fk.isC c' hv n hn⟩
    | _ =>
      subst hc hb
      exact ⟨_, _, .ty _, ty, kits hn (fun c z => by cases z)⟩
  | inr c0 =>
    obtain ⟨hv0, ty⟩ := r2 c0 e1
    have hb := h2 c0 rfl
    cases t with
    | cls c' =>
      obtain ⟨hv, rfl⟩ := hc
      subst hb
      exact ⟨_, _, .own _, ty, fk.isCC c0 c' hv0 hv⟩
    | _ =>
      subst hc hb
      exact ⟨_, _, .ty _, ty, fk.isT c0 hv0 _ (by decide)⟩

theorem s_isi (g : Gd G N sc k W X) (fk : Fk T G pg) {t : Ty} {x y : Expr} {a : IE} {p : Pos} {c : V} (hg : Gl X "isinstance") (hp : plainA x = true) (hp2 : plainA y = true) (ha : PE X x (tE G W pg cf true a)) (hy : PE X y (tC c))
    (hc : tyV G t c) : PE X (.Call (.Name "isinstance" p) [x, y] [] pos) (tE G W pg cf o (.isi a t)) := by
  refine ⟨fun pins s σ H Q I h => ?_⟩
  obtain ⟨B, ss, μ, F, ι, R, h⟩ := h
  refine (pe_callB call_isi hg (fk.bl1 g (by decide)) (by decide +kernel) (pa_cons ha (pa_cons hy pa_nil (starEach_cons hp2)) (starEach_cons hp)) (by decide) (by decide) (starEach_cons hp) (starEach_any fun z hz => by
    simp only [List.mem_singleton] at hz
    subst hz
    exact hp2)).run pins s σ H Q I ?_
  have h := rdE_iff.mp h
  unfold evE at h
  refine seqE R h fun d μ1 v F1 ι1 H1 _ s1 R1 r1 h1 => ?_
  cases e : tyOf μ1 t d with
  | none => rw [e] at h1; exact h1.elim
  | some b =>
    rw [e] at h1
    obtain ⟨t', u, k1, k2, k3⟩ := cr_isi (pg := pg) g fk R1.w R1.m r1 e hc
    exact ⟨v, c, t', u, b, rfl, k1, k2, k3, rdX_of h1 R1.w R1.m (.bl b)⟩
end
end T
end

section
namespace T
open PySem PySem.Spec L2

section
variable {G : Glo} {N : List Str} {sc : Scope} {k : Nat} {W : WX} {X : Cx} {pg : Pg} {cf : CF} {o : Bool} {pos : Pos} {T : Tbl}
variable {F : Addr → Prop} {ι : List Addr} {H : Hp} {B : Ent} {ss : Slots} {μ : Store} {σ : St}

/-! ### what a function promises -/
def rdC (G : Glo) (F : Addr → Prop) (ι : List Addr) (H : Hp) (Q : VK) (E : XK) : Res D → Prop
  | .ok d μ' => ∀ v F' ι' H', Stp F ι H F' ι' H' → Wld F' ι' H' → RelM G F' μ' ι' H' → Rp G F' ι' H' d v → Q v H'
  | .exn x μ' => ∀ cls dd F' ι' H', Stp F ι H F' ι' H' → Wld F' ι' H' → RelM G F' μ' ι' H' → RpX G F' ι' H' x cls dd → E cls dd H'
  | .bad => False
structure FnC (T : Tbl) (G : Glo) (pg : Pg) (fk : Fk T G pg) (cf : CF) (k f : Nat) : Prop where
  len : ∀ ds μ, cf f ds μ ≠ .bad → ds.length = T.np f
  run : ∀ (A : Around) (outer : List Env) (s : Shared) (H : Hp) (args : Args) (us : List Value) (vs : List V) (ds : List D) (μ : Store) (F : Addr → Prop) (ι : List Addr) (Q : VK) (E : XK),
    Room (2 * k) A → A.guards = some [] → Env0 G.P G.w G.K G.mg G.base A outer s H → BindsTo s (fk.fd f) args ((fk.ps f).zip us) → Vals vs us → Wld F ι H → RelM G F μ ι H → Rps G F ι H ds vs → rdC G F ι H Q E (cf f ds μ) →
    codeAny (model G.P G.w) A (.call (.ref (fk.fa f)) args) (CR (L2.CX G.P G.w) outer G.P G.w H s Q E) s

theorem rdC_of {Q : VK} {r : Res D} (h : rdX G W σ F ι H (KV G o Q) r) : rdC G F ι H Q (fun cls d H' => W cls d σ H') r := by
  cases r with
  | ok d μ' => exact fun v F' ι' H' s w m r => h F' ι' H' s w m v (.of r)
  | exn x μ' => exact h
  | bad => exact h
theorem rdC_ne {Q : VK} {E : XK} {r : Res D} (h : rdC G F ι H Q E r) : r ≠ .bad := fun e => by rw [e] at h; exact h

/-- the callee runs -/
theorem run_fnG (g : Gd G N sc k W X) {fk : Fk T G pg} {f : Nat} (hF : FnC T G pg fk cf k f) {pins : List (Addr × Obj)} {s : Shared} {Q : VK} {us ws : List Value} {vs : List V} {ds : List D} {args : Args} (I : Inv X pins σ H s)
    (hb : BindsTo s (fk.fd f) args ((fk.ps f).zip us)) (r : Vals vs us) (w : Wld F ι H) (m : RelM G F μ ι H) (rs : Rps G F ι H ds vs) (h : rdC G F ι H Q (fun cls d H' => W cls d σ H') (cf f ds μ)) :
    codeAny (model X.prog X.w) X.A (.call (.ref (fk.fa f)) args) (wants (EP X pins σ Q) X.xe) s := by
  have e0 : Env0 G.P G.w G.K G.mg G.base X.A X.stack s H := by
    have := I.env0
    rw [g.P, g.w, g.K, g.mg, g.base] at this
    exact this
  have hr : Room (2 * k) X.A := g.room.mono (Nat.le_succ _)
  have run := hF.run X.A X.stack s H args us vs ds μ F ι Q _ hr g.gu e0 hb r w m rs h
  rw [← g.P, ← g.w] at run
  refine codeAny_mono run fun r s' hq => ?_
  cases r with
  | error e => exact g.tk e s' (XE.of_call I (fun _ _ _ h => h) hq)
  | ok fl =>
    cases fl with
    | ret u => exact I.after hq
    | next => exact False.elim hq
    | brk => exact False.elim hq
    | cont => exact False.elim hq

theorem s_call (g : Gd G N sc k W X) {fk : Fk T G pg} {f : Nat} (hF : FnC T G pg fk cf k f) (hf : T.isf f = true) (hpo : T.po f = true) {p : Pos} {es : List Expr} {as : IEs} (hg : Gl X (T.fnm f)) (hn : okName (T.fnm f) = true) (hp : ∀ y ∈ es, plainA y = true) (hlen : as.len = es.length)
    (ha : L2.PA X es (tEs G W pg cf false as)) : PE X (.Call (.Name (T.fnm f) p) es [] pos) (tE G W pg cf o (.call f as)) := by
  refine ⟨fun pins s σ H Q I h => ?_⟩
  obtain ⟨B, ss, μ, F, ι, R, h⟩ := h
  have h := rdE_iff.mp h
  unfold evE at h
  refine wpAny_Call_Name_kw (ld_glob I hg (by rw [g.mg]; exact fk.mgf f hf) ?_ (okN1 hn))
  have hk : PySem.W.keepIn X.K (.ref (fk.fa f)) = true := by rw [g.K]; exact fk.kpf f hf
  have fin : ∀ (us : List Value) (s1 : Shared) (vs : List V) (H1 : Hp) (ds : List D) (μ1 : Store) (F1 : Addr → Prop) (ι1 : List Addr), Inv X pins σ H1 s1 → Vals vs us → Wld F1 ι1 H1 → RelM G F1 μ1 ι1 H1 → Rps G F1 ι1 H1 ds vs → rdX G W σ F1 ι1 H1 (KV G o Q) (cf f ds μ1) →
      wpAny (model X.prog X.w) X.A (call (.ref (fk.fa f)) us) (EP X pins σ Q) X.xe s1 := by
    intro us s1 vs H1 ds μ1 F1 ι1 I1 r w m rs h1
    have hc := rdC_of h1
    have hl : us.length = (fk.ps f).length := by rw [← r.length, ← rs.length, fk.psl]; exact hF.len _ _ (rdC_ne hc)
    exact wpAny_call (run_fnG (ws := us) g hF I1 (.of_eq (fk.bnd f hpo us hl)) r w m rs hc)
  cases es with
  | nil =>
    refine PySem.W.callWith_K0 I.kIn hk ?_
    cases as with
    | nil => exact fin [] s [] H [] μ F ι I .nil R.w R.m .nil (by simpa [evEs, Res.bind] using h)
    | cons a r => cases hlen
  | cons e es =>
    have run := ha.run pos pins s σ H (fun vs H1 => ∃ ds μ1 F1 ι1, Wld F1 ι1 H1 ∧ RelM G F1 μ1 ι1 H1 ∧ Rps G F1 ι1 H1 ds vs ∧ rdX G W σ F1 ι1 H1 (KV G o Q) (cf f ds μ1)) I (seqEs R h fun ds μ1 vs F1 ι1 H1 _ s1 R1 r1 h1 => ⟨ds, μ1, F1, ι1, R1.w, R1.m, r1.rps, h1⟩)
    exact PySem.W.callWith_K (h₀ := X.base) I.ok.mod.kin hk (thn run fun us s1 ⟨vs, H1, I1, r, ds, μ1, F1, ι1, w1, m1, rs, h1⟩ => ⟨I1.kIn, fin us s1 vs H1 ds μ1 F1 ι1 I1 r w1 m1 rs h1⟩) (starEach_cons (hp e List.mem_cons_self)) (starEach_any fun y hy => hp y (List.mem_cons_of_mem _ hy))
end
end T
end

section
namespace T
open PySem PySem.Spec L2

/-! ### x != y by an own __eq__ -/
section
variable {prog : Program} {w : World} {A : Around} {E : Value → Shared → Prop} {s : Shared} {K : PySem.W.Frag} {x C L f : Addr} {h₀ : Heap} {m : Str → Option Value} {ox : Obj} {od : Option Obj} {b tb : Value}
open PySem.W in
theorem ne_K {Q : Value → Shared → Prop} (hu : A.units + 1 < cLine) (F : PyProof.Rows.Fr h₀ L s.heap m) (X₀ : K.In h₀) (I : InstAt s.heap x ox C od) (hb : Looks (model prog w) s.heap (typeOf b) tb) (hn : notFirst K C tb = true)
    (hs : findIn K (.ref C) "__eq__" = some (some (.ref f))) (hf : isFn K (.ref f) = true) (hne : findIn K (.ref C) "__ne__" = some (some (.builtin "object.__ne__"))) (hso : subIn K (.ref C) (.type "object") = some true)
    (h : wpAny (model prog w) A.in1 (call (.ref f) [.ref x, b]) (fun v s' => ∃ t, v = .bool t ∧ Q (.bool (!t)) s') E s) : wpAny (model prog w) A (richCompare .NotEq (.ref x) b) Q E s := by
  have X := X₀.keeps F.keep
  have body : wpAny (model prog w) A.in1 (Builtin.«object.__ne__» ⟨[.ref x, b], []⟩) (fun fin s' => ∃ r, fin = .done (.ret r) ∧ ∃ t, r = .bool t ∧ Q (.bool t) s') E s := by
    unfold Builtin.«object.__ne__»
    repeat (first
      | with_reducible refine wpAny_cRoomFor (by show A.units + 1 < cLine; exact hu) ?_
      | (refine wpAny_bind (m := callSpecialIfBound? (.ref x) (Str.ofString "__eq__") [b])
          (ifBound_K X I hs hf (wpAny_mono h (fun r s' hr => by
            obtain ⟨t, rfl, hq⟩ := hr
            repeat (first | exact ⟨_, rfl, _, rfl, hq⟩ | exact wpAny_pure ⟨_, rfl, _, rfl, hq⟩ | (refine wpAny_bind (m := truthy (.bool _)) (wpAny_truthy_bool ?_)) | wp_step)) fun _ _ e => e)))
      | wp_step)
  have called : wpAny (model prog w) A (call (.builtin "object.__ne__") [.ref x, b]) (fun v s' => ∃ t, v = .bool t ∧ Q (.bool t) s') E s := by
    refine wpAny_call (codeAny_call_builtin PySem.F.cmp_object.ne.plain PySem.F.cmpEntry_ne ?_)
    refine check_slot PySem.F.cmpKind_ne PySem.F.cmpSplit_ne (I.type.andThen (looks_subIn X hso)) (PySem.F.cmpArgs_ne _ _) ?_
    refine wpAny_mono body (fun fin s' hq => ?_) fun _ _ e => e
    obtain ⟨r, rfl, hq⟩ := hq
    exact hq
  have one : wpAny (model prog w) A (tryCompare (.ref x) (cmpInfo .NotEq).2.1 b) (fun r s' => ∃ v, r = some v ∧ Q v s') E s := by
    unfold tryCompare
    refine wpAny_bind ?_
    show wpAny _ _ (callSpecialIfBound? (.ref x) "__ne__" [b]) _ _ _
    simp only [callSpecialIfBound?, bindSpecialIfBound?]
    refine wpAny_holding (wpAny_bind (wpAny_bind (wpAny_bind (I.type.here ((looks_findIn X hne).here ?_)))))
    refine wpAny_bind (wpAny_askSetting (wpAny_ite ?_))
    have fin : ∀ R : Option Value → Shared → Prop, (∀ t s', Q (.bool t) s' → R (some (.bool t)) s') → wpAny (model prog w) A (call (.builtin "object.__ne__") ([.ref x] ++ [b]) >>= fun v => pure (some v)) R E s :=
      fun R hR => wpAny_bind (wpAny_mono called (fun v s' h' => by
        obtain ⟨t, rfl, hq⟩ := h'
        exact wpAny_pure (hR t s' hq)) fun _ _ h' => h')
    rw [PySem.F.cmp_object.ne.bind]
    split
    · exact wpAny_bind (wpAny_pure (wpAny_pure (by exact fin _ fun t s' hq => wpAny_pure ⟨_, rfl, hq⟩)))
    · exact wpAny_tryCatch (wpAny_bind (wpAny_pure (wpAny_pure (by exact fin _ fun t s' hq => wpAny_pure ⟨_, rfl, hq⟩))))
  unfold richCompare
  simp only [oneThing_ref]
  refine wpAny_holding (wpAny_bind (wpAny_cRoomFor (by omega) ?_))
  refine wpAny_bind (I.type.here (wpAny_bind (hb.here ?_)))
  split
  · rename_i q
    have e : subIn K tb (.ref C) = some false := by
      rcases Bool.or_eq_true_iff.mp hn with e | e
      · rw [beq_iff_eq.mp e] at q; simp at q
      · exact beq_iff_eq.mp e
    refine wpAny_bind ((looks_subIn X e).here ?_)
    simp only [Bool.false_eq_true, if_false]
    refine wpAny_bind (wpAny_mono one (fun r s' z => ?_) fun _ _ e => e)
    obtain ⟨v, rfl, hq⟩ := z
    exact wpAny_pure hq
  · refine wpAny_bind (wpAny_pure ?_)
    simp only [Bool.false_eq_true, if_false]
    refine wpAny_bind (wpAny_mono one (fun r s' z => ?_) fun _ _ e => e)
    obtain ⟨v, rfl, hq⟩ := z
    exact wpAny_pure hq
end

section
variable {G : Glo} {N : List Str} {sc : Scope} {k : Nat} {W : WX} {X : Cx} {pg : Pg} {cf : CF} {o : Bool} {pos : Pos} {T : Tbl}
variable {F : Addr → Prop} {ι : List Addr} {H : Hp} {B : Ent} {ss : Slots} {μ : Store} {σ : St}
theorem cls_ins (w : Wld F ι H) (m : RelM G F μ ι H) {d : D} {v : V} {c : Nat} (r : Rp G F ι H d v) (h : clsOf μ d = some c) : ∃ a dx fs, v = .ref a ∧ H a = some (.ins (G.ca c) dx fs) ∧ G.vc c = true := by
  cases r with
  | ins f h1 l c1 v r => cases h; exact ⟨_, _, _, rfl, h1, c1⟩
  | @ref n a h1 =>
    unfold clsOf at h
    simp only at h
    cases q : μ[n]? with
    | none => rw [q] at h; cases h
    | some ob =>
      rw [q] at h
      obtain ⟨ho, e1, r1⟩ := m.at_ n ob a q h1
      cases r1 with
      | ins r l c v => cases h; exact ⟨_, _, _, rfl, e1, c⟩
      | lst _ => cases h
      | dct _ _ => cases h
  | _ => cases h
/-- the callee runs, it lets no exception out -/
theorem run_fnN (g : Gd G N sc k W X) {fk : Fk T G pg} {f : Nat} (hF : FnC T G pg fk cf k f) (hpo : T.po f = true) {pins : List (Addr × Obj)} {s : Shared} {us : List Value} {vs : List V} {ds : List D} {μ1 : Store} {d1 : D} {A : Around} {R : Value → Shared → Prop} {E : Value → Shared → Prop} (I : Inv X pins σ H s)
    (hr : Room (2 * k) A) (hg : A.guards = some []) (hA : A.frames = X.A.frames) (r : Vals vs us) (w : Wld F ι H) (m : RelM G F μ ι H) (rs : Rps G F ι H ds vs) (e1 : cf f ds μ = .ok d1 μ1)
    (q : ∀ u s' v F' ι' H', Inv X pins σ H' s' → RelV v u → Stp F ι H F' ι' H' → Wld F' ι' H' → RelM G F' μ1 ι' H' → Rp G F' ι' H' d1 v → R u s') :
    wpAny (model X.prog X.w) A (call (.ref (fk.fa f)) us) R E s := by
  have e0 : Env0 G.P G.w G.K G.mg G.base A X.stack s H := by
    have e := I.env0
    rw [g.P, g.w, g.K, g.mg, g.base] at e
    exact ⟨by rw [hA]; exact e.frames, e.mod, e.bs, e.bsz, e.funs, e.frf, e.hok, e.bare⟩
  have hne : cf f ds μ ≠ .bad := by rw [e1]; nofun
  have hl : us.length = (fk.ps f).length := by rw [← r.length, ← rs.length, fk.psl]; exact hF.len _ _ hne
  have run := hF.run A X.stack s H ⟨us, []⟩ us vs ds μ F ι (fun v H' => ∃ F' ι', Stp F ι H F' ι' H' ∧ Wld F' ι' H' ∧ RelM G F' μ1 ι' H' ∧ Rp G F' ι' H' d1 v) (fun _ _ _ => False) hr hg e0 (.of_eq (fk.bnd f hpo us hl)) r w m rs (by
    rw [e1]
    exact fun v F' ι' H' s w m r => ⟨F', ι', s, w, m, r⟩)
  rw [← g.P, ← g.w] at run
  refine wpAny_call (codeAny_mono run fun r s' hq => ?_)
  cases r with
  | error e =>
    obtain ⟨_, _, _, _, _, _, _, _, _, _, _, _, z⟩ := hq
    exact z.elim
  | ok fl =>
    cases fl with
    | ret u =>
      obtain ⟨v, H', I', rv, F', ι', s1, w1, m1, r1⟩ := I.after hq
      exact q u s' v F' ι' H' I' rv s1 w1 m1 r1
    | next => exact False.elim hq
    | brk => exact False.elim hq
    | cont => exact False.elim hq
theorem eqH_of (g : Gd G N sc k W X) {fk : Fk T G pg} (hF : ∀ c f, pg.eq c = some f → FnC T G pg fk cf k f) : EqH G pg cf X := by
  intro neg pins s σ H F ι μ μ1 d e c f x y u v b Q I rx ry w m hc hf r1 r2 e1 q
  obtain ⟨hs, hfn, hne⟩ := fk.eqK c f hf
  obtain ⟨a, dx, fs, rfl, ha, hv⟩ := cls_ins w m r1 hc
  cases rx
  obtain ⟨mA, J, _⟩ := ins_get I.hok ha
  obtain ⟨od, J, _⟩ := J.look
  obtain ⟨m', hFr⟩ := I.fr
  have kin := I.ok.mod.kin
  have tb : ∃ tb, PySem.W.Looks (model X.prog X.w) s.heap (typeOf v) tb ∧ PySem.W.notFirst X.K (G.ca c) tb = true := by
    obtain ⟨t1, t2⟩ := ty_D (T := T) (pg := pg) g fk w m (o := false) (.of r2)
    have big : ∀ tb, TyX X.K H y tb → PySem.W.Looks (model X.prog X.w) s.heap (typeOf v) tb := fun tb ty => by
      obtain ⟨P, Z, p, _⟩ := kit_of I ry ty
      exact Z.ty _ _ I.kIn p
    have hk : ∃ q, tyKind μ e = some q := by
      cases r2 with
      | @ref n a h1 =>
        unfold tyKind
        simp only
        have hl : n < μ.length := by rw [m.len]; exact (List.getElem?_eq_some_iff.mp h1).1
        rw [List.getElem?_eq_getElem hl]
        cases μ[n] <;> exact ⟨_, rfl⟩
      | _ => exact ⟨_, rfl⟩
    obtain ⟨q, hq⟩ := hk
    cases q with
    | inl n =>
      refine ⟨_, big _ (by rw [g.K]; exact t1 n hq), ?_⟩
      rw [g.K]
      refine fk.nfT c hv n ?_
      cases e with
      | ref n =>
        unfold tyKind at hq
        simp only at hq
        split at hq <;> first | (cases hq; decide) | cases hq
      | _ => first | (cases hq; decide) | cases hq
    | inr c' =>
      obtain ⟨hv', ty⟩ := t2 c' hq
      refine ⟨_, big _ (by rw [g.K]; exact ty), ?_⟩
      rw [g.K]
      exact fk.nfC c c' hv hv'
  obtain ⟨tb, hb, hn⟩ := tb
  rw [← g.K] at hs hfn hne
  have hso := fk.soK c hv
  rw [← g.K] at hso
  have rv : Vals [V.ref a, y] [Value.ref a, v] := .cons rfl (.cons ry .nil)
  have rs : Rps G F ι H [d, e] [V.ref a, y] := .cons r1 (.cons r2 .nil)
  cases neg with
  | false =>
    refine PySem.W.cmp_K (op := .Eq) (tb := tb) g.room.units0 hFr kin J hb hn hs hfn ?_
    refine run_fnN g (hF c f hf) (fk.eqP c f hf) I (g.room.mono (Nat.le_succ _)) g.gu rfl rv w m rs e1 fun u' s' v' F' ι' H' I' rv' s1 w1 m1 r' => ?_
    cases r'
    cases rv'
    exact ⟨.bl b, H', I', rfl, q F' ι' H' s1 w1 m1⟩
  | true =>
    refine ne_K (tb := tb) (by have := g.room.un; omega) hFr kin J hb hn hs hfn hne hso ?_
    refine run_fnN g (hF c f hf) (fk.eqP c f hf) I (Room.in1 g.room) (by exact g.gu) rfl rv w m rs e1 fun u' s' v' F' ι' H' I' rv' s1 w1 m1 r' => ?_
    cases r'
    cases rv'
    exact ⟨b, rfl, .bl !b, H', I', rfl, q F' ι' H' s1 w1 m1⟩
end
end T
end

section
namespace T
open PySem PySem.Spec L2

section
variable {G : Glo} {N : List Str} {sc : Scope} {k : Nat} {W : WX} {X : Cx} {pg : Pg} {cf : CF} {o : Bool} {pos : Pos} {T : Tbl}
variable {F F2 : Addr → Prop} {ι : List Addr} {H : Hp} {B : Ent} {ss : Slots} {μ : Store} {σ : St}

/-! ### the store cut back -/
mutual
theorem Rp.trunc {n : Nat} (hF : ∀ a, F a → F2 a) : ∀ {d : D} {v : V}, below n d = true → Rp G F ι H d v → Rp G F2 (ι.take n) H d v
  | _, _, _, .non => .non
  | _, _, _, .bl b => .bl b
  | _, _, _, .int i => .int i
  | _, _, _, .str x => .str x
  | _, _, h, .tup t r => .tup t (Rps.trunc hF (by unfold below at h; exact h) r)
  | _, _, h, .lst f t r => .lst (hF _ f) t (Rps.trunc hF (by unfold below at h; exact h) r)
  | _, _, h, .ro t r => .ro t (Rps.trunc hF (by unfold below at h; exact h) r)
  | _, _, h, .dct f t l r => .dct (hF _ f) t l (Rps.trunc hF (by unfold below at h; exact h) r)
  | _, _, h, .ins f t l c v r => .ins (hF _ f) t l c v (Rps.trunc hF (by unfold below at h; exact h) r)
  | _, _, h, .ref e => .ref (by
      unfold below at h
      rw [List.getElem?_take_of_lt (of_decide_eq_true h)]
      exact e)
theorem Rps.trunc {n : Nat} (hF : ∀ a, F a → F2 a) : ∀ {ds : List D} {vs : List V}, belows n ds = true → Rps G F ι H ds vs → Rps G F2 (ι.take n) H ds vs
  | _, _, _, .nil => .nil
  | _, _, h, .cons r t => by
    unfold belows at h
    obtain ⟨h1, h2⟩ := Bool.and_eq_true_iff.mp h
    exact .cons (Rp.trunc hF h1 r) (Rps.trunc hF h2 t)
end
theorem RpX.trunc {n : Nat} (hF : ∀ a, F a → F2 a) {x : Exn} {cls : Value} {dd : Option Addr} (h : belows n x.ds = true) (r : RpX G F ι H x cls dd) : RpX G F2 (ι.take n) H x cls dd := by
  obtain ⟨hc, hv, a, v, d, e1, e2, e3, e4⟩ := r
  rw [e2] at h
  unfold belows at h
  exact ⟨hc, hv, a, v, d, e1, e2, e3, e4.trunc hF (Bool.and_eq_true_iff.mp h).1⟩
theorem RpO.trunc {n : Nat} (hF : ∀ a, F a → F2 a) {ob : Ob} {ho : HO} (h : Ob.below n ob = true) (r : RpO G F ι H ob ho) : RpO G F2 (ι.take n) H ob ho := by
  cases r with
  | lst r => exact .lst (r.trunc hF h)
  | dct r l => exact .dct (r.trunc hF h) l
  | ins r l c v => exact .ins (r.trunc hF h) l c v

theorem under_guards {A : Around} {C : Addr} {us : List Value} {kw : List (Str × Value)} : (A.under (.builtin "type.__call__" ⟨.ref C :: us, kw⟩)).guards = A.guards := by
  first | rfl | simp [Around.under, Code.weight, Code.isCreation, Code.isGuard, Code.isCaller, Code.frames, Code.isFrame, guardIds]

/-- the new instance at the call of its __init__ -/
theorem made_w (w : Wld F ι H) {C x dx : Addr} (hx : H x = none) (hd : H dx = none) (ne : dx ≠ x) : Wld F (ι ++ [x]) (upd (upd H dx (.own x)) x (.ins C dx [])) := by
  have keep : ∀ b u, H b = some u → upd (upd H dx (.own x)) x (.ins C dx []) b = some u := fun b u e => by
    rw [upd_ne (ne_of_none e hx), upd_ne (ne_of_none e hd)]
    exact e
  have w1 := Wld.ext w keep
  have hxi : x ∉ ι := fun h => by
    obtain ⟨o, e, _⟩ := w.mu x h
    rw [hx] at e
    cases e
  refine ⟨List.nodup_append.mpr ⟨w.nd, by simp, fun a ha b hb => ?_⟩, fun a ha => ?_, fun a ha => ?_, w1.dom⟩
  · simp only [List.mem_singleton] at hb
    subst hb
    exact fun e => hxi (e ▸ ha)
  · rcases List.mem_append.mp ha with ha | ha
    · exact w1.mu a ha
    · simp only [List.mem_singleton] at ha
      subst ha
      exact ⟨_, upd_same, trivial⟩
  · rcases List.mem_append.mp ha with ha | ha
    · exact w1.dis a ha
    · simp only [List.mem_singleton] at ha
      subst ha
      exact fun z => w.dom a z hx
theorem made_s (w : Wld F ι H) {C x dx : Addr} (hx : H x = none) (hd : H dx = none) (ne : dx ≠ x) : Stp F ι H F (ι ++ [x]) (upd (upd H dx (.own x)) x (.ins C dx [])) := by
  have keep : ∀ b u, H b = some u → upd (upd H dx (.own x)) x (.ins C dx []) b = some u := fun b u e => by
    rw [upd_ne (ne_of_none e hx), upd_ne (ne_of_none e hd)]
    exact e
  refine ⟨fun _ h => h, fun _ h => .inl h, ⟨[x], rfl, fun a ha => ?_⟩, fun b o e _ => keep b o e, fun b h => ?_⟩
  · simp only [List.mem_singleton] at ha
    subst ha
    exact hx
  · cases e : H b with
    | none => exact absurd e h
    | some o => rw [keep b o e]; simp
theorem made_m (w : Wld F ι H) (m : RelM G F μ ι H) {c : Nat} {x dx : Addr} (hx : H x = none) (hd : H dx = none) (ne : dx ≠ x) (hv : G.vc c = true) : RelM G F (μ ++ [.ins c [] []]) (ι ++ [x]) (upd (upd H dx (.own x)) x (.ins (G.ca c) dx [])) := by
  have s := made_s (C := G.ca c) w hx hd ne
  refine ⟨by simp [m.len], fun n o a h1 h2 => ?_⟩
  by_cases hn : n < μ.length
  · rw [List.getElem?_append_left hn] at h1
    rw [List.getElem?_append_left (by rw [← m.len]; exact hn)] at h2
    obtain ⟨ho, e, r⟩ := m.at_ n o a h1 h2
    refine ⟨ho, ?_, RpO.step w s r⟩
    rw [upd_ne (ne_of_none e hx), upd_ne (ne_of_none e hd)]
    exact e
  · have hn' : n = μ.length := by
      have := (List.getElem?_eq_some_iff.mp h1).1
      simp at this
      omega
    subst hn'
    rw [List.getElem?_append_right (Nat.le_refl _)] at h1
    rw [m.len, List.getElem?_append_right (Nat.le_refl _)] at h2
    simp at h1 h2
    subst h1 h2
    exact ⟨_, upd_same, .ins (vs := []) .nil rfl hv (by simp)⟩

/-- the store cut back behind a call that began with one object more -/
theorem cut_w {F' : Addr → Prop} {ι' : List Addr} {H0 H' : Hp} {x : Addr} (hF : ∀ a, F2 a → F' a ∨ a = x) (s : Stp F (ι ++ [x]) H0 F' ι' H') (w' : Wld F' ι' H') : ι'.take ι.length = ι ∧ Wld F2 ι H' := by
  obtain ⟨more, e, _⟩ := s.pre
  have e1 : ι'.take ι.length = ι := by
    rw [e, List.append_assoc, List.take_left']
    rfl
  have nd := w'.nd
  rw [e, List.append_assoc] at nd
  have hxm : ∀ a ∈ ι, a ≠ x := fun a ha e2 => by
    have := (List.nodup_append.mp nd).2.2 a ha x (by simp)
    exact this e2
  have sub : ∀ a ∈ ι, a ∈ ι' := fun a ha => by rw [e]; simp [ha]
  refine ⟨e1, ⟨(List.nodup_append.mp nd).1, fun a ha => w'.mu a (sub a ha), fun a ha z => ?_, fun a z => ?_⟩⟩
  · rcases hF a z with z | z
    · exact w'.dis a (sub a ha) z
    · exact hxm a ha z
  · rcases hF a z with z | z
    · exact w'.dom a z
    · subst z
      obtain ⟨o, e2, _⟩ := w'.mu a (by rw [e]; simp)
      rw [e2]
      simp
theorem cut_s {F' : Addr → Prop} {ι' : List Addr} {H0 H' : Hp} {x dx : Addr} {C : Addr} (hx : H x = none) (hd : H dx = none) (hF : ∀ a, F2 a → F' a ∨ a = x) (hF2 : ∀ a, F' a → F2 a) (e0 : H0 = upd (upd H dx (.own x)) x (.ins C dx [])) (s : Stp F (ι ++ [x]) H0 F' ι' H') : Stp F ι H F2 ι H' := by
  subst e0
  have keep : ∀ b u, H b = some u → upd (upd H dx (.own x)) x (.ins C dx []) b = some u := fun b u e => by
    rw [upd_ne (ne_of_none e hx), upd_ne (ne_of_none e hd)]
    exact e
  have none' : ∀ b, upd (upd H dx (.own x)) x (.ins C dx []) b = none → H b = none := fun b e => by
    cases q : H b with
    | none => rfl
    | some o => rw [keep b o q] at e; cases e
  refine ⟨fun a h => hF2 a (s.up a h), fun a h => ?_, ⟨[], by simp, by simp⟩, fun b o e n => ?_, fun b h => ?_⟩
  · rcases hF a h with h | h
    · rcases s.new a h with h | h
      · exact .inl h
      · exact .inr (none' a h)
    · subst h
      exact .inr hx
  · refine s.keep b o (keep b o e) fun z => ?_
    rcases List.mem_append.mp z with z | z
    · exact n z
    · simp only [List.mem_singleton] at z
      subst z
      rw [hx] at e
      cases e
  · refine s.dom b fun z => h (none' b z)
theorem cut_m {F' : Addr → Prop} {ι' : List Addr} {H' : Hp} {μ2 : Store} {n : Nat} (hF2 : ∀ a, F' a → F2 a) (m' : RelM G F' μ2 ι' H') (ha : (μ2.take n).all (Ob.below n) = true) : RelM G F2 (μ2.take n) (ι'.take n) H' := by
  refine ⟨by simp [m'.len], fun i o a h1 h2 => ?_⟩
  have hi : i < n := by
    have := (List.getElem?_eq_some_iff.mp h1).1
    simp at this
    omega
  have hb : Ob.below n o = true := List.all_eq_true.mp ha o (List.mem_of_getElem? h1)
  rw [List.getElem?_take_of_lt hi] at h1 h2
  obtain ⟨ho, e, r⟩ := m'.at_ i o a h1 h2
  exact ⟨ho, e, r.trunc hF2 hb⟩

theorem run_new (g : Gd G N sc k W X) {fk : Fk T G pg} {c : Nat} (hm : T.mkc c = true) (hF : FnC T G pg fk cf k (pg.init c)) {pins : List (Addr × Obj)} {s : Shared} {Q : VK} {us : List Value} {kw : List (Str × Value)} {zs : List Value} {vs : List V} {ds : List D} (I : Inv X pins σ H s)
    (hb : ∀ s' x, X.K.In s'.heap → BindsTo s' (fk.fd (pg.init c)) ⟨.ref x :: us, kw⟩ ((fk.ps (pg.init c)).zip (.ref x :: zs))) (r : Vals vs zs) (w : Wld F ι H) (m : RelM G F μ ι H) (rs : Rps G F ι H ds vs) (h : rdC G F ι H Q (fun cls d H' => W cls d σ H') (newD pg cf c ds μ)) :
    codeAny (model X.prog X.w) X.A (.call (.ref (G.ca c)) ⟨us, kw⟩) (wants (EP X pins σ Q) X.xe) s := by
  have M := fk.mkk c hm
  have hv := fk.mkv c hm
  rw [← g.K] at M
  have hx : H (s.heap.objs.size + 1) = none := I.hok.fresh (Nat.le_succ _)
  have hd : H s.heap.objs.size = none := I.hok.fresh (Nat.le_refl _)
  have ne : s.heap.objs.size ≠ s.heap.objs.size + 1 := Nat.ne_of_lt (Nat.lt_succ_self _)
  generalize hX : s.heap.objs.size + 1 = x at hx ne
  generalize hDX : s.heap.objs.size = dx at hd ne
  have I2 : Inv X pins σ (upd (upd H dx (.own x)) x (.ins (G.ca c) dx [])) { s with heap := (s.heap.push PySem.W.emptyDict).push (PySem.W.instObj (G.ca c) dx) } := by
    have := Inv.made (C := G.ca c) I
    rw [hX, hDX] at this
    exact this
  have w2 := made_w (C := G.ca c) w hx hd ne
  have m2 := made_m (c := c) w m hx hd ne hv
  have s2 := made_s (C := G.ca c) w hx hd ne
  have rs2 : Rps G F (ι ++ [x]) (upd (upd H dx (.own x)) x (.ins (G.ca c) dx [])) (.ref μ.length :: ds) (.ref x :: vs) := .cons (.ref (by rw [m.len, List.getElem?_append_right (Nat.le_refl _)]; simp)) (Rps.step w s2 rs)
  have e0 : Env0 G.P G.w G.K G.mg G.base X.A X.stack { s with heap := (s.heap.push PySem.W.emptyDict).push (PySem.W.instObj (G.ca c) dx) } (upd (upd H dx (.own x)) x (.ins (G.ca c) dx [])) := by
    have := I2.env0
    rw [g.P, g.w, g.K, g.mg, g.base] at this
    exact this
  have key : rdC G F (ι ++ [x]) (upd (upd H dx (.own x)) x (.ins (G.ca c) dx [])) (fun v H2 => v = .non ∧ Q (.ref x) H2) (fun cls d H' => W cls d σ H') (cf (pg.init c) (.ref μ.length :: ds) (μ ++ [.ins c [] []])) := by
    unfold newD at h
    cases hc : cf (pg.init c) (.ref μ.length :: ds) (μ ++ [.ins c [] []]) with
    | bad => rw [hc] at h; exact h
    | exn xx μ2 =>
      rw [hc] at h
      simp only at h
      split at h
      · rename_i hh
        obtain ⟨hb0, hb1, hb2⟩ := hh
        intro cls dd F' ι' H' s' w' m' rx
        obtain ⟨e1, wc⟩ := cut_w (F2 := fun a => F' a ∨ a = x) (fun a h => h) s' w'
        have sc' := cut_s (F2 := fun a => F' a ∨ a = x) (C := G.ca c) hx hd (fun a h => h) (fun a h => .inl h) rfl s'
        have mc := cut_m (F2 := fun a => F' a ∨ a = x) (fun a h => Or.inl h) m' hb2
        have el := m.len
        rw [show (ι'.take μ.length) = ι by rw [el, e1]] at mc
        have rx2 := rx.trunc (F2 := fun a => F' a ∨ a = x) (fun a h => Or.inl h) hb1
        rw [show (ι'.take μ.length) = ι by rw [el, e1]] at rx2
        exact h cls dd _ _ _ sc' wc mc rx2
      · exact h.elim
    | ok d μ2 =>
      rw [hc] at h
      simp only at h
      split at h
      · rename_i c' as es hdrop
        split at h
        · rename_i hh
          obtain ⟨rfl, hb1, hb2⟩ := hh
          intro v F' ι' H' s' w' m' r'
          cases r'
          refine ⟨rfl, ?_⟩
          obtain ⟨e1, wc⟩ := cut_w (F2 := fun a => F' a ∨ a = x) (fun a h => h) s' w'
          have sc' := cut_s (F2 := fun a => F' a ∨ a = x) (C := G.ca c') hx hd (fun a h => h) (fun a h => .inl h) rfl s'
          have mc := cut_m (F2 := fun a => F' a ∨ a = x) (fun a h => Or.inl h) m' hb2
          have el := m.len
          rw [show (ι'.take μ.length) = ι by rw [el, e1]] at mc
          have hget : μ2[μ.length]? = some (.ins c' as es) := by
            have := congrArg (fun l : List Ob => l[0]?) hdrop
            simpa using this
          have hix : ι'[μ.length]? = some x := by
            obtain ⟨more, e, _⟩ := s'.pre
            rw [e, List.append_assoc, m.len, List.getElem?_append_right (Nat.le_refl _)]
            simp
          obtain ⟨ho, eh, ro⟩ := m'.at_ _ _ _ hget hix
          cases ro with
          | ins rr l cc vv =>
            have rr2 := rr.trunc (F2 := fun a => F' a ∨ a = x) (fun a h => Or.inl h) hb1
            rw [show (ι'.take μ.length) = ι by rw [el, e1]] at rr2
            exact h _ _ _ _ sc' wc mc (.ins (.inr rfl) eh l cc vv rr2)
        · exact h.elim
      · exact h.elim
  have run := hF.run _ X.stack _ _ ⟨.ref x :: us, kw⟩ (.ref x :: zs) (.ref x :: vs) (.ref μ.length :: ds) (μ ++ [.ins c [] []]) F (ι ++ [x]) (fun v H2 => v = .non ∧ Q (.ref x) H2) (fun cls d H' => W cls d σ H') (Room.make g.room (G.ca c) us kw) (by rw [under_guards]; exact g.gu) (e0.make (G.ca c) us kw) (hb _ x I2.kIn) (.cons rfl r) w2 m2 rs2 key
  rw [← g.P, ← g.w] at run
  refine make_map (f := fk.fa (pg.init c)) I.kIn M.makes M.init (beq_iff_eq.mp M.fn) ?_
  rw [hX, hDX]
  refine codeAny_mono run fun r s' hq => ?_
  cases r with
  | error e => exact g.tk e s' (XE.of_call I2 (fun _ _ _ h => h) hq)
  | ok fl =>
    cases fl with
    | ret u =>
      obtain ⟨v, H', I3, rv, ev, q3⟩ := I2.after hq
      subst ev
      exact ⟨rv, ⟨V.ref x, H', I3, rfl, q3⟩⟩
    | next => exact False.elim hq
    | brk => exact False.elim hq
    | cont => exact False.elim hq
end
end T
end

section
namespace T
open PySem PySem.Spec L2

section
variable {G : Glo} {F : Addr → Prop} {ι : List Addr} {H : Hp}
theorem fill_sel {its : List Value} {us : List Value} {vs : List V} {ds : List D} (r : Vals vs us) (rs : Rps G F ι H ds vs) : ∀ {p : List _root_.T.PA} {es : List D}, (∀ j i, _root_.T.PA.df j i ∈ p → ∃ u, its[j]? = some u ∧ RelV (litV i) u) → fill p ds = some es →
    ∃ ws, Vals ws (selP .none p us its) ∧ Rps G F ι H es ws
  | [], es, _, h => by
    unfold fill at h
    cases h
    exact ⟨[], .nil, .nil⟩
  | .ar j :: p, es, hd, h => by
    unfold fill at h
    split at h
    · rename_i d l e1 e2
      cases h
      obtain ⟨v, q1, r1⟩ := rs.get e1
      obtain ⟨u, q2, r2⟩ := r.get q1
      obtain ⟨ws, g1, g2⟩ := fill_sel r rs (fun j i hm => hd j i (List.mem_cons_of_mem _ hm)) e2
      refine ⟨v :: ws, ?_, .cons r1 g2⟩
      show Vals (v :: ws) (us.getD j .none :: selP .none p us its)
      rw [List.getD_eq_getElem?_getD, q2]
      exact .cons r2 g1
    · cases h
  | .df j i :: p, es, hd, h => by
    unfold fill at h
    obtain ⟨l, e2, rfl⟩ := Option.map_eq_some_iff.mp h
    obtain ⟨u, q2, r2⟩ := hd j i List.mem_cons_self
    obtain ⟨ws, g1, g2⟩ := fill_sel r rs (fun j i hm => hd j i (List.mem_cons_of_mem _ hm)) e2
    refine ⟨litV i :: ws, ?_, .cons (by cases i <;> first | exact .non | exact .int _) g2⟩
    show Vals (litV i :: ws) (its.getD j .none :: selP .none p us its)
    rw [List.getD_eq_getElem?_getD, q2]
    exact .cons r2 g1
end

section
variable {G : Glo} {N : List Str} {sc : Scope} {k : Nat} {W : WX} {X : Cx} {pg : Pg} {cf : CF} {o : Bool} {pos : Pos} {T : Tbl}
variable {F F2 : Addr → Prop} {ι : List Addr} {H : Hp} {B : Ent} {ss : Slots} {μ : Store} {σ : St}

/-! ### keywords -/
theorem sk_nil : PK X [] (tEs G W pg cf o .nil) := by
  refine ⟨fun ps pins s σ H Q I h => ?_⟩
  obtain ⟨B, ss, μ, F, ι, R, h⟩ := h
  exact pk_nil.run ps pins s σ H Q I (h [] F ι H .refl R.w R.m .nil)
theorem sk_cons {e : Expr} {es : List Keyword} {nm : Option Str} {p : Pos} {a : IE} {r : IEs} (ha : PE X e (tE G W pg cf o a)) (hr : PK X es (tEs G W pg cf o r)) : PK X (⟨nm, e, p⟩ :: es) (tEs G W pg cf o (.cons a r)) := by
  refine ⟨fun ps pins s σ H Q I h => ?_⟩
  obtain ⟨B, ss, μ, F, ι, R, h⟩ := h
  refine (pk_cons ha hr).run ps pins s σ H Q I ?_
  have h := rdA_iff.mp h
  unfold evEs at h
  refine seqE R h fun d μ1 v F1 ι1 H1 _ s1 R1 r1 h1 => ?_
  refine seqEs R1 h1 fun ds μ2 vs F2 ι2 H2 _ s2 R2 r2 h2 => ?_
  exact h2 F2 ι2 H2 .refl R2.w R2.m _ (.cons (Rq.step R1.w s2 r1) r2)
theorem kw_all {env : Env} {pos : Pos} : ∀ {ks : List Keyword}, kwA ks = true → (backToKw pos (keywordEach ks env)).all (·.1.isSome) = true ∧ (backToKw pos (keywordEach ks env)).filterMap (·.1) = kwN ks ∧ (backToKw pos (keywordEach ks env)).any (·.1.isNone) = false ∧ (kwN ks).length = ks.length
  | [], _ => ⟨rfl, rfl, rfl, rfl⟩
  | ⟨some n, v, p⟩ :: r, h => by
    obtain ⟨h1, h2, h3, h4⟩ := kw_all (env := env) (pos := pos) (ks := r) h
    refine ⟨?_, ?_, ?_, ?_⟩
    · show (true && (backToKw pos (keywordEach r env)).all (·.1.isSome)) = true
      rw [h1] <;> rfl
    · show n :: (backToKw pos (keywordEach r env)).filterMap (·.1) = n :: kwN r
      rw [h2]
    · show (false || (backToKw pos (keywordEach r env)).any (·.1.isNone)) = false
      rw [h3] <;> rfl
    · show (kwN r).length + 1 = r.length + 1
      rw [h4]
  | ⟨none, v, p⟩ :: r, h => by cases h

/-- f(e, .., k = v, ..): the values, then the callee -/
theorem kwrun (g : Gd G N sc k W X) {f : Value} {es : List Expr} {ks : List Keyword} {as bs : IEs} {pins : List (Addr × Obj)} {s : Shared} {Q : VK} {nx : List D → Store → Res D} (hk : PySem.W.keepIn X.K f = true) (hp : ∀ y ∈ es, plainA y = true) (hlen : as.len = es.length) (hka : kwA ks = true) (hlk : bs.len = ks.length)
    (ha : L2.PA X es (tEs G W pg cf false as)) (hb : PK X ks (tEs G W pg cf false bs)) (I : Inv X pins σ H s) (R : Rel G B ss μ F ι σ H)
    (h : rdX G W σ F ι H (KV G o Q) ((evEs pg cf false as ss μ).bind fun ds μ1 => (evEs pg cf false bs ss μ1).bind fun es μ2 => nx (ds ++ es) μ2))
    (fin : ∀ (us ws : List Value) (s2 : Shared) (vs : List V) (H2 : Hp) (ds : List D) (μ2 : Store) (F2 : Addr → Prop) (ι2 : List Addr), Inv X pins σ H2 s2 → us.length = es.length → ws.length = (kwN ks).length → Vals vs (us ++ ws) → Wld F2 ι2 H2 → RelM G F2 μ2 ι2 H2 → Rps G F2 ι2 H2 ds vs →
      rdX G W σ F2 ι2 H2 (KV G o Q) (nx ds μ2) → wpAny (model X.prog X.w) X.A (call f us ((kwN ks).zip ws)) (EP X pins σ Q) X.xe s2) :
    wpAny (model X.prog X.w) X.A (callWith pos f [] (backTo pos (starEach es X.env)) (backToKw pos (keywordEach ks X.env))) (EP X pins σ Q) X.xe s := by
  obtain ⟨k1, k2, k3, k4⟩ := kw_all (env := X.env) (pos := pos) hka
  let P : List V → List V → Hp → Prop := fun vs zs H2 => ∃ ds es' μ2 F2 ι2, vs.length = es.length ∧ zs.length = (kwN ks).length ∧ Wld F2 ι2 H2 ∧ RelM G F2 μ2 ι2 H2 ∧ Rps G F2 ι2 H2 ds vs ∧ Rps G F2 ι2 H2 es' zs ∧ rdX G W σ F2 ι2 H2 (KV G o Q) (nx (ds ++ es') μ2)
  have kwp : ∀ {ds : List D} {μ1 : Store} {vs : List V} {F1 : Addr → Prop} {ι1 : List Addr} {H1 : Hp}, vs.length = es.length → Rel G B ss μ1 F1 ι1 σ H1 → Rps G F1 ι1 H1 ds vs →
      rdX G W σ F1 ι1 H1 (KV G o Q) ((evEs pg cf false bs ss μ1).bind fun es μ2 => nx (ds ++ es) μ2) → tEs G W pg cf false bs σ H1 (fun zs H2 => P vs zs H2) :=
    fun {ds μ1 vs F1 ι1 H1} hl R1 r1 h1 => seqEs R1 h1 fun es' μ2 zs F2 ι2 H2 e2 s2 R2 r2 h2 =>
      ⟨ds, es', μ2, F2, ι2, hl, by rw [← r2.length, evEs_len e2, hlk, k4], R2.w, R2.m, Rps.step R1.w s2 r1, r2.rps, h2⟩
  have ends : ∀ {us ws : List Value} {s2 : Shared} {vs zs : List V} {H2 : Hp}, Inv X pins σ H2 s2 → Vals vs us → Vals zs ws → P vs zs H2 → wpAny (model X.prog X.w) X.A (call f us ((kwN ks).zip ws)) (EP X pins σ Q) X.xe s2 :=
    fun {us ws s2 vs zs H2} I2 r rz ⟨ds, es', μ2, F2, ι2, l1, l2, w2, m2, rs, rs2, h2⟩ =>
      fin us ws s2 (vs ++ zs) H2 (ds ++ es') μ2 F2 ι2 I2 (by rw [← r.length, l1]) (by rw [← rz.length, l2]) (r.append rz) w2 m2 (rs.append rs2) h2
  cases es with
  | nil =>
    cases as with
    | cons a r => cases hlen
    | nil =>
      refine PySem.W.callWith_KW0 (h₀ := X.base) I.ok.mod.kin hk k1 ?_ (by rw [k3] <;> rfl)
      refine thn (hb.run pos pins s σ H _ I (kwp (vs := []) (ds := []) rfl R .nil h)) fun ws s2 ⟨zs, H2, I2, rz, q⟩ => ⟨I2.kIn, ?_⟩
      rw [k2]
      exact ends (us := []) (vs := []) I2 .nil rz q
  | cons e es =>
    have run := ha.run pos pins s σ H (fun vs H1 => tEs G W pg cf false bs σ H1 (fun zs H2 => P vs zs H2)) I
      (seqEs R h fun ds μ1 vs F1 ι1 H1 e1 s1 R1 r1 h1 => kwp (by rw [← r1.length, evEs_len e1, hlen]) R1 r1.rps h1)
    refine PySem.W.callWith_KW (h₀ := X.base) I.ok.mod.kin hk k1 (thn run fun us s1 ⟨vs, H1, I1, r, q⟩ => ?_) (by rw [starEach_any hp, k3] <;> rfl) (starEach_cons (hp e List.mem_cons_self))
    refine thn (hb.run pos pins s1 σ H1 _ I1 q) fun ws s2 ⟨zs, H2, I2, rz, q2⟩ => ⟨I2.kIn, ?_⟩
    rw [k2]
    exact ends I2 r rz q2

theorem s_callk (g : Gd G N sc k W X) {fk : Fk T G pg} {f : Nat} (hF : FnC T G pg fk cf k f) (hf : T.isf f = true) {p : Pos} {es : List Expr} {ks : List Keyword} {as bs : IEs} {pat : List _root_.T.PA} (hg : Gl X (T.fnm f)) (hn : okName (T.fnm f) = true) (hp : ∀ y ∈ es, plainA y = true) (hlen : as.len = es.length)
    (hka : kwA ks = true) (hlk : bs.len = ks.length) (hm : (f, es.length, kwN ks, pat) ∈ T.pat) (ha : L2.PA X es (tEs G W pg cf false as)) (hb : PK X ks (tEs G W pg cf false bs)) : PE X (.Call (.Name (T.fnm f) p) es ks pos) (tE G W pg cf o (.callk f pat as bs)) := by
  refine ⟨fun pins s σ H Q I h => ?_⟩
  obtain ⟨B, ss, μ, F, ι, R, h⟩ := h
  have h := rdE_iff.mp h
  unfold evE at h
  refine wpAny_Call_Name_kw (ld_glob I hg (by rw [g.mg]; exact fk.mgf f hf) ?_ (okN1 hn))
  have hk : PySem.W.keepIn X.K (.ref (fk.fa f)) = true := by rw [g.K]; exact fk.kpf f hf
  obtain ⟨its, hd, hbt⟩ := (fk.kwb f _ _ _ hm).ex
  refine kwrun (nx := fun ds μ2 => match fill pat ds with | some zs => cf f zs μ2 | none => .bad) g hk hp hlen hka hlk ha hb I R h fun us ws s2 vs H2 ds μ2 F2 ι2 I2 l1 l2 r w m rs h2 => ?_
  cases e : fill pat ds with
  | none => rw [e] at h2; exact h2.elim
  | some zs =>
    rw [e] at h2
    obtain ⟨xs, g1, g2⟩ := fill_sel r rs hd e
    have kin := I2.kIn
    rw [g.K] at kin
    exact wpAny_call (run_fnG (ws := us) g hF I2 (hbt s2 us ws kin l1 l2) g1 w m g2 (rdC_of h2))

theorem s_newk (g : Gd G N sc k W X) {fk : Fk T G pg} {c : Nat} (hm : T.mkc c = true) (hF : FnC T G pg fk cf k (pg.init c)) {p : Pos} {es : List Expr} {ks : List Keyword} {as bs : IEs} {pat : List _root_.T.PA} (hg : Gl X (T.cnm c)) (hn : okName (T.cnm c) = true) (hp : ∀ y ∈ es, plainA y = true) (hlen : as.len = es.length)
    (hka : kwA ks = true) (hlk : bs.len = ks.length) (hpt : (T.init c, es.length + 1, kwN ks, _root_.T.PA.ar 0 :: pat.map PA.shift) ∈ T.pat) (ha : L2.PA X es (tEs G W pg cf false as)) (hb : PK X ks (tEs G W pg cf false bs)) : PE X (.Call (.Name (T.cnm c) p) es ks pos) (tE G W pg cf o (.newk c pat as bs)) := by
  refine ⟨fun pins s σ H Q I h => ?_⟩
  obtain ⟨B, ss, μ, F, ι, R, h⟩ := h
  have h := rdE_iff.mp h
  unfold evE at h
  refine wpAny_Call_Name_kw (ld_glob I hg (by rw [g.mg]; exact fk.gc c (fk.mkv c hm)) ?_ (okN1 hn))
  have hk : PySem.W.keepIn X.K (.ref (G.ca c)) = true := by rw [g.K]; exact (fk.mkk c hm).kp
  rw [← fk.ini c] at hpt
  obtain ⟨its, hd, hbt⟩ := (fk.kwb _ _ _ _ hpt).ex
  refine kwrun (nx := fun ds μ2 => match fill pat ds with | some zs => newD pg cf c zs μ2 | none => .bad) g hk hp hlen hka hlk ha hb I R h fun us ws s2 vs H2 ds μ2 F2 ι2 I2 l1 l2 r w m rs h2 => ?_
  cases e : fill pat ds with
  | none => rw [e] at h2; exact h2.elim
  | some zs =>
    rw [e] at h2
    obtain ⟨xs, g1, g2⟩ := fill_sel r rs (fun j i hji => hd j i (List.mem_cons_of_mem _ (List.mem_map.mpr ⟨_, hji, rfl⟩))) e
    refine wpAny_call (run_new (zs := selP .none pat (us ++ ws) its) g hm hF I2 (fun s' x kin => ?_) g1 w m g2 (rdC_of h2))
    rw [g.K] at kin
    have := hbt s' (.ref x :: us) ws kin (by rw [List.length_cons, l1]) l2
    rw [List.cons_append, selP_shift] at this
    exact this

/-! ### x.m() -/
theorem cls_insF (w : Wld F ι H) (m : RelM G F μ ι H) {d : D} {v : V} {c : Nat} (r : Rp G F ι H d v) (h : clsOf μ d = some c) : ∃ (a dx : Addr) (as : List Nat) (vs : List V), v = .ref a ∧ H a = some (.ins (G.ca c) dx ((as.map G.at_).zip vs)) ∧ G.vc c = true ∧ ∀ a ∈ as, G.va a = true := by
  cases r with
  | ins f h1 l c1 v r => cases h; exact ⟨_, _, _, _, rfl, h1, c1, v⟩
  | @ref n a h1 =>
    unfold clsOf at h
    simp only at h
    cases q : μ[n]? with
    | none => rw [q] at h; cases h
    | some ob =>
      rw [q] at h
      obtain ⟨ho, e1, r1⟩ := m.at_ n ob a q h1
      cases r1 with
      | ins r l c v => cases h; exact ⟨_, _, _, _, rfl, e1, c, v⟩
      | lst _ => cases h
      | dct _ _ => cases h
  | _ => cases h
theorem lookup_no {f : Str} : ∀ {as : List Str} {vs : List V}, (∀ a ∈ as, a ≠ f) → (as.zip vs).lookup f = none
  | [], _, _ => rfl
  | _ :: _, [], _ => rfl
  | a :: as, v :: vs, h => by
    rw [List.zip_cons_cons, List.lookup_cons]
    have e : (f == a) = false := by
      cases q : f == a with
      | false => rfl
      | true => exact absurd (beq_iff_eq.mp q).symm (h a List.mem_cons_self)
    rw [e]
    exact lookup_no fun b hb => h b (List.mem_cons_of_mem _ hb)
theorem s_meth0 (g : Gd G N sc k W X) {fk : Fk T G pg} (hF : ∀ f, FnC T G pg fk cf k f) {m : Nat} {x : Expr} {a : IE} {p cp : Pos} (hv : T.vm m = true) (hs : noSuper x = true) (hl : (p.endLine == cp.line) = true) (ha : PE X x (tE G W pg cf false a)) :
    PE X (.Call (.Attribute x (T.mnm m) p) [] [] cp) (tE G W pg cf o (.meth m a)) := by
  refine ⟨fun pins s σ H Q I h => ?_⟩
  obtain ⟨B, ss, μ, F, ι, R, h⟩ := h
  have h := rdE_iff.mp h
  unfold evE at h
  have run := ha.run pins s σ H (fun v H1 => ∃ (ad dx : Addr) (c f : Nat) (as : List Nat) (vs : List V) (d : D) (μ1 : Store) (F1 : Addr → Prop) (ι1 : List Addr), v = .ref ad ∧ H1 ad = some (.ins (G.ca c) dx ((as.map G.at_).zip vs)) ∧ G.vc c = true ∧ (∀ a ∈ as, G.va a = true) ∧ pg.meth c m = some f ∧
      Wld F1 ι1 H1 ∧ RelM G F1 μ1 ι1 H1 ∧ Rp G F1 ι1 H1 d v ∧ rdX G W σ F1 ι1 H1 (KV G o Q) (cf f [d] μ1)) I (seqE R h fun d μ1 v F1 ι1 H1 _ s1 R1 r1 h1 => by
    cases e : (clsOf μ1 d).bind fun c => pg.meth c m with
    | none => rw [e] at h1; exact h1.elim
    | some f =>
      rw [e] at h1
      obtain ⟨c, e1, e2⟩ := Option.bind_eq_some_iff.mp e
      obtain ⟨ad, dx, as, vs, ev, hx, hc, hva⟩ := cls_insF R1.w R1.m r1.rp e1
      exact ⟨ad, dx, c, f, as, vs, d, μ1, F1, ι1, ev, hx, hc, hva, e2, R1.w, R1.m, r1.rp, h1⟩)
  refine PySem.W.methodCall_KW (pl := plainOf x X.env) (thn run fun u s1 ⟨v, H1, I1, rv, ad, dx, c, f, as, vs, d, μ1, F1, ι1, ev, hx, hc, hva, e2, w, mm, r1, h1⟩ => ?_) (mcall_of (base_plain hs) fun ov => mcall_line rfl hl)
  subst ev
  obtain rfl : u = Value.ref ad := rv
  obtain ⟨hm, hpo⟩ := fk.mth c m f e2
  have hcl := fk.cls c hc
  rw [← g.K] at hm hcl
  have hno : ((as.map G.at_).zip vs).lookup (T.mnm m) = none := lookup_no fun z hz => by
    obtain ⟨b, hb, rfl⟩ := List.mem_map.mp hz
    have q := fk.mna m b hv (hva b hb)
    rw [fk.att]
    exact q
  refine getmeth_ok I1 hx hcl hm hno ?_
  refine PySem.W.callWith_K0 (first := [.ref ad]) I1.kIn hm.kp ?_
  have hc := rdC_of h1
  have hl2 : ([Value.ref ad] : List Value).length = (fk.ps f).length := by rw [fk.psl]; exact (hF f).len _ _ (rdC_ne hc)
  exact wpAny_call (run_fnG (ws := [.ref ad]) (vs := [.ref ad]) g (hF f) I1 (.of_eq (fk.bnd f hpo [.ref ad] hl2)) (.cons (show RelV (V.ref ad) (Value.ref ad) from rfl) .nil) w mm (.cons r1 .nil) hc)
end
end T
end

section
namespace T
open PySem PySem.Spec PyProof.Rows HT

/-! ### t[::-1] -/
section
variable {prog : Program} {w : World} {A : Around} {E : Value → Shared → Prop} {s : Shared}
theorem adjust_rev (n : Nat) : Builtin.Slice.sliceAdjust none none (-1) (n : Int) = ((n : Int) - 1, -1) := by
  rfl
theorem places_rev (n : Nat) : Builtin.Slice.slicePlaces ((n : Int) - 1) (-1) (-1) = n := by
  unfold Builtin.Slice.slicePlaces
  have h1 : ¬ ((-1 : Int) > 0) := by omega
  simp only [h1, if_false]
  have h2 : -(-1 : Int) = 1 := by decide
  rw [h2, Int.ediv_one]
  split <;> omega
theorem sliceApplied_rev {sl : Addr} {st : Value} {n : Nat} {Q : Int × Int × Nat → Shared → Prop} (hs : s.heap.IsSliceOf sl .none .none st) (ps : IsPart st (some (-1)))
    (h : Q ((n : Int) - 1, -1, n) s) : wpAny (model prog w) A (Builtin.Slice.sliceApplied (.ref sl) (pure (n : Int))) Q E s := by
  obtain ⟨os, hos, hcs, hds⟩ := id hs
  unfold Builtin.Slice.sliceApplied Builtin.Slice.sliceFields
  refine wpAny_bind (wpAny_bind (wpAny_field hos hds (x := .none) rfl (wpAny_bind (wpAny_field hos hds (x := .none) rfl (wpAny_bind (wpAny_field hos hds (x := st) rfl (wpAny_pure ?_)))))))
  refine wpAny_bind (slicePart_ ps ?_)
  show wpAny _ _ (if ((-1 : Int) == 0) = true then _ else _) _ _ s
  rw [if_neg (by decide)]
  refine wpAny_bind (slicePart_none (wpAny_bind (slicePart_none (wpAny_bind (wpAny_pure ?_)))))
  show wpAny _ _ (match Builtin.Slice.sliceAdjust none none (-1) (n : Int) with | (lo, hi) => pure (lo, (-1 : Int), Builtin.Slice.slicePlaces lo hi (-1))) _ _ s
  rw [adjust_rev n]
  show wpAny _ _ (pure ((n : Int) - 1, (-1 : Int), Builtin.Slice.slicePlaces ((n : Int) - 1) (-1) (-1))) _ _ s
  rw [places_rev]
  exact wpAny_pure h
theorem fm_ext {α β : Type} {f g : α → Option β} : ∀ {l : List α}, (∀ x ∈ l, f x = g x) → l.filterMap f = l.filterMap g
  | [], _ => rfl
  | x :: l, h => by
    rw [List.filterMap_cons, List.filterMap_cons, h x List.mem_cons_self, fm_ext fun y hy => h y (List.mem_cons_of_mem _ hy)]
theorem fm_get {α : Type} : ∀ ys : List α, (List.range ys.length).filterMap (fun m => ys[m]?) = ys
  | [] => rfl
  | y :: ys => by
    rw [List.length_cons, List.range_succ_eq_map, List.filterMap_cons]
    simp only [List.getElem?_cons_zero, List.filterMap_map]
    exact congrArg (y :: ·) (fm_get ys)
theorem pick_rev (xs : Array Value) : ((List.range xs.size).filterMap fun (m : Nat) => xs[((xs.size : Int) - 1 + (m : Int) * (-1)).toNat]?).toArray = xs.toList.reverse.toArray := by
  congr 1
  have e : (List.range xs.size).filterMap (fun (m : Nat) => xs[((xs.size : Int) - 1 + (m : Int) * (-1)).toNat]?) = (List.range xs.size).filterMap (fun m => xs.toList.reverse[m]?) := by
    refine fm_ext fun m hm => ?_
    have hlt : m < xs.size := List.mem_range.mp hm
    have h1 : ((xs.size : Int) - 1 + (m : Int) * (-1)).toNat = xs.size - 1 - m := by omega
    rw [h1, List.getElem?_reverse (by simpa using hlt), Array.length_toList, Array.getElem?_toList]
  rw [e]
  have hl : xs.size = xs.toList.reverse.length := by simp
  rw [hl]
  exact fm_get _
theorem getItem_tuple_rev {t sl : Addr} {items : Array Value} {st : Value} {Q : Value → Shared → Prop} (ht : IsTup s.heap t items) (hs : s.heap.IsSliceOf sl .none .none st) (ps : IsPart st (some (-1)))
    (h : Q (.ref s.heap.objs.size) { s with heap := s.heap.push { cls := .type "tuple", data := .seq items.toList.reverse.toArray } })
    (hsz : items.size ≤ sizeLine) : wpAny (model prog w) A (getItem (.ref t) (.ref sl)) Q E s := by
  have htake : sizeOk (.seq items.toList.reverse.toArray) := by
    show items.toList.reverse.toArray.size ≤ sizeLine
    simpa using hsz
  obtain ⟨os, hos, hcs, hds⟩ := id hs
  have hTs : s.TypeIs (.ref sl) "slice" := ⟨os, hos, hcs⟩
  unfold getItem
  try with_reducible refine wpAny_holding ?_
  first | refine wpAny_bind (wpAny_pure ?_) | skip
  refine wpAny_bind (wpAny_sequenceKey ht.typeIs (by decide) ?_)
  refine wpAny_bind (wpAny_callSpecial?_slot (name := Str.ofString "__getitem__") ht.typeIs PyProof.Rows.slot_tuple_getitem
    (wpAny_call_entry PyProof.Rows.slot_tuple_getitem ht.typeIs entry_tuple_getitem ?_ (args_tuple_getitem _ _)))
  show wpAny _ _ (Builtin.Tuple.tupleItemsOf (.ref t) >>= _) _ _ s
  refine wpAny_bind (tupleItemsOf_ ht ?_)
  refine wpAny_bind (wpAny_typeOf hTs ?_)
  rw [if_pos (by decide)]
  refine wpAny_bind (sliceApplied_rev hs ps ?_)
  have hno : ¬ ((((items.size : Int) - 1) == 0 && (-1 : Int) == 1 && items.size == items.size) = true) := by
    simp
  show wpAny _ _ (if (((items.size : Int) - 1) == 0 && (-1 : Int) == 1 && items.size == items.size) = true then _ else _) _ _ s
  rw [if_neg hno, pick_rev]
  first
    | exact wpAny_bind (m := Builtin.Tuple.tupleExact _) (wpAny_newObj_type (wpAny_pure ⟨_, rfl, wpAny_pure h⟩) htake)
    | exact wpAny_bind (m := Builtin.Tuple.tupleExact _) (wpAny_newObj_type (wpAny_bind (wpAny_pure (wpAny_pure ⟨_, rfl, wpAny_pure h⟩))) htake)
    | exact wpAny_bind (wpAny_bind (m := Builtin.Tuple.tupleExact _) (wpAny_newObj_type (wpAny_pure (wpAny_pure ⟨_, rfl, wpAny_pure h⟩)) htake))
    | exact wpAny_bind (wpAny_bind (m := Builtin.Tuple.tupleExact _) (wpAny_newObj_type (wpAny_pure ⟨_, rfl, wpAny_pure h⟩) htake))
end
end T
end

section
namespace T
open PySem PySem.Spec L2

section
variable {G : Glo} {N : List Str} {sc : Scope} {k : Nat} {W : WX} {X : Cx} {pg : Pg} {cf : CF} {o : Bool} {pos : Pos} {T : Tbl}
variable {F F2 : Addr → Prop} {ι : List Addr} {H H0 : Hp} {B : Ent} {ss : Slots} {μ : Store} {σ : St}

theorem Rps.snoc {d : D} {v : V} : ∀ {ds : List D} {vs : List V}, Rps G F ι H ds vs → Rp G F ι H d v → Rps G F ι H (ds ++ [d]) (vs ++ [v])
  | _, _, .nil, r => .cons r .nil
  | _, _, .cons h t, r => .cons h (Rps.snoc t r)
theorem Rps.reverse : ∀ {ds : List D} {vs : List V}, Rps G F ι H ds vs → Rps G F ι H ds.reverse vs.reverse
  | _, _, .nil => .nil
  | _, _, .cons h t => by
    rw [List.reverse_cons, List.reverse_cons]
    exact Rps.snoc (Rps.reverse t) h
theorem s_rev (g : Gd G N sc k W X) {x : Expr} {a : IE} {k0 : Nat} {p1 p2 p3 : Pos} (ha : PE X x (tE G W pg cf true a)) :
    PE X (.Subscript x (.Slice none none (some (.UnaryOp .USub (.Constant (.int 1) k0 p1) p2)) p3) pos) (tE G W pg cf o (.rev a)) := by
  refine ⟨fun pins s σ H Q I h => ?_⟩
  obtain ⟨B, ss, μ, F, ι, R, h⟩ := h
  have h := rdE_iff.mp h
  unfold evE at h
  have run := ha.run pins s σ H (fun v H1 => ∃ a vs, v = .ref a ∧ SqT X.K H1 a vs ∧ ∀ p, H1 p = none → Q (.ref p) (upd H1 p (.tup vs.reverse))) I (seqE R h fun d μ1 v F1 ι1 H1 _ s1 R1 r1 h1 => by
    cases d with
    | tup ds =>
      obtain ⟨a, vs, rfl, ht, rs⟩ := r1.tup_inv
      refine ⟨a, vs, rfl, by rw [g.K]; exact ht, fun p hp => rdX_ext h1 R1.w R1.m (ext_upd hp) (.tup (.inl (.inl upd_same)) ?_)⟩
      have rs := Rps.step R1.w (Stp.ext R1.w (ext_upd hp)) rs (H' := upd H1 p (.tup vs.reverse))
      exact rs.reverse
    | _ => exact h1.elim)
  refine PyProof.Rows.Subscript_ (thn run fun v s1 ⟨x, H1, I1, r1, q1⟩ => ?_)
  obtain ⟨a, xs, ex, hx, q⟩ := q1
  subst ex
  cases r1
  have hst : PO X (some (.UnaryOp .USub (.Constant (.int 1) k0 p1) p2)) (tPart (tUn (rU fun i => .int (-i)) (tC (.int 1)))) := po_some (pe_un un_neg pe_int)
  refine wpAny_Slice (thn (po_none.run pins s1 σ H1 (fun o H2 => o = none ∧ H2 = H1) I1 ⟨rfl, rfl⟩) fun vl s2 ⟨l, H2, I2, pl, el, e2⟩ => ?_)
  subst el e2
  refine thn (po_none.run pins s2 σ H2 (fun o H3 => o = none ∧ H3 = H2) I2 ⟨rfl, rfl⟩) fun vu s3 ⟨u, H3, I3, pu, eu, e3⟩ => ?_
  subst eu e3
  refine thn (hst.run pins s3 σ H3 (fun o H4 => o = some (-1) ∧ H4 = H3) I3 ⟨1, rfl, -1, rfl, rfl, rfl⟩) fun vs s4 ⟨o, H4, I4, ps, eo, e4⟩ => ?_
  subst eo e4
  cases pl
  cases pu
  have I5 : Inv X pins σ H4 { s4 with heap := s4.heap.push { cls := .type "slice", data := .fields #[.none, .none, vs] } } := I4.kept (t' := s4.toks) fun b ob q => Heap.get?_push_of_some _ q
  obtain ⟨its, r, ht, hz⟩ := I5.tuple hx
  have hlen := r.length
  show wpAny (model X.prog X.w) X.A (PyProof.Rows.subscriptTail x (.Slice none none (some (.UnaryOp .USub (.Constant (.int 1) k0 p1) p2)) p3) (.ref a) (.ref s4.heap.objs.size)) (EP X pins σ Q) X.xe { s4 with heap := s4.heap.push { cls := .type "slice", data := .fields #[.none, .none, vs] } }
  refine PyProof.Rows.tail_any (ops := [.ref a, .ref s4.heap.objs.size]) ht.typeIs (PyProof.Rows.slot_tuple_getitem.lookup) ?_ (by with_unfolding_all rfl)
  refine getItem_tuple_rev ht (Heap.IsSliceOf.new _ .none .none vs) ps ?_ (by rw [List.size_toArray]; omega)
  refine ⟨.ref _, _, I5.laid (t' := s4.toks) (o := .tup xs.reverse) (fun b ob q => Heap.get?_push_of_some _ q) (Nat.le_refl _) ?_, rfl, q _ (I5.hok.fresh (Nat.le_refl _))⟩
  exact ⟨by rw [List.length_reverse]; exact hz, _, r.reverse, PyProof.Rows.IsTup.new _ _⟩

/-! ### more is frozen, more is shared -/
section
variable {ι2 : List Addr} 
mutual
theorem Rp.up (hF : ∀ a, F a → F2 a) (hI : ∀ (n : Nat) (a : Addr), ι[n]? = some a → ι2[n]? = some a) : ∀ {d : D} {v : V}, Rp G F ι H d v → Rp G F2 ι2 H d v
  | _, _, .non => .non
  | _, _, .bl b => .bl b
  | _, _, .int i => .int i
  | _, _, .str x => .str x
  | _, _, .tup t r => .tup t (Rps.up hF hI r)
  | _, _, .lst f t r => .lst (hF _ f) t (Rps.up hF hI r)
  | _, _, .ro t r => .ro t (Rps.up hF hI r)
  | _, _, .dct f t l r => .dct (hF _ f) t l (Rps.up hF hI r)
  | _, _, .ins f t l c v r => .ins (hF _ f) t l c v (Rps.up hF hI r)
  | _, _, .ref e => .ref (hI _ _ e)
theorem Rps.up (hF : ∀ a, F a → F2 a) (hI : ∀ (n : Nat) (a : Addr), ι[n]? = some a → ι2[n]? = some a) : ∀ {ds : List D} {vs : List V}, Rps G F ι H ds vs → Rps G F2 ι2 H ds vs
  | _, _, .nil => .nil
  | _, _, .cons r t => .cons (Rp.up hF hI r) (Rps.up hF hI t)
end
theorem RpO.up (hF : ∀ a, F a → F2 a) (hI : ∀ (n : Nat) (a : Addr), ι[n]? = some a → ι2[n]? = some a) {ob : Ob} {ho : HO} (r : RpO G F ι H ob ho) : RpO G F2 ι2 H ob ho := by
  cases r with
  | lst r => exact .lst (r.up hF hI)
  | dct r l => exact .dct (r.up hF hI) l
  | ins r l c v => exact .ins (r.up hF hI) l c v
end
theorem Rp.mono (hF : ∀ a, F a → F2 a) {d : D} {v : V} (r : Rp G F ι H d v) : Rp G F2 ι H d v := r.up hF fun _ _ e => e
theorem Rps.mono (hF : ∀ a, F a → F2 a) {d : List D} {v : List V} (r : Rps G F ι H d v) : Rps G F2 ι H d v := r.up hF fun _ _ e => e
theorem RpO.mono (hF : ∀ a, F a → F2 a) {ob : Ob} {ho : HO} (r : RpO G F ι H ob ho) : RpO G F2 ι H ob ho := r.up hF fun _ _ e => e
theorem RelM.mono (hF : ∀ a, F a → F2 a) (m : RelM G F μ ι H) : RelM G F2 μ ι H := ⟨m.len, fun n o a h1 h2 => by
  obtain ⟨ho, e, r⟩ := m.at_ n o a h1 h2
  exact ⟨ho, e, r.mono hF⟩⟩
theorem idx_app {ι more : List Addr} (n : Nat) (a : Addr) (h : ι[n]? = some a) : (ι ++ more)[n]? = some a := by
  rw [List.getElem?_append_left (List.getElem?_eq_some_iff.mp h).1]
  exact h
/-- one more object is the store's -/
theorem RelM.push (m : RelM G F μ ι H) {ob : Ob} {ho : HO} {p : Addr} (hp : H p = some ho) (r : RpO G F ι H ob ho) : RelM G F (μ ++ [ob]) (ι ++ [p]) H := by
  refine ⟨by simp [m.len], fun n o a h1 h2 => ?_⟩
  by_cases hn : n < μ.length
  · rw [List.getElem?_append_left hn] at h1
    rw [List.getElem?_append_left (by rw [← m.len]; exact hn)] at h2
    obtain ⟨ho, e, r⟩ := m.at_ n o a h1 h2
    exact ⟨ho, e, r.up (fun _ z => z) idx_app⟩
  · have hn' : n = μ.length := by
      have := (List.getElem?_eq_some_iff.mp h1).1
      simp at this
      omega
    subst hn'
    rw [List.getElem?_append_right (Nat.le_refl _)] at h1
    rw [m.len, List.getElem?_append_right (Nat.le_refl _)] at h2
    simp at h1 h2
    subst h1 h2
    exact ⟨ho, hp, r.up (fun _ z => z) idx_app⟩
theorem Wld.push (w : Wld F ι H) {ho : HO} {p : Addr} (hp : H p = some ho) (hm : MutO ho) (hn : p ∉ ι) (hf : ¬ F p) : Wld F (ι ++ [p]) H := by
  refine ⟨List.nodup_append.mpr ⟨w.nd, by simp, fun a ha b hb => ?_⟩, fun a ha => ?_, fun a ha => ?_, w.dom⟩
  · simp only [List.mem_singleton] at hb
    subst hb
    exact fun e => hn (e ▸ ha)
  · rcases List.mem_append.mp ha with ha | ha
    · exact w.mu a ha
    · simp only [List.mem_singleton] at ha
      subst ha
      exact ⟨_, hp, hm⟩
  · rcases List.mem_append.mp ha with ha | ha
    · exact w.dis a ha
    · simp only [List.mem_singleton] at ha
      subst ha
      exact hf

/-! ### new lists -/
/-- what is wanted of a new list; H0: the heap ahead of the expression -/
def KL (G : Glo) (H0 : Hp) (Q : VK) : List D → Store → (Addr → Prop) → List Addr → Hp → Prop := fun ds _ F ι H => ∀ p vs, H0 p = none → H p = some (.lst vs) → ¬ F p → p ∉ ι → Rps G F ι H ds vs → Q (.ref p) H
theorem rdL_iff {Q : VK} {r : Res (List D)} : rdL G W σ F ι H Q r ↔ rdX G W σ F ι H (KL G H Q) r := by
  cases r with
  | ok ds μ' => exact ⟨fun h F' ι' H' s w m p vs h0 h1 h2 h3 h4 => h p vs F' ι' H' s w m h0 h1 h2 h3 h4, fun h p vs F' ι' H' s w m h0 h1 h2 h3 h4 => h F' ι' H' s w m p vs h0 h1 h2 h3 h4⟩
  | exn x μ' => exact Iff.rfl
  | bad => exact Iff.rfl
theorem rdL_fin {Q : VK} {ds : List D} {vs : List V} {p : Addr} (h : rdX G W σ F ι H (KL G H0 Q) (.ok ds μ)) (w : Wld F ι H) (m : RelM G F μ ι H) (r : Rps G F ι H ds vs) (h0 : H0 p = none) (hp : H p = none) : Q (.ref p) (upd H p (.lst vs)) :=
  h F ι _ (Stp.ext w (ext_upd hp)) (w.ext (ext_upd hp)) (m.ext w (ext_upd hp)) p vs h0 upd_same (fun z => w.dom p z hp) (fun z => by
    obtain ⟨ob, e, _⟩ := w.mu p z
    rw [hp] at e
    cases e) (Rps.step w (Stp.ext w (ext_upd hp)) r)

theorem s_lst_fz {e : Expr} {l : IL} (hl : PE X e (tL G W pg cf l)) : PE X e (tE G W pg cf o (.lst .fz l)) := by
  refine ⟨fun pins s σ H Q I h => ?_⟩
  obtain ⟨B, ss, μ, F, ι, R, h⟩ := h
  refine hl.run pins s σ H Q I ⟨B, ss, μ, F, ι, R, ?_⟩
  unfold evE at h
  cases e : evL pg cf l ss μ with
  | ok ds μ' =>
    rw [e] at h
    intro p vs F' ι' H' s w m h0 h1 h2 h3 h4
    refine h (.ref p) (fun a => F' a ∨ a = p) ι' H' ⟨fun a z => .inl (s.up a z), fun a z => ?_, s.pre, s.keep, s.dom⟩ ⟨w.nd, w.mu, fun a ha z => ?_, fun a z => ?_⟩ (m.mono fun a z => .inl z) (.of (.lst (.inr rfl) h1 (h4.mono fun a z => .inl z)))
    · rcases z with z | z
      · exact s.new a z
      · subst z; exact .inr h0
    · rcases z with z | z
      · exact w.dis a ha z
      · subst z; exact h3 ha
    · rcases z with z | z
      · exact w.dom a z
      · subst z; rw [h1]; simp
  | exn x μ' => rw [e] at h; exact h
  | bad => rw [e] at h; exact h
theorem s_lst_sh {e : Expr} {l : IL} (hl : PE X e (tL G W pg cf l)) : PE X e (tE G W pg cf o (.lst .sh l)) := by
  refine ⟨fun pins s σ H Q I h => ?_⟩
  obtain ⟨B, ss, μ, F, ι, R, h⟩ := h
  refine hl.run pins s σ H Q I ⟨B, ss, μ, F, ι, R, ?_⟩
  unfold evE at h
  cases e : evL pg cf l ss μ with
  | ok ds μ' =>
    rw [e] at h
    intro p vs F' ι' H' s w m h0 h1 h2 h3 h4
    have st : Stp F ι H F' (ι' ++ [p]) H' := by
      refine ⟨s.up, s.new, ?_, s.keep, s.dom⟩
      obtain ⟨more, e1, e2⟩ := s.pre
      refine ⟨more ++ [p], by rw [e1, List.append_assoc], fun a ha => ?_⟩
      rcases List.mem_append.mp ha with ha | ha
      · exact e2 a ha
      · simp only [List.mem_singleton] at ha; subst ha; exact h0
    exact h (.ref p) F' (ι' ++ [p]) H' st (w.push h1 trivial h3 h2) (m.push h1 (.lst h4)) (.of (.ref (by rw [m.len, List.getElem?_append_right (Nat.le_refl _)]; simp)))
  | exn x μ' => rw [e] at h; exact h
  | bad => rw [e] at h; exact h

/-! ### forms of new lists -/
/-- a new list at the end of an expression's reading -/
theorem sl_disp {xs : List Expr} {es : IEs} (hl : es.len ≤ 1000) (ha : L2.PA X xs (tEs G W pg cf false es)) : PE X (.List xs pos) (tL G W pg cf (.disp es)) := by
  refine ⟨fun pins s σ H Q I h => ?_⟩
  obtain ⟨B, ss, μ, F, ι, R, h⟩ := h
  refine (pe_lst ha).run pins s σ H Q I ?_
  have h := rdL_iff.mp h
  unfold evL at h
  have h : rdX G W σ F ι H (KL G H Q) ((evEs pg cf false es ss μ).bind fun ds μ1 => .ok ds μ1) := by
    cases e : evEs pg cf false es ss μ <;> (rw [e] at h; exact h)
  refine seqEs R h fun ds μ1 vs F1 ι1 H1 e s1 R1 r1 h1 => ⟨?_, fun p hp => ?_⟩
  · rw [← r1.length, evEs_len e, sizeLine_eq]
    omega
  · exact rdL_fin h1 R1.w R1.m r1.rps (s1.none hp) hp
/-- a list that stands as a list of our own, tracked -/
theorem lview_lst (w : Wld F ι H) (m : RelM G F μ ι H) {d : D} {v : V} {ds : List D} (r : Rq G F ι H o d v) (e : lview μ d = some ds) : ∃ a vs, v = .ref a ∧ H a = some (.lst vs) ∧ Rps G F ι H ds vs := Rq.lview w m r e
theorem sl_slc (g : Gd G N sc k W X) {x : Expr} {l h : Option Expr} {a : IE} {lo hi : IO} {p2 : Pos} (ha : PE X x (tE G W pg cf true a)) (hl : PO X l (tO G W pg cf lo)) (hh : PO X h (tO G W pg cf hi)) :
    PE X (.Subscript x (.Slice l h none p2) pos) (tL G W pg cf (.slc a lo hi)) := by
  refine ⟨fun pins s σ H Q I hq => ?_⟩
  obtain ⟨B, ss, μ, F, ι, R, hq⟩ := hq
  refine (pe_slice sl_list ha hl hh).run pins s σ H Q I ?_
  have hq := rdL_iff.mp hq
  unfold evL at hq
  refine seqE R hq fun d μ1 v F1 ι1 H1 _ s1 R1 r1 h1 => seqO R1 h1 fun lo μ2 F2 ι2 H2 s2 R2 h2 => seqO R2 h2 fun hi μ3 F3 ι3 H3 s3 R3 h3 => ?_
  have r1 := Rq.step R2.w s3 (Rq.step R1.w s2 r1)
  cases e : lview μ3 d with
  | none => rw [e] at h3; exact h3.elim
  | some ds =>
    rw [e] at h3
    obtain ⟨a, vs, rfl, hs, rs⟩ := Rq.lview R3.w R3.m r1 e
    exact ⟨a, vs, rfl, .inl (.inl hs), fun p hp => rdL_fin h3 R3.w R3.m (rs.cut lo hi) (s1.none (s2.none (s3.none hp))) hp⟩
theorem sl_rev (g : Gd G N sc k W X) {x : Expr} {a : IE} {k0 : Nat} {p1 p2 p3 : Pos} (ha : PE X x (tE G W pg cf true a)) :
    PE X (.Subscript x (.Slice none none (some (.UnaryOp .USub (.Constant (.int 1) k0 p1) p2)) p3) pos) (tL G W pg cf (.rev a)) := by
  refine ⟨fun pins s σ H Q I hq => ?_⟩
  obtain ⟨B, ss, μ, F, ι, R, hq⟩ := hq
  refine (pe_revL ha).run pins s σ H Q I ?_
  have hq := rdL_iff.mp hq
  unfold evL at hq
  refine seqE R hq fun d μ1 v F1 ι1 H1 _ s1 R1 r1 h1 => ?_
  cases e : lview μ1 d with
  | none => rw [e] at h1; exact h1.elim
  | some ds =>
    rw [e] at h1
    obtain ⟨a, vs, rfl, hs, rs⟩ := Rq.lview R1.w R1.m r1 e
    exact ⟨a, vs, rfl, .inl (.inl hs), fun p hp => rdL_fin h1 R1.w R1.m rs.reverse (s1.none hp) hp⟩
theorem sl_listOf (g : Gd G N sc k W X) (fk : Fk T G pg) {x : Expr} {a : IE} {p : Pos} (hg : Gl X "list") (hp : plainA x = true) (ha : PE X x (tE G W pg cf true a)) :
    PE X (.Call (.Name "list" p) [x] [] pos) (tL G W pg cf (.listOf a)) := by
  refine ⟨fun pins s σ H Q I hq => ?_⟩
  obtain ⟨B, ss, μ, F, ι, R, hq⟩ := hq
  refine (pe_callTy call_list_of hg (fk.bl1 g (by decide)) (by decide +kernel) (pa_cons ha pa_nil (starEach_cons hp)) (by decide) (by decide) (starEach_cons hp) (starEach_any (by simp))).run pins s σ H Q I ?_
  have hq := rdL_iff.mp hq
  unfold evL at hq
  refine seqE R hq fun d μ1 v F1 ι1 H1 _ s1 R1 r1 h1 => ?_
  cases e : sview μ1 d with
  | none => rw [e] at h1; exact h1.elim
  | some ds =>
    rw [e] at h1
    obtain ⟨a, vs, rfl, hs, rs⟩ := Rq.sview R1.w R1.m r1 e
    refine ⟨a, vs, rfl, ?_, fun p hp => rdL_fin h1 R1.w R1.m rs (s1.none hp) hp⟩
    rcases hs with hs | hs
    · exact .inl (by rw [g.K]; exact hs)
    · exact .inr (by rw [g.K]; exact hs)
theorem sl_cat (g : Gd G N sc k W X) {x y : Expr} {a b : IE} (ha : PE X x (tE G W pg cf true a)) (hb : PE X y (tE G W pg cf true b)) : PE X (.BinOp x .Add y pos) (tL G W pg cf (.cat a b)) := by
  refine ⟨fun pins s σ H Q I hq => ?_⟩
  obtain ⟨B, ss, μ, F, ι, R, hq⟩ := hq
  refine (pe_op op_cat ha hb).run pins s σ H Q I ?_
  have hq := rdL_iff.mp hq
  unfold evL at hq
  refine seqE R hq fun d μ1 v F1 ι1 H1 _ s1 R1 r1 h1 => seqE R1 h1 fun e μ2 u F2 ι2 H2 _ s2 R2 r2 h2 => ?_
  have r1 := Rq.step R1.w s2 r1
  cases e1 : lview μ2 d with
  | none => rw [e1] at h2; exact h2.elim
  | some ds =>
    cases e2 : lview μ2 e with
    | none => rw [e1, e2] at h2; exact h2.elim
    | some es =>
      rw [e1, e2] at h2
      simp only at h2
      split at h2
      · obtain ⟨a1, vs, rfl, hs, rs⟩ := Rq.lview R2.w R2.m r1 e1
        obtain ⟨a2, us, rfl, hs2, rs2⟩ := Rq.lview R2.w R2.m r2 e2
        exact ⟨a1, a2, vs, us, rfl, rfl, hs, hs2, by rw [← rs.length, ← rs2.length]; assumption, fun p hp => rdL_fin h2 R2.w R2.m (rs.append rs2) (s1.none (s2.none hp)) hp⟩
      · exact h2.elim
theorem sl_rep (g : Gd G N sc k W X) {x y : Expr} {a b : IE} (ha : PE X x (tE G W pg cf true a)) (hb : PE X y (tE G W pg cf false b)) : PE X (.BinOp x .Mult y pos) (tL G W pg cf (.rep a b)) := by
  refine ⟨fun pins s σ H Q I hq => ?_⟩
  obtain ⟨B, ss, μ, F, ι, R, hq⟩ := hq
  refine (pe_op op_rep ha hb).run pins s σ H Q I ?_
  have hq := rdL_iff.mp hq
  unfold evL at hq
  refine seqE R hq fun d μ1 v F1 ι1 H1 _ s1 R1 r1 h1 => seqE R1 h1 fun e μ2 u F2 ι2 H2 _ s2 R2 r2 h2 => ?_
  have r1 := Rq.step R1.w s2 r1
  cases e1 : lview μ2 d with
  | none => rw [e1] at h2; exact h2.elim
  | some ds =>
    rw [e1] at h2
    cases e with
    | int kk =>
      simp only at h2
      split at h2
      · rename_i hc
        obtain ⟨a1, vs, rfl, hs, rs⟩ := Rq.lview R2.w R2.m r1 e1
        have := r2.int_inv
        subst this
        exact ⟨a1, kk, vs, rfl, rfl, hs, hc.1, hc.2.1, by rw [← rs.length]; exact hc.2.2, fun p hp => rdL_fin h2 R2.w R2.m (rs.rep _) (s1.none (s2.none hp)) hp⟩
      · exact h2.elim
    | _ => exact h2.elim
end
end T
end

section
namespace T
open PySem PySem.Spec L2
section
variable {G : Glo} {N : List Str} {sc : Scope} {k : Nat} {W : WX} {X : Cx} {pg : Pg} {cf : CF} {o : Bool} {pos : Pos} {T : Tbl}
variable {F F2 : Addr → Prop} {ι : List Addr} {H H0 : Hp} {B : Ent} {ss : Slots} {μ : Store} {σ : St}
/-- list(range(a)) -/
theorem sl_listRg (g : Gd G N sc k W X) (fk : Fk T G pg) {x : Expr} {a : IE} {p p2 p3 : Pos} (hg : Gl X "list") (hg2 : Gl X "range") (hp : plainA x = true) (ha : PE X x (tE G W pg cf false a)) :
    PE X (.Call (.Name "list" p) [.Call (.Name "range" p2) [x] [] p3] [] pos) (tL G W pg cf (.listRg a)) := by
  refine ⟨fun pins s σ H Q I hq => ?_⟩
  obtain ⟨B, ss, μ, F, ι, R, hq⟩ := hq
  have hr : PRg X (.Call (.Name "range" p2) [x] [] p3) (tRg1 (tE G W pg cf false a)) := prg_1 hg2 (fk.bl1 g (by decide)) ha (starEach_cons hp)
  refine (pe_listRg g.calm hg (fk.bl1 g (by decide)) hr rfl).run pins s σ H Q I ?_
  have hq := rdL_iff.mp hq
  unfold evL at hq
  refine seqE R hq fun d μ1 v F1 ι1 H1 _ s1 R1 r1 h1 => ?_
  cases d with
  | int n =>
    have := r1.int_inv
    subst this
    simp only at h1
    split at h1
    · rename_i hc
      refine ⟨n, rfl, ⟨by omega, by omega, by omega, by omega, by omega⟩, fun q hq => ?_⟩
      have := rdL_fin (vs := rgV 0 n) h1 R1.w R1.m ?_ (s1.none hq) hq
      · exact this
      · unfold rgV
        rw [show (n - 0).toNat = n.toNat by omega]
        generalize List.range n.toNat = l
        induction l with
        | nil => exact .nil
        | cons i l ih => exact .cons (.int _) ih
    · exact h1.elim
  | _ => exact h1.elim
theorem sorted_uniq {is ns : List Int} (hs : ns.Pairwise (· < ·)) (hm : ∀ k, k ∈ ns ↔ k ∈ is) : ns = is.eraseDups.mergeSort (fun a b => decide (a ≤ b)) := by
  have nd : ns.Nodup := hs.imp fun h => by omega
  have p : ns.Perm (is.eraseDups.mergeSort (fun a b => decide (a ≤ b))) := by
    refine List.Perm.trans ?_ (List.mergeSort_perm _ _).symm
    exact (List.perm_ext_iff_of_nodup nd (nodup_ed _ _ (Nat.le_refl _))).mpr fun k => by rw [hm k, List.mem_eraseDups]
  refine List.Perm.eq_of_pairwise (le := fun a b => a ≤ b) (fun a b _ _ h1 h2 => by omega) (hs.imp fun h => by omega) ?_ p
  have := List.pairwise_mergeSort (le := fun a b : Int => decide (a ≤ b)) (fun a b c h1 h2 => by simp at *; omega) (fun a b => by simp; omega) is.eraseDups
  exact this.imp fun h => by simpa using h
/-- sorted(set(a)) -/
theorem sl_sortset (g : Gd G N sc k W X) (fk : Fk T G pg) {x : Expr} {a : IE} {p p2 p3 : Pos} (hg : Gl X "sorted") (hg2 : Gl X "set") (hp : plainA x = true) (ha : PE X x (tE G W pg cf true a)) :
    PE X (.Call (.Name "sorted" p) [.Call (.Name "set" p2) [x] [] p3] [] pos) (tL G W pg cf (.sortset a)) := by
  refine ⟨fun pins s σ H Q I hq => ?_⟩
  obtain ⟨B, ss, μ, F, ι, R, hq⟩ := hq
  have hset := pe_callTy (pos := p3) (p := p2) (cr_setI g.calm) hg2 (fk.bl1 g (by decide)) PyProof.Rows.boot_set (pa_cons ha pa_nil (starEach_cons hp)) (by decide) (by decide) (starEach_cons hp) (starEach_any (by simp))
  refine (pe_callB (cr_sortedSet g.calm) hg (fk.bl1 g (by decide)) (by decide +kernel) (pa_cons hset pa_nil rfl) (by decide) (by decide) rfl rfl).run pins s σ H Q I ?_
  have hq := rdL_iff.mp hq
  unfold evL at hq
  refine seqE R hq fun d μ1 v F1 ι1 H1 _ s1 R1 r1 h1 => ?_
  cases e : (lview μ1 d).bind intsD with
  | none => rw [e] at h1; exact h1.elim
  | some is =>
    rw [e] at h1
    simp only at h1
    split at h1
    · exact h1.elim
    rename_i hlen
    obtain ⟨ds, e3, e4⟩ := Option.bind_eq_some_iff.mp e
    obtain ⟨a, vs, rfl, hs, rs⟩ := Rq.lview R1.w R1.m r1 e3
    have ev := intsD_V rs e4
    subst ev
    refine ⟨a, is, rfl, .inl (.inl hs), by omega, fun p hp => ?_⟩
    have hle : is.eraseDups.length ≤ is.length := (nodup_ed _ _ (Nat.le_refl _)).length_le_of_subset fun k hk => List.mem_eraseDups.mp hk
    refine ⟨p, _, _, rfl, upd_same, by omega, fun ns q hns hmem _ hq0 => ?_⟩
    have hex := ext_upd (o := SetO X.w p (fun j => decide (j ∈ is)) is.eraseDups.length) hp
    have h2 := rdX.step (Stp.ext R1.w hex) h1
    have en := sorted_uniq (is := is) hns fun k => by rw [hmem k, decide_eq_true_eq]
    have hq1 : H1 q = none := by
      by_cases hqp : q = p
      · rw [hqp]; exact hp
      · rw [upd_ne hqp] at hq0; exact hq0
    refine rdL_fin h2 (R1.w.ext hex) (R1.m.ext R1.w hex) ?_ (s1.none hq1) hq0
    rw [en]
    generalize is.eraseDups.mergeSort (fun a b => decide (a ≤ b)) = l
    induction l with
    | nil => exact .nil
    | cons i l ih => exact .cons (.int _) ih
end
end T
end

section
namespace T
open PySem PySem.Spec L2
section
variable {G : Glo} {N : List Str} {sc : Scope} {k : Nat} {W : WX} {X : Cx} {pg : Pg} {cf : CF} {o : Bool} {pos : Pos} {T : Tbl}
variable {F F2 : Addr → Prop} {ι : List Addr} {H H0 : Hp} {B : Ent} {ss : Slots} {μ : Store} {σ : St}
/-- [e, *a] -/
theorem sl_dispS (g : Gd G N sc k W X) {x y : Expr} {a b : IE} {p : Pos} (hp : plainA x = true) (ha : PE X x (tE G W pg cf false a)) (hb : PE X y (tE G W pg cf true b)) : PE X (.List [x, .Starred y p] pos) (tL G W pg cf (.dispS a b)) := by
  refine ⟨fun pins s σ H Q I hq => ?_⟩
  obtain ⟨B, ss, μ, F, ι, R, hq⟩ := hq
  refine (pe_lst (pa_cons ha (StX.pa_star hb pa_nil) (starEach_cons hp))).run pins s σ H Q I ?_
  have hq := rdL_iff.mp hq
  unfold evL at hq
  refine seqE R hq fun d μ1 v F1 ι1 H1 _ s1 R1 r1 h1 => seqE R1 h1 fun e μ2 u F2 ι2 H2 _ s2 R2 r2 h2 => ?_
  have r1 := Rq.step R1.w s2 r1
  cases e1 : sview μ2 e with
  | none => rw [e1] at h2; exact h2.elim
  | some ds =>
    rw [e1] at h2
    simp only at h2
    split at h2
    · rename_i hlen
      obtain ⟨a, vs, rfl, hs, rs⟩ := Rq.sview R2.w R2.m r2 e1
      refine ⟨a, vs, rfl, by rw [g.K]; exact hs.symm, ?_⟩
      show (v :: (vs ++ [])).length ≤ sizeLine ∧ ∀ p, H2 p = none → Q (.ref p) (upd H2 p (.lst (v :: (vs ++ []))))
      rw [List.append_nil]
      exact ⟨by rw [List.length_cons, ← rs.length]; exact hlen, fun p hp => rdL_fin h2 R2.w R2.m (.cons r1.rp rs) (s1.none (s2.none hp)) hp⟩
    · exact h2.elim
theorem sorted_perm {is ns : List Int} (hp : ns.Perm is) (hs : ns.Pairwise (· ≤ ·)) : ns = is.mergeSort (fun a b => decide (a ≤ b)) := by
  have p : ns.Perm (is.mergeSort (fun a b => decide (a ≤ b))) := hp.trans (List.mergeSort_perm _ _).symm
  refine List.Perm.eq_of_pairwise (le := fun a b => a ≤ b) (fun a b _ _ h1 h2 => by omega) hs ?_ p
  have := List.pairwise_mergeSort (le := fun a b : Int => decide (a ≤ b)) (fun a b c h1 h2 => by simp at *; omega) (fun a b => by simp; omega) is
  exact this.imp fun h => by simpa using h
/-- sorted(a) -/
theorem sl_sorti (g : Gd G N sc k W X) (fk : Fk T G pg) {x : Expr} {a : IE} {p : Pos} (hg : Gl X "sorted") (hp : plainA x = true) (ha : PE X x (tE G W pg cf true a)) : PE X (.Call (.Name "sorted" p) [x] [] pos) (tL G W pg cf (.sorti a)) := by
  refine ⟨fun pins s σ H Q I hq => ?_⟩
  obtain ⟨B, ss, μ, F, ι, R, hq⟩ := hq
  refine (pe_callB cr_sortedI hg (fk.bl1 g (by decide)) (by decide +kernel) (pa_cons ha pa_nil (starEach_cons hp)) (by decide) (by decide) (starEach_cons hp) (starEach_any (by simp))).run pins s σ H Q I ?_
  have hq := rdL_iff.mp hq
  unfold evL at hq
  refine seqE R hq fun d μ1 v F1 ι1 H1 _ s1 R1 r1 h1 => ?_
  cases e : (lview μ1 d).bind intsD with
  | none => rw [e] at h1; exact h1.elim
  | some is =>
    rw [e] at h1
    simp only at h1
    obtain ⟨ds, e3, e4⟩ := Option.bind_eq_some_iff.mp e
    obtain ⟨a, vs, rfl, hs, rs⟩ := Rq.lview R1.w R1.m r1 e3
    have ev := intsD_V rs e4
    subst ev
    refine ⟨a, is, rfl, .inl (.inl hs), fun ns p hpm hpw hp => ?_⟩
    refine rdL_fin h1 R1.w R1.m ?_ (s1.none hp) hp
    rw [sorted_perm hpm hpw]
    generalize is.mergeSort (fun a b => decide (a ≤ b)) = l
    induction l with
    | nil => exact .nil
    | cons i l ih => exact .cons (.int _) ih
end
end T
end

section
namespace T
open PySem PySem.Spec L2
/-! ### sorted(pairs of numbers) -/
def PrV (K : PySem.W.Frag) (H : Hp) (p : Int × Int) (x : V) : Prop := ∃ t, x = .ref t ∧ SqT K H t [.int p.1, .int p.2]
inductive PrVs (K : PySem.W.Frag) (H : Hp) : List (Int × Int) → List V → Prop
  | nil : PrVs K H [] []
  | cons {p : Int × Int} {x : V} {ps : List (Int × Int)} {xs : List V} (h : PrV K H p x) (t : PrVs K H ps xs) : PrVs K H (p :: ps) (x :: xs)
theorem prv_fun {h : Heap} {u : Value} {p q : Int × Int} (a : Srt.IsPair h u p.1 p.2) (b : Srt.IsPair h u q.1 q.2) : p = q := by
  obtain ⟨a1, o1, t1, u1, n1, e1, ho1, _, hd1⟩ := a
  obtain ⟨a2, o2, t2, u2, n2, e2, ho2, _, hd2⟩ := b
  subst e1
  cases e2
  rw [ho1] at ho2
  cases ho2
  rw [hd1] at hd2
  injection hd2 with hd2 _
  have hl := congrArg Array.toList hd2
  simp at hl
  exact Prod.ext hl.1.1 hl.2.1
open Classical in
noncomputable def pairAt (h : Heap) (u : Value) : Int × Int := if e : ∃ p : Int × Int, Srt.IsPair h u p.1 p.2 then e.choose else (0, 0)
theorem pairAt_of {h : Heap} {u : Value} {p : Int × Int} (a : Srt.IsPair h u p.1 p.2) : pairAt h u = p := by
  unfold pairAt
  have e : ∃ p : Int × Int, Srt.IsPair h u p.1 p.2 := ⟨p, a⟩
  rw [dif_pos e]
  exact prv_fun e.choose_spec a
/-- what is known of the items, each by itself -/
theorem prvs_heap {X : Cx} {pins : List (Addr × Obj)} {σ : L2.St} {H : Hp} {s : Shared} (I : Inv X pins σ H s) : ∀ {ps : List (Int × Int)} {xs : List V} {us : List Value}, PrVs X.K H ps xs → Vals xs us →
    us.map (pairAt s.heap) = ps ∧ xs = us.map backV ∧ ∀ u ∈ us, (∃ a, u = Value.ref a) ∧ Srt.IsPair s.heap u (pairAt s.heap u).1 (pairAt s.heap u).2 ∧ PrV X.K H (pairAt s.heap u) (backV u)
  | _, _, _, .nil, .nil => ⟨rfl, rfl, fun u hu => by cases hu⟩
  | p :: ps, x :: xs, u :: us, .cons hp t, .cons r rs => by
    obtain ⟨e1, e2, e3⟩ := prvs_heap I t rs
    obtain ⟨a, rfl, hq⟩ := hp
    obtain rfl : u = Value.ref a := r
    obtain ⟨its, ri, ⟨o, ho, hc, n, hd⟩, hz⟩ := I.tuple hq
    obtain ⟨w1, w2, rfl, r1, r2⟩ := vals2 ri
    obtain ⟨k1, rfl⟩ := r1
    obtain ⟨k2, rfl⟩ := r2
    have ip : Srt.IsPair s.heap (.ref a) p.1 p.2 := ⟨a, o, k1, k2, n, rfl, ho, hc, hd⟩
    have ep := pairAt_of ip
    refine ⟨by rw [List.map_cons, ep, e1], by rw [List.map_cons, ← e2]; rfl, fun v hv => ?_⟩
    rcases List.mem_cons.mp hv with rfl | hv
    · rw [ep]
      exact ⟨⟨a, rfl⟩, ip, a, rfl, hq⟩
    · exact e3 v hv
theorem lexB_le {p q : Int × Int} (h : SrtO.lexB q p = false) : lexLe p q = true := by
  have h := SrtO.lexB_no.mp h
  unfold lexLe
  simp only [Bool.or_eq_true, Bool.and_eq_true, decide_eq_true_eq]
  omega
theorem lexLe_iff {p q : Int × Int} : lexLe p q = true ↔ p.1 < q.1 ∨ (p.1 = q.1 ∧ p.2 ≤ q.2) := by
  unfold lexLe
  simp only [Bool.or_eq_true, Bool.and_eq_true, decide_eq_true_eq]
theorem lex_uniq {l m : List (Int × Int)} (h : l.Perm m) (hs : l.Pairwise fun a b => lexLe a b = true) : l = m.mergeSort lexLe := by
  refine List.Perm.eq_of_pairwise (le := fun a b => lexLe a b = true) (fun a b _ _ h1 h2 => ?_) hs ?_ (h.trans (List.mergeSort_perm _ _).symm)
  · have h1 := lexLe_iff.mp h1
    have h2 := lexLe_iff.mp h2
    exact Prod.ext (by omega) (by omega)
  · refine List.pairwise_mergeSort (fun a b c h1 h2 => ?_) (fun a b => ?_) m
    · have h1 := lexLe_iff.mp h1
      have h2 := lexLe_iff.mp h2
      exact lexLe_iff.mpr (by omega)
    · rw [Bool.or_eq_true, lexLe_iff, lexLe_iff]
      omega
def rSortedD (K : PySem.W.Frag) : List V → Hp → VK → Prop := fun vs H Q => ∃ (a : Addr) (xs : List V) (ps : List (Int × Int)), vs = [V.ref a] ∧ SqL K H a xs ∧ PrVs K H ps xs ∧
  ∀ ys p, PrVs K H (ps.mergeSort lexLe) ys → H p = none → Q (.ref p) (upd H p (.lst ys))
theorem prvs_map {K : PySem.W.Frag} {H : Hp} {f : Value → Int × Int} {g : Value → V} : ∀ {us : List Value}, (∀ u ∈ us, PrV K H (f u) (g u)) → PrVs K H (us.map f) (us.map g)
  | [], _ => .nil
  | u :: us, h => .cons (h u List.mem_cons_self) (prvs_map fun v hv => h v (List.mem_cons_of_mem _ hv))
theorem cr_sortedD {X : Cx} : CallR X (.builtin "sorted") (rSortedD X.K) := by
  intro pins s σ H vs us Q I r h
  obtain ⟨a, xs, ps, rfl, hs, hp, q⟩ := h
  obtain ⟨its, rv, hl, hz⟩ := I.list hs
  obtain ⟨u, rfl, ru⟩ := vals1 r
  obtain rfl : u = Value.ref a := ru
  obtain ⟨k1, k2, k3⟩ := prvs_heap I hp rv
  refine SrtO.sorted_pairsO (k := pairAt s.heap) hl.isList (by rw [← rv.length]; exact hz) (fun v hv => (k3 v hv).2.1) fun h' d out o1 o2 kp hd hn => ?_
  obtain ⟨n, hn⟩ := hn
  have mem : ∀ u ∈ out, u ∈ its := fun u hu => o2.perm.mem_iff.mp hu
  have e : out.map (pairAt s.heap) = ps.mergeSort lexLe := by
    refine lex_uniq ?_ ?_
    · rw [← k1]
      exact o2.perm.map _
    · exact List.pairwise_map.mpr (o1.imp fun h => lexB_le h)
  have hy : PrVs X.K H (ps.mergeSort lexLe) (out.map backV) := by
    rw [← e]
    exact prvs_map fun u hu => (k3 u (mem u hu)).2.2
  refine ⟨.ref d, upd H d (.lst (out.map backV)), I.laid (t' := s.toks) kp hd ⟨?_, out, n, vals_back fun u hu => (k3 u (mem u hu)).1, hn⟩, rfl, q _ d hy (I.hok.fresh hd)⟩
  rw [List.length_map, o2.len, ← rv.length]
  exact hz
section
variable {G : Glo} {N : List Str} {sc : Scope} {k : Nat} {W : WX} {X : Cx} {pg : Pg} {cf : CF} {o : Bool} {pos : Pos} {T : Tbl}
variable {F F2 : Addr → Prop} {ι : List Addr} {H H0 : Hp} {B : Ent} {ss : Slots} {μ : Store} {σ : L2.St}
theorem rps_prv : ∀ {ds : List D} {vs : List V} {ps : List (Int × Int)}, Rps G F ι H ds vs → pairsD ds = some ps → PrVs G.K H ps vs
  | [], _, _, .nil, e => by
    cases e
    exact .nil
  | d :: ds, _, ps, .cons r rs, e => by
    unfold pairsD at e
    split at e
    · rename_i heq
      cases heq
    · rename_i a b r' heq
      cases heq
      obtain ⟨l, e2, rfl⟩ := Option.map_eq_some_iff.mp e
      cases r with
      | tup t rr =>
        cases rr with
        | cons r1 rr =>
          cases rr with
          | cons r2 rr =>
            cases rr
            cases r1
            cases r2
            exact .cons ⟨_, rfl, t⟩ (rps_prv rs e2)
    · cases e
theorem prv_rps : ∀ {ps : List (Int × Int)} {vs : List V}, PrVs G.K H ps vs → Rps G F ι H (ps.map fun p => D.tup [.int p.1, .int p.2]) vs
  | _, _, .nil => .nil
  | p :: ps, _, .cons ⟨t, e, h⟩ r => by
    subst e
    exact .cons (.tup h (.cons (.int _) (.cons (.int _) .nil))) (prv_rps r)
/-- sorted(a), pairs of numbers -/
theorem sl_sortp (g : Gd G N sc k W X) (fk : Fk T G pg) {x : Expr} {a : IE} {p : Pos} (hg : Gl X "sorted") (hp : plainA x = true) (ha : PE X x (tE G W pg cf true a)) : PE X (.Call (.Name "sorted" p) [x] [] pos) (tL G W pg cf (.sortp a)) := by
  refine ⟨fun pins s σ H Q I hq => ?_⟩
  obtain ⟨B, ss, μ, F, ι, R, hq⟩ := hq
  refine (pe_callB cr_sortedD hg (fk.bl1 g (by decide)) (by decide +kernel) (pa_cons ha pa_nil (starEach_cons hp)) (by decide) (by decide) (starEach_cons hp) (starEach_any (by simp))).run pins s σ H Q I ?_
  have hq := rdL_iff.mp hq
  unfold evL at hq
  refine seqE R hq fun d μ1 v F1 ι1 H1 _ s1 R1 r1 h1 => ?_
  cases e : (lview μ1 d).bind pairsD with
  | none => rw [e] at h1; exact h1.elim
  | some ps =>
    rw [e] at h1
    simp only at h1
    obtain ⟨ds, e3, e4⟩ := Option.bind_eq_some_iff.mp e
    obtain ⟨a, vs, rfl, hs, rs⟩ := Rq.lview R1.w R1.m r1 e3
    refine ⟨a, vs, ps, rfl, .inl (.inl hs), by rw [g.K]; exact rps_prv rs e4, fun ys p hy hp => ?_⟩
    rw [g.K] at hy
    exact rdL_fin h1 R1.w R1.m (prv_rps hy) (s1.none hp) hp
end
end T
end

section
namespace T
open PySem PySem.Spec PyProof.Rows L2
/-! ### zip of a tuple and a list (any two readers) -/
/-- a kind of sequences with its iterators -/
structure Rdr (prog : Program) (w : World) where
  it : Heap → Addr → Addr → Nat → Prop
  sq : Heap → Addr → Array Value → Prop
  next : ∀ {A : Around} {E : Value → Shared → Prop} {s : Shared} {a l : Addr} {i : Nat} {items : Array Value} {x : Value} {Q : Value → Shared → Prop}, it s.heap a l i → sq s.heap l items → items[i]? = some x →
    (∀ h', it h' a l (i + 1) → Heap.SameBut a s.heap h' → Q x { s with heap := h' }) → wpAny (model prog w) A (Builtin.SmallTypes.nextOf (.ref a)) Q E s
  stop : ∀ {A : Around} {E : Value → Shared → Prop} {s : Shared} {a l : Addr} {i : Nat} {items : Array Value} {Q : Value → Shared → Prop}, A.handled = none → it s.heap a l i → sq s.heap l items → items[i]? = none →
    (∀ h' e, Heap.ExtBut a s.heap h' → (∃ o, h'.get? e = some o ∧ o.cls = .type "StopIteration") → E (.ref e) { s with heap := h' }) → wpAny (model prog w) A (Builtin.SmallTypes.nextOf (.ref a)) Q E s
  itE : ∀ {h h' : Heap} {a b l : Addr} {i : Nat}, it h a l i → Heap.ExtBut b h h' → a ≠ b → it h' a l i
  sqE : ∀ {h h' : Heap} {a b : Addr} {items : Array Value}, sq h a items → Heap.ExtBut b h h' → a ≠ b → sq h' a items
  itA : ∀ {h h' : Heap} {a l : Addr} {i : Nat}, it h a l i → (∀ o, h.get? a = some o → h'.get? a = some o) → it h' a l i
  ob : ∀ {h : Heap} {a l : Addr} {i : Nat}, it h a l i → ∃ o, h.get? a = some o ∧ ∀ v, o.data ≠ .seq v
def rdrL (prog : Program) (w : World) : Rdr prog w where
  it := fun h a l i => h.IsListIter a l i
  sq := fun h l items => h.IsList l items
  next := fun h1 h2 h3 h4 => wpAny_nextOf_list_item h1 h2 h3 h4
  stop := fun h0 h1 h2 h3 h4 => wpAny_nextOf_list_end h0 h1 h2 h3 h4
  itE := fun h e n => h.extBut e n
  sqE := fun h e n => h.extBut e n
  itA := fun h e => h.at e
  ob := fun h => by
    obtain ⟨o, e, _, d⟩ := h
    exact ⟨o, e, fun v q => by rw [d] at q; cases q⟩
def rdrT (prog : Program) (w : World) : Rdr prog w where
  it := fun h a l i => h.IsTupleIter a l i
  sq := fun h l items => h.IsTuple l items
  next := fun h1 h2 h3 h4 => RZ.nextOf_tuple_item h1 h2 h3 h4
  stop := fun h0 h1 h2 h3 h4 => RZ.nextOf_tuple_end h0 h1 h2 h3 h4
  itE := fun h e n => h.extBut e n
  sqE := fun h e n => h.extBut e n
  itA := fun h e => h.at e
  ob := fun h => by
    obtain ⟨o, e, _, d⟩ := h
    exact ⟨o, e, fun v q => by rw [d] at q; cases q⟩
section
variable {prog : Program} {w : World} {A : Around} {E : Value → Shared → Prop} {s : Shared} {R R' : Rdr prog w}
theorem zipR_item {z TI TO i1 i2 l1 l2 : Addr} {k1 k2 : Nat} {xs ys : Array Value} {x y a b : Value} {Q : Value → Shared → Prop} (D : ZipApart z TI TO i1 i2 l1 l2)
    (hz : IsZip s.heap z TI TO .none) (hTI : IsPair s.heap TI (.ref i1) (.ref i2)) (hTO : IsPair s.heap TO a b)
    (h1 : R.it s.heap i1 l1 k1) (h2 : R'.it s.heap i2 l2 k2) (s1 : R.sq s.heap l1 xs) (s2 : R'.sq s.heap l2 ys) (hx : xs[k1]? = some x) (hy : ys[k2]? = some y)
    (hQ : ∀ h', IsZip h' z TI TO (rawInt s.heap.objs.size) → IsPair h' TO x y → R.it h' i1 l1 (k1 + 1) → R'.it h' i2 l2 (k2 + 1) → IsPair h' s.heap.objs.size x y → h'.objs.size = s.heap.objs.size + 1 →
      (∀ c o, c ≠ z → c ≠ TO → c ≠ i1 → c ≠ i2 → s.heap.get? c = some o → h'.get? c = some o) → Q (.ref s.heap.objs.size) { s with heap := h' }) :
    wpAny (model prog w) A (Builtin.«zip.__next__» ⟨[.ref z], []⟩) (fun fin s' => ∃ v, fin = .done (.ret v) ∧ Q v s') E s := by
  show wpAny _ _ (field (.ref z) 2 >>= _) _ _ _
  refine wpAny_bind (wpAny_field hz rfl (x := .bool false) rfl ?_)
  show wpAny _ _ (field (.ref z) 3 >>= _) _ _ _
  refine wpAny_bind (wpAny_field hz rfl (x := .ref TI) rfl (wpAny_bind (wpAny_seqItems hTI rfl ?_)))
  show wpAny _ _ (Builtin.SmallTypes.ownedTupleIsFree (.ref z) >>= _) _ _ _
  refine wpAny_bind ?_
  unfold Builtin.SmallTypes.ownedTupleIsFree
  refine wpAny_bind (wpAny_field hz rfl (x := .none) rfl (wpAny_pure ?_))
  simp only [if_true]
  refine wpAny_bind (wpAny_rule (wpAny_bind (wpAny_field hz rfl (x := .ref TO) rfl (wpAny_bind (wpAny_setField_rec hz (by simp) fun ha za ka => ?_)))))
  replace za : IsZip ha z TI TO .ellipsis := za
  refine wpAny_bind ?_
  simp only [List.zipIdx_cons, List.zipIdx_nil, List.forIn_cons, List.forIn_nil]
  refine wpAny_bind (wpAny_bind (wpAny_onRaise ?_))
  show wpAny _ _ (Builtin.SmallTypes.nextOf (.ref i1) >>= _) _ _ _
  refine wpAny_bind (R.next (R.itE h1 ka.extBut D.i1z) (R.sqE s1 ka.extBut D.l1z) hx fun hb i1b kb => wpAny_pure ?_)
  have tb : IsPair hb TO a b := kb.extBut _ _ D.TOi1 (ka.extBut _ _ D.TOz hTO)
  refine wpAny_bind (wpAny_seqItems tb rfl (wpAny_bind (wpAny_updateSeq_pair tb fun hc tc kc => ?_)))
  replace tc : IsPair hc TO x b := tc
  refine wpAny_bind (wpAny_letGo (wpAny_pure (wpAny_bind (wpAny_bind (wpAny_onRaise ?_)))))
  show wpAny _ _ (Builtin.SmallTypes.nextOf (.ref i2) >>= _) _ _ _
  have upC : ∀ {h : Addr} {P : Heap → Prop}, (∀ {g g' : Heap} {c : Addr}, P g → Heap.ExtBut c g g' → h ≠ c → P g') → P s.heap → h ≠ z → h ≠ i1 → h ≠ TO → P hc := fun up p n1 n2 n3 => up (up (up p ka.extBut n1) kb.extBut n2) kc.extBut n3
  refine wpAny_bind (R'.next (upC (P := fun g => R'.it g i2 l2 k2) (fun p e n => R'.itE p e n) h2 D.i2z D.i12.symm D.TOi2.symm) (upC (P := fun g => R'.sq g l2 ys) (fun p e n => R'.sqE p e n) s2 D.l2z D.l2i1 D.l2TO) hy fun hd i2d kd => wpAny_pure ?_)
  have td : IsPair hd TO x b := kd.extBut _ _ D.TOi2 tc
  refine wpAny_bind (wpAny_seqItems td rfl (wpAny_bind (wpAny_updateSeq_pair td fun he te ke => ?_)))
  replace te : IsPair he TO x y := te
  refine wpAny_bind (wpAny_letGo (wpAny_pure (wpAny_pure (wpAny_bind (wpAny_seqItems te rfl (wpAny_bind (wpAny_newTuple ?_)))))))
  have hsz : he.objs.size = s.heap.objs.size := by rw [ke.1, kd.1, kc.1, kb.1, ka.1]
  have all : ∀ c o, c ≠ z → c ≠ TO → c ≠ i1 → c ≠ i2 → s.heap.get? c = some o → he.get? c = some o := fun c o n1 n2 n3 n4 e =>
    ke.extBut _ _ n2 (kd.extBut _ _ n4 (kc.extBut _ _ n2 (kb.extBut _ _ n3 (ka.extBut _ _ n1 e))))
  have ze : IsZip he z TI TO .ellipsis := ke.extBut _ _ D.TOz.symm (kd.extBut _ _ D.i2z.symm (kc.extBut _ _ D.TOz.symm (kb.extBut _ _ D.i1z.symm za)))
  have j1 : R.it he i1 l1 (k1 + 1) := R.itE (R.itE (R.itE i1b kc.extBut D.TOi1.symm) kd.extBut D.i12) ke.extBut D.TOi1.symm
  have j2 : R'.it he i2 l2 (k2 + 1) := R'.itE i2d ke.extBut D.TOi2.symm
  have lz : z < he.objs.size := Heap.lt_size ze
  show wpAny _ _ (Builtin.SmallTypes.ownedTupleHandOut (.ref z) (.ref he.objs.size) >>= _) _ _ _
  refine wpAny_bind ?_
  unfold Builtin.SmallTypes.ownedTupleHandOut
  have zp : IsZip (he.push { cls := .type "tuple", data := .seq #[x, y] }) z TI TO .ellipsis := Heap.get?_push_of_some _ ze
  refine wpAny_bind (wpAny_setField_rec zp (by simp) fun hf zf kf => ?_)
  replace zf : IsZip hf z TI TO (rawInt he.objs.size) := zf
  refine wpAny_setField_rec zf (by simp) fun hg zg kg => ?_
  replace zg : IsZip hg z TI TO (rawInt he.objs.size) := zg
  have up : ∀ c o, c ≠ z → he.get? c = some o → hg.get? c = some o := fun c o n e => kg.extBut _ _ n (kf.extBut _ _ n (Heap.get?_push_of_some _ e))
  have tg : IsPair hg he.objs.size x y := kg.extBut _ _ (Nat.ne_of_gt lz) (kf.extBut _ _ (Nat.ne_of_gt lz) (Heap.get?_push_size _ rfl))
  have sg : hg.objs.size = he.objs.size + 1 := by rw [kg.1, kf.1, Heap.size_push]
  rw [hsz] at zg tg sg
  refine wpAny_pure ⟨_, rfl, ?_⟩
  show Q (.ref he.objs.size) _
  rw [hsz]
  exact hQ hg zg (up _ _ D.TOz te) (R.itA j1 fun o e => up _ o D.i1z e) (R'.itA j2 fun o e => up _ o D.i2z e) tg sg fun c o n1 n2 n3 n4 e => up c o n1 (all c o n1 n2 n3 n4 e)
theorem zipR_end {z TI TO i1 i2 l1 l2 : Addr} {k1 k2 : Nat} {xs ys : Array Value} {a b : Value} {Q : Fin → Shared → Prop} (hh : A.handled = none) (D : ZipApart z TI TO i1 i2 l1 l2)
    (hz : IsZip s.heap z TI TO .none) (hTI : IsPair s.heap TI (.ref i1) (.ref i2)) (hTO : IsPair s.heap TO a b)
    (h1 : R.it s.heap i1 l1 k1) (h2 : R'.it s.heap i2 l2 k2) (s1 : R.sq s.heap l1 xs) (s2 : R'.sq s.heap l2 ys) (hend : xs[k1]? = none ∨ ys[k2]? = none)
    (hE : ∀ h' e, (∀ c o, c ≠ z → c ≠ TO → c ≠ i1 → c ≠ i2 → s.heap.get? c = some o → h'.get? c = some o) → (∃ o, h'.get? e = some o ∧ o.cls = .type "StopIteration") → E (.ref e) { s with heap := h' }) :
    wpAny (model prog w) A (Builtin.«zip.__next__» ⟨[.ref z], []⟩) Q E s := by
  show wpAny _ _ (field (.ref z) 2 >>= _) _ _ _
  refine wpAny_bind (wpAny_field hz rfl (x := .bool false) rfl ?_)
  show wpAny _ _ (field (.ref z) 3 >>= _) _ _ _
  refine wpAny_bind (wpAny_field hz rfl (x := .ref TI) rfl (wpAny_bind (wpAny_seqItems hTI rfl ?_)))
  show wpAny _ _ (Builtin.SmallTypes.ownedTupleIsFree (.ref z) >>= _) _ _ _
  refine wpAny_bind ?_
  unfold Builtin.SmallTypes.ownedTupleIsFree
  refine wpAny_bind (wpAny_field hz rfl (x := .none) rfl (wpAny_pure ?_))
  simp only [if_true]
  refine wpAny_bind (wpAny_rule (wpAny_bind (wpAny_field hz rfl (x := .ref TO) rfl (wpAny_bind (wpAny_setField_rec hz (by simp) fun ha za ka => ?_)))))
  replace za : IsZip ha z TI TO .ellipsis := za
  refine wpAny_bind ?_
  simp only [List.zipIdx_cons, List.zipIdx_nil, List.forIn_cons, List.forIn_nil]
  refine wpAny_bind (wpAny_bind (wpAny_onRaise ?_))
  show wpAny _ _ (Builtin.SmallTypes.nextOf (.ref i1) >>= _) _ _ _
  -- the error is a new one
  have apart : ∀ {h : Heap} {e : Addr} {f : Value}, (∃ o, h.get? e = some o ∧ o.cls = .type "StopIteration") → IsZip h z TI TO f → e ≠ z := fun he hz q => by
    obtain ⟨o, ho, hc⟩ := he
    subst q
    rw [hz] at ho
    cases ho
    simp at hc
  cases hx : xs[k1]? with
  | none =>
    refine wpAny_bind (R.stop hh (R.itE h1 ka.extBut D.i1z) (R.sqE s1 ka.extBut D.l1z) hx fun hb e kb he => ?_)
    have zb : IsZip hb z TI TO .ellipsis := kb _ _ D.i1z.symm za
    have n := apart he zb
    obtain ⟨o, ho, hc⟩ := he
    exact wpAny_setField_rec zb (by simp) fun hc' _ kc => hE hc' e (fun c o n1 _ n3 _ x => kc.extBut _ _ n1 (kb _ _ n3 (ka.extBut _ _ n1 x))) ⟨o, kc.extBut _ _ n ho, hc⟩
  | some x =>
    have hy : ys[k2]? = none := by
      rcases hend with q | q
      · rw [hx] at q
        cases q
      · exact q
    refine wpAny_bind (R.next (R.itE h1 ka.extBut D.i1z) (R.sqE s1 ka.extBut D.l1z) hx fun hb i1b kb => wpAny_pure ?_)
    have tb : IsPair hb TO a b := kb.extBut _ _ D.TOi1 (ka.extBut _ _ D.TOz hTO)
    refine wpAny_bind (wpAny_seqItems tb rfl (wpAny_bind (wpAny_updateSeq_pair tb fun hc tc kc => ?_)))
    refine wpAny_bind (wpAny_letGo (wpAny_pure (wpAny_bind (wpAny_bind (wpAny_onRaise ?_)))))
    show wpAny _ _ (Builtin.SmallTypes.nextOf (.ref i2) >>= _) _ _ _
    refine wpAny_bind (R'.stop hh (R'.itE (R'.itE (R'.itE h2 ka.extBut D.i2z) kb.extBut D.i12.symm) kc.extBut D.TOi2.symm) (R'.sqE (R'.sqE (R'.sqE s2 ka.extBut D.l2z) kb.extBut D.l2i1) kc.extBut D.l2TO) hy fun hd e kd he => ?_)
    have zd : IsZip hd z TI TO .ellipsis := kd _ _ D.i2z.symm (kc.extBut _ _ D.TOz.symm (kb.extBut _ _ D.i1z.symm za))
    have n := apart he zd
    obtain ⟨o, ho, hc'⟩ := he
    exact wpAny_setField_rec zd (by simp) fun hf _ kf => hE hf e (fun c o n1 n2 n3 n4 x => kf.extBut _ _ n1 (kd _ _ n4 (kc.extBut _ _ n2 (kb.extBut _ _ n3 (ka.extBut _ _ n1 x))))) ⟨o, kf.extBut _ _ n ho, hc'⟩
/-- the items of a tuple and of a list, in new pairs -/
def ItzM (K : PySem.W.Frag) (a b : Addr) : It :=
  ⟨fun i H => ∃ (xs ys : List V) (x y : V), SqT K H a xs ∧ SqL K H b ys ∧ xs[i]? = some x ∧ ys[i]? = some y,
    fun i H v H' => ∃ T x y, v = .ref T ∧ H T = none ∧ H' = upd H T (.tup [x, y]) ∧ (∀ xs, SqT K H a xs → xs[i]? = some x) ∧ ∀ ys, SqL K H b ys → ys[i]? = some y,
    fun i H => ∃ xs ys : List V, SqT K H a xs ∧ SqL K H b ys ∧ (xs.length ≤ i ∨ ys.length ≤ i)⟩
theorem turn_zipM {P : Program} {w : World} {K : PySem.W.Frag} {elts : List Expr} {kk : Nat} {tpos : Pos} {a b z TI TO i1 i2 : Addr} (D : ZipApart z TI TO i1 i2 a b) :
    Turn P w K (.Tuple elts kk tpos) (ItzM K a b) [z, TI, TO, i1, i2] z (fun i h => IsZip h z TI TO .none ∧ IsPair h TI (.ref i1) (.ref i2) ∧ (∃ x y, IsPair h TO x y) ∧ h.IsTupleIter i1 a i ∧ h.IsListIter i2 b i) where
  mem := by simp
  obj := fun i h st c hc => by
    obtain ⟨hz, hTI, ⟨x, y, hTO⟩, h1, h2⟩ := st
    have e' : c = z ∨ c = TI ∨ c = TO ∨ c = i1 ∨ c = i2 := by simpa using hc
    rcases e' with rfl | rfl | rfl | rfl | rfl
    · exact ⟨_, hz, fun v q => nomatch q⟩
    · exact ⟨_, hTI, fun v q => nomatch q⟩
    · exact ⟨_, hTO, fun v q => nomatch q⟩
    · obtain ⟨o, e, _, d⟩ := h1
      exact ⟨o, e, fun v q => by rw [d] at q; cases q⟩
    · obtain ⟨o, e, _, d⟩ := h2
      exact ⟨o, e, fun v q => by rw [d] at q; cases q⟩
  keep := fun i h h' st k => by
    obtain ⟨hz, hTI, ⟨x, y, hTO⟩, h1, h2⟩ := st
    exact ⟨k z (by simp) _ hz, k TI (by simp) _ hTI, ⟨x, y, k TO (by simp) _ hTO⟩, h1.at fun o q => k i1 (by simp) o q, h2.at fun o q => k i2 (by simp) o q⟩
  item := by
    intro X hP hw hK hc i pins s σ H E I hf st hg
    subst hP hw hK
    obtain ⟨hz, hTI, ⟨x0, y0, hTO⟩, h1, h2⟩ := st
    obtain ⟨xs, ys, x, y, hqx, hqy, hx, hy⟩ := hg
    obtain ⟨its, rv, p, _⟩ := I.tuple hqx
    obtain ⟨its2, rv2, p2, _⟩ := I.list hqy
    obtain ⟨u, hu, ru⟩ := rv.get hx
    obtain ⟨u2, hu2, ru2⟩ := rv2.get hy
    have hzl : z < s.heap.objs.size := Heap.lt_size hz
    have hT : s.TypeIs (.ref z) "zip" := ⟨_, hz, rfl⟩
    unfold pyNext
    refine wpAny_bind (wpAny_attempt (wpAny_callSpecial?_slot (name := Str.ofString "__next__") hT F.slot_zip_next
      (wpAny_call_entry F.slot_zip_next hT F.entry_zip_next
        (zipR_item (R := rdrT _ _) (R' := rdrL _ _) D hz hTI hTO h1 h2 (xs := its.toArray) (ys := its2.toArray) p p2.isList (x := u) (y := u2) (by simpa using hu) (by simpa using hu2) fun h' z' TO' h1' h2' hTn hsz hk => wpAny_pure ?_) (F.args_zip_next_1 _))))
    refine ⟨_, rfl, wpAny_letOwnedTupleGo_zip (s := { s with heap := h' }) z' fun h'' z'' sb => ?_⟩
    have hT2 : h''.get? s.heap.objs.size = some { cls := .type "tuple", data := .seq #[u, u2] } := (sb.2 _ (Nat.ne_of_gt hzl)).trans hTn
    have new : ObjOk X.prog X.w (upd H s.heap.objs.size (.tup [x, y])) h'' s.heap.objs.size (.tup [x, y]) :=
      ⟨by show 2 ≤ sizeLine; decide, [u, u2], .cons ru (.cons ru2 .nil), ⟨_, hT2, rfl, _, rfl⟩⟩
    have I1 : Inv X pins σ (upd H s.heap.objs.size (.tup [x, y])) { s with heap := h'' } :=
      I.turnedNew (t' := s.toks) (ch := [z, TI, TO, i1, i2]) (fun c o hb q => by
        have m : c ≠ z ∧ c ≠ TI ∧ c ≠ TO ∧ c ≠ i1 ∧ c ≠ i2 := by simpa using hb
        exact (sb.2 c m.1).trans (hk c o m.1 m.2.2.1 m.2.2.2.1 m.2.2.2.2 q)) hf (Nat.le_refl _) new
    refine ⟨.ref s.heap.objs.size, _, I1, rfl, ⟨_, x, y, rfl, I.hok.fresh (Nat.le_refl _), rfl, fun l hl => by rw [I.tuple_inj hl hqx]; exact hx, fun l hl => by rw [I.list_inj hl hqy]; exact hy⟩, ⟨z'', ?_, ⟨u, u2, ?_⟩, ?_, ?_⟩, fun c hcm => ?_⟩
    · exact (sb.2 _ D.TIz).trans (hk _ _ D.TIz D.TITO D.TIi1 D.TIi2 hTI)
    · exact (sb.2 _ D.TOz).trans TO'
    · exact (rdrT X.prog X.w).itA h1' fun o q => (sb.2 _ D.i1z).trans q
    · exact (rdrL X.prog X.w).itA h2' fun o q => (sb.2 _ D.i2z).trans q
    · have hlt : c < s.heap.objs.size := by
        have e' : c = z ∨ c = TI ∨ c = TO ∨ c = i1 ∨ c = i2 := by simpa using hcm
        rcases e' with rfl | rfl | rfl | rfl | rfl
        · exact hzl
        · exact Heap.lt_size hTI
        · exact Heap.lt_size hTO
        · obtain ⟨_, e1, _⟩ := h1; exact Heap.lt_size e1
        · obtain ⟨_, e2, _⟩ := h2; exact Heap.lt_size e2
      rw [upd_ne (Nat.ne_of_lt hlt)]
      exact (hf c hcm).1
  done := by
    intro X hP hw hK hc i pins s σ H E I hf st hg
    subst hP hw hK
    obtain ⟨hz, hTI, ⟨x0, y0, hTO⟩, h1, h2⟩ := st
    obtain ⟨xs, ys, hqx, hqy, hend⟩ := hg
    obtain ⟨its, rv, p, _⟩ := I.tuple hqx
    obtain ⟨its2, rv2, p2, _⟩ := I.list hqy
    have l1 := rv.length
    have l2 := rv2.length
    have he : its.toArray[i]? = none ∨ its2.toArray[i]? = none := by
      rcases hend with q | q
      · exact .inl (by simp; omega)
      · exact .inr (by simp; omega)
    have hT : s.TypeIs (.ref z) "zip" := ⟨_, hz, rfl⟩
    unfold pyNext
    refine wpAny_bind (wpAny_attempt (wpAny_callSpecial?_slot (name := Str.ofString "__next__") hT F.slot_zip_next
      (wpAny_call_entry F.slot_zip_next hT F.entry_zip_next (zipR_end (R := rdrT _ _) (R' := rdrL _ _) (I.ok.hd hc) D hz hTI hTO h1 h2 p p2.isList he fun h' e hk hs => ?_) (F.args_zip_next_1 _))))
    obtain ⟨o, ho, hcl⟩ := hs
    refine wpAny_bind (wpAny_isInstance (T := "StopIteration") (b := true) ⟨o, ho, hcl⟩ isSubtype_stop (wpAny_pure ⟨rfl, I.turnedL (t' := s.toks) (ch := [z, TI, TO, i1, i2]) (fun c o hb q => ?_) hf⟩))
    have m : c ≠ z ∧ c ≠ TI ∧ c ≠ TO ∧ c ≠ i1 ∧ c ≠ i2 := by simpa using hb
    exact hk c o m.1 m.2.2.1 m.2.2.2.1 m.2.2.2.2 q
  self := fun A i s Q E st h => wpAny_pyIter_zip st.1 h
end
/-! the call itself -/
abbrev zmA (h : Heap) (l1 : Addr) : Heap := h.push { cls := .type "tuple_iterator", data := .fields #[.ref l1, .int 0 0] }
abbrev zmB (h : Heap) (l1 l2 : Addr) : Heap := (zmA h l1).push { cls := .type "list_iterator", data := .fields #[.ref l2, .int 0 0] }
abbrev zmC (h : Heap) (l1 l2 : Addr) : Heap := (zmB h l1 l2).push { cls := .type "tuple", data := .seq #[.ref h.objs.size, .ref (zmA h l1).objs.size] }
abbrev zmD (h : Heap) (l1 l2 : Addr) : Heap := (zmC h l1 l2).push { cls := .type "tuple", data := .seq #[.none, .none] }
abbrev zmE (h : Heap) (l1 l2 : Addr) : Heap := (zmD h l1 l2).push { cls := .type "zip", data := .fields #[.none, .bool false, .bool false, .ref (zmB h l1 l2).objs.size, .ref (zmC h l1 l2).objs.size] }
theorem meets_zipM (l1 l2 : Addr) (xs ys : Array Value) :
    Meets (Builtin.«zip.__new__» ⟨[.type "zip", .ref l1, .ref l2], []⟩) (fun _ R s => s.heap.IsTuple l1 xs ∧ s.heap.IsList l2 ys ∧
      R (.ok (.ret (.ref (zmD s.heap l1 l2).objs.size))) { s with heap := zmE s.heap l1 l2 }) :=
  .of_wp fun prog w A R s h => by
    obtain ⟨hp, g, d, tk, os⟩ := s
    obtain ⟨hl1, hl2, h⟩ := h
    have hsub := sub_zip
    have q1 : Heap.IsTuple (Shared.heap ⟨hp, g, d, tk, os⟩) l1 xs := hl1
    have q2 : Heap.IsList (Shared.heap ⟨hp.push { cls := .type "tuple_iterator", data := .fields #[.ref l1, .int 0 0] }, g, d, tk, os⟩) l2 ys := Heap.IsList.push hl2 _
    wp_walk using wpAny_pyIter_tuple q1, wpAny_pyIter_list q2
    exact ⟨_, rfl, h⟩
theorem call_zipM {prog : Program} {w : World} {A : Around} {E : Value → Shared → Prop} {s : Shared} {l1 l2 : Addr} {xs ys : Array Value} {Q : Value → Shared → Prop} (hl1 : s.heap.IsTuple l1 xs) (hl2 : s.heap.IsList l2 ys)
    (h : ∀ h', IsZip h' (s.heap.objs.size + 4) (s.heap.objs.size + 2) (s.heap.objs.size + 3) .none → IsPair h' (s.heap.objs.size + 2) (.ref s.heap.objs.size) (.ref (s.heap.objs.size + 1)) →
      IsPair h' (s.heap.objs.size + 3) .none .none → h'.IsTupleIter s.heap.objs.size l1 0 → h'.IsListIter (s.heap.objs.size + 1) l2 0 →
      (∀ c o, s.heap.get? c = some o → h'.get? c = some o) → Q (.ref (s.heap.objs.size + 4)) { s with heap := h' }) :
    wpAny (model prog w) A (call (.type "zip") [.ref l1, .ref l2]) Q E s := by
  refine callType_new F.called_zip (by decide) (F.typeCall_zip_2 _ _) (F.newCall_zip_2 _ _) (fun obj => F.args_object_init_3 obj _ _) F.entry_zip_new (meets_zipM l1 l2 xs ys) ⟨hl1, hl2, ?_⟩
  have n1 : (zmA s.heap l1).objs.size = s.heap.objs.size + 1 := Heap.size_push ..
  have n2 : (zmB s.heap l1 l2).objs.size = s.heap.objs.size + 2 := by rw [Heap.size_push, n1]
  have n3 : (zmC s.heap l1 l2).objs.size = s.heap.objs.size + 3 := by rw [Heap.size_push, n2]
  have n4 : (zmD s.heap l1 l2).objs.size = s.heap.objs.size + 4 := by rw [Heap.size_push, n3]
  have up : ∀ {h : Heap} {c : Addr} {o o2 : Obj}, h.get? c = some o → (h.push o2).get? c = some o := fun e => Heap.get?_push_of_some _ e
  have g5 : (zmE s.heap l1 l2).get? (zmD s.heap l1 l2).objs.size = some _ := Heap.get?_push_size _ rfl
  have g4 : (zmE s.heap l1 l2).get? (zmC s.heap l1 l2).objs.size = some _ := up (Heap.get?_push_size _ rfl)
  have g3 : (zmE s.heap l1 l2).get? (zmB s.heap l1 l2).objs.size = some _ := up (up (Heap.get?_push_size _ rfl))
  have g2 : (zmE s.heap l1 l2).get? (zmA s.heap l1).objs.size = some _ := up (up (up (Heap.get?_push_size _ rfl)))
  have g1 : (zmE s.heap l1 l2).get? s.heap.objs.size = some _ := up (up (up (up (Heap.get?_push_size _ rfl))))
  show _ ∧ _
  rw [n2, n3, n4] at g5
  rw [n1, n2] at g3
  rw [n3] at g4
  rw [n1] at g2
  rw [n4]
  exact ⟨⟨_, g5, rfl⟩, h _ g5 g3 g4 ⟨_, g1, rfl, rfl⟩ ⟨_, g2, rfl, rfl⟩ fun c o x => up (up (up (up (up x))))⟩
def iZipM (K : PySem.W.Frag) (ta : TA) : TI := fun σ H R => ta σ H fun vs H1 => ∃ a b xs ys, vs = [.ref a, .ref b] ∧ ((SqL K H1 a xs ∧ SqL K H1 b ys ∧ R (Itz K a b) H1) ∨ (SqT K H1 a xs ∧ SqT K H1 b ys ∧ R (RZ.ItzT K a b) H1) ∨ (SqT K H1 a xs ∧ SqL K H1 b ys ∧ R (ItzM K a b) H1))
theorem pi_zipM {X : Cx} {e e2 : Expr} {ta : TA} {p pos tpos : Pos} {elts : List Expr} {kk : Nat} (hg : Gl X "zip") (hm : X.mg "zip" = none) (ha : L2.PA X [e, e2] ta)
    (hs : starEach [e, e2] X.env = (false, eval e X.env) :: starEach [e2] X.env) (hpl : (backTo pos (starEach [e2] X.env)).any (·.1) = false) :
    PI X (.Tuple elts kk tpos) (.Call (.Name "zip" p) [e, e2] [] pos) (iZipM X.K ta) := by
  refine ⟨fun pins s σ H R I h => ?_⟩
  refine Call_ (ld_blt I hg hm PyProof.Rows.boot_zip (PyProof.Rows.callWith_type1 (thn (ha.run pos pins s σ H _ I h) fun us s1 ⟨vs, H1, I1, r1, q1⟩ => ?_) hs hpl))
  obtain ⟨a, b, xs, ys, ex, q1⟩ := q1
  subst ex
  obtain ⟨u1, u2, rfl, hr1, hr2⟩ : ∃ u1 u2, us = [u1, u2] ∧ RelV (.ref a) u1 ∧ RelV (.ref b) u2 := by
    cases r1 with
    | cons r rr =>
      cases rr with
      | cons r' rr =>
        cases rr
        exact ⟨_, _, rfl, r, r'⟩
  cases hr1
  cases hr2
  generalize hn : s1.heap.objs.size = n
  have fresh : ∀ c, c ∈ [n + 4, n + 2, n + 3, n, n + 1] → FpOk X pins H1 c := fun c hc => by
    have hle : s1.heap.objs.size ≤ c := by
      have : c = n + 4 ∨ c = n + 2 ∨ c = n + 3 ∨ c = n ∨ c = n + 1 := by simpa using hc
      omega
    exact I1.fpOk hle (I1.hok.fresh hle)
  rcases q1 with ⟨hx, hy, q⟩ | ⟨hx, hy, q⟩ | ⟨hx, hy, q⟩
  · obtain ⟨its, rv, p1, _⟩ := I1.list hx
    obtain ⟨its2, rv2, p2, _⟩ := I1.list hy
    refine call_zip_2 p1.isList p2.isList fun h' hz hTI hTO h1 h2 hsz hk => wpAny_pyIter_zip hz ?_
    rw [hn] at hz hTI hTO h1 h2 ⊢
    exact ⟨n + 4, [n + 4, n + 2, n + 3, n, n + 1], _, _, H1, rfl, I1.kept (t' := s1.toks) hk, turn_zip (PySem.W.ktu_apart n a b (hn ▸ p1.lt) (hn ▸ p2.lt)), ⟨hz, hTI, ⟨_, _, hTO⟩, h1, h2⟩, fresh, q⟩
  · obtain ⟨its, rv, p1, _⟩ := I1.tuple hx
    obtain ⟨its2, rv2, p2, _⟩ := I1.tuple hy
    obtain ⟨o1, ho1, _⟩ := id p1
    obtain ⟨o2, ho2, _⟩ := id p2
    refine RZ.call_zipT (show s1.heap.IsTuple a its.toArray from p1) (show s1.heap.IsTuple b its2.toArray from p2) fun h' hz hTI hTO h1 h2 hsz hk => wpAny_pyIter_zip hz ?_
    rw [hn] at hz hTI hTO h1 h2 ⊢
    exact ⟨n + 4, [n + 4, n + 2, n + 3, n, n + 1], _, _, H1, rfl, I1.kept (t' := s1.toks) hk, RZ.turn_zipT (PySem.W.ktu_apart n a b (hn ▸ Heap.lt_size ho1) (hn ▸ Heap.lt_size ho2)), ⟨hz, hTI, ⟨_, _, hTO⟩, h1, h2⟩, fresh, q⟩
  · obtain ⟨its, rv, p1, _⟩ := I1.tuple hx
    obtain ⟨its2, rv2, p2, _⟩ := I1.list hy
    obtain ⟨o1, ho1, _⟩ := id p1
    refine call_zipM (show s1.heap.IsTuple a its.toArray from p1) p2.isList fun h' hz hTI hTO h1 h2 hk => wpAny_pyIter_zip hz ?_
    rw [hn] at hz hTI hTO h1 h2 ⊢
    exact ⟨n + 4, [n + 4, n + 2, n + 3, n, n + 1], _, _, H1, rfl, I1.kept (t' := s1.toks) hk, turn_zipM (PySem.W.ktu_apart n a b (hn ▸ Heap.lt_size ho1) (hn ▸ p2.lt)), ⟨hz, hTI, ⟨_, _, hTO⟩, h1, h2⟩, fresh, q⟩
end T
end

section
namespace T
open PySem PySem.Spec L2

section
variable {G : Glo} {N : List Str} {sc : Scope} {k : Nat} {W : WX} {X : Cx} {pg : Pg} {cf : CF} {o : Bool} {pos : Pos} {T : Tbl}
variable {F F' F'' F2 : Addr → Prop} {ι ι' ι'' : List Addr} {H H' H'' H0 : Hp} {B : Ent} {ss : Slots} {μ : Store} {σ : St}

/-! ### what values need to stay -/
structure Stv (F : Addr → Prop) (ι : List Addr) (H : Hp) (F' : Addr → Prop) (ι' : List Addr) (H' : Hp) : Prop where
  up : ∀ a, F a → F' a
  idx : ∀ (n : Nat) (a : Addr), ι[n]? = some a → ι'[n]? = some a
  kF : ∀ b o, F b → H b = some o → H' b = some o
  kT : ∀ b o, H b = some o → ¬ MutO o → H' b = some o
theorem Stv.refl : Stv F ι H F ι H := ⟨fun _ h => h, fun _ _ h => h, fun _ _ _ h => h, fun _ _ h _ => h⟩
theorem Stv.trans (s : Stv F ι H F' ι' H') (t : Stv F' ι' H' F'' ι'' H'') : Stv F ι H F'' ι'' H'' :=
  ⟨fun a h => t.up a (s.up a h), fun n a h => t.idx n a (s.idx n a h), fun b o f h => t.kF b o (s.up b f) (s.kF b o f h), fun b o h m => t.kT b o (s.kT b o h m) m⟩
theorem Stp.stv (w : Wld F ι H) (s : Stp F ι H F' ι' H') : Stv F ι H F' ι' H' :=
  ⟨s.up, fun n a h => s.idx h, fun b o f h => s.keep b o h (w.fz f), fun b o h m => s.keep b o h fun z => by
    obtain ⟨o', e, m'⟩ := w.mu b z
    rw [h] at e
    cases e
    exact m m'⟩
theorem SqT.stepv {K : PySem.W.Frag} {a : Addr} {vs : List V} (s : Stv F ι H F' ι' H') (h : SqT K H a vs) : SqT K H' a vs := by
  rcases h with h | h
  · rcases h with h | ⟨ob, h⟩
    · exact .inl (.inl (s.kT _ _ h fun z => z))
    · exact .inl (.inr ⟨ob, s.kT _ _ h fun z => z⟩)
  · exact .inr h
theorem RoL.stepv {K : PySem.W.Frag} {a : Addr} {vs : List V} (s : Stv F ι H F' ι' H') (h : RoL K H a vs) : RoL K H' a vs := by
  rcases h with ⟨ob, h⟩ | h
  · exact .inl ⟨ob, s.kT _ _ h fun z => z⟩
  · exact .inr h
mutual
theorem Rp.stepv (s : Stv F ι H F' ι' H') : ∀ {d : D} {v : V}, Rp G F ι H d v → Rp G F' ι' H' d v
  | _, _, .non => .non
  | _, _, .bl b => .bl b
  | _, _, .int i => .int i
  | _, _, .str x => .str x
  | _, _, .tup h r => .tup (SqT.stepv s h) (Rps.stepv s r)
  | _, _, .lst f h r => .lst (s.up _ f) (s.kF _ _ f h) (Rps.stepv s r)
  | _, _, .ro h r => .ro (RoL.stepv s h) (Rps.stepv s r)
  | _, _, .dct f h l r => .dct (s.up _ f) (s.kF _ _ f h) l (Rps.stepv s r)
  | _, _, .ins f h l c v r => .ins (s.up _ f) (s.kF _ _ f h) l c v (Rps.stepv s r)
  | _, _, .ref h => .ref (s.idx _ _ h)
theorem Rps.stepv (s : Stv F ι H F' ι' H') : ∀ {ds : List D} {vs : List V}, Rps G F ι H ds vs → Rps G F' ι' H' ds vs
  | _, _, .nil => .nil
  | _, _, .cons h r => .cons (Rp.stepv s h) (Rps.stepv s r)
end
theorem RpO.stepv (s : Stv F ι H F' ι' H') {ob : Ob} {ho : HO} (r : RpO G F ι H ob ho) : RpO G F' ι' H' ob ho := by
  cases r with
  | lst r => exact .lst (Rps.stepv s r)
  | dct r l => exact .dct (Rps.stepv s r) l
  | ins r l c v => exact .ins (Rps.stepv s r) l c v

/-! ### a list that is nobody's is written -/
theorem stv_upd {a : Addr} {ho u : HO} (ha : H a = some ho) (hm : MutO ho) (hf : ¬ F a) : Stv F ι H F ι (upd H a u) :=
  ⟨fun _ h => h, fun _ _ h => h, fun b o f h => by rw [upd_ne (by rintro rfl; exact hf f)]; exact h, fun b o h m => by
    rw [upd_ne (fun e => by subst e; rw [ha] at h; cases h; exact m hm)]; exact h⟩
theorem wld_upd {a : Addr} {u : HO} (w : Wld F ι H) (hi : a ∉ ι) : Wld F ι (upd H a u) :=
  ⟨w.nd, fun b hb => by
    obtain ⟨o, e, m⟩ := w.mu b hb
    exact ⟨o, by rw [upd_ne (by rintro rfl; exact hi hb)]; exact e, m⟩, w.dis, fun b hb => by
    by_cases e : b = a
    · subst e; rw [upd_same]; simp
    · rw [upd_ne e]; exact w.dom b hb⟩
theorem relM_upd {a : Addr} {ho u : HO} (w : Wld F ι H) (m : RelM G F μ ι H) (ha : H a = some ho) (hm : MutO ho) (hf : ¬ F a) (hi : a ∉ ι) : RelM G F μ ι (upd H a u) :=
  ⟨m.len, fun n ob b h1 h2 => by
    obtain ⟨q, e, r⟩ := m.at_ n ob b h1 h2
    exact ⟨q, by rw [upd_ne (by rintro rfl; exact hi (List.mem_of_getElem? h2))]; exact e, RpO.stepv (stv_upd ha hm hf) r⟩⟩
/-- .. seen from a state in which it was not there -/
theorem stp_upd {a : Addr} {u : HO} (s : Stp F ι H F' ι' H') (ha : H a = none) : Stp F ι H F' ι' (upd H' a u) :=
  ⟨s.up, s.new, s.pre, fun b o h n => by rw [upd_ne (ne_of_none h ha)]; exact s.keep b o h n, fun b h => by
    by_cases e : b = a
    · subst e; rw [upd_same]; simp
    · rw [upd_ne e]; exact s.dom b h⟩

/-! ### slots forgotten -/
theorem wipeS_len (ss : Slots) : ∀ vs : List Nat, (wipeS ss vs).length = ss.length
  | [] => rfl
  | v :: vs => by unfold wipeS; rw [List.length_set, wipeS_len ss vs]
theorem wipeS_get {ss : Slots} {i : Nat} {x : Sl} : ∀ {vs : List Nat}, (wipeS ss vs)[i]? = some x → x = .emp ∨ (ss[i]? = some x ∧ i ∉ vs)
  | [], h => .inr ⟨h, by simp⟩
  | v :: vs, h => by
    unfold wipeS at h
    by_cases e : v = i
    · subst e
      rw [List.getElem?_set_self'] at h
      cases q : (wipeS ss vs)[v]? with
      | none => rw [q] at h; cases h
      | some y => rw [q] at h; cases h; exact .inl rfl
    · rw [List.getElem?_set_ne e] at h
      rcases wipeS_get h with h | ⟨h1, h2⟩
      · exact .inl h
      · exact .inr ⟨h1, fun z => (List.mem_cons.mp z).elim (fun z => e z.symm) h2⟩
theorem wipe_out {σ : St} {i : Nat} : ∀ {vs : List Nat}, i ∉ vs → (wipe σ vs)[i]? = σ[i]?
  | [], _ => rfl
  | v :: vs, h => by
    unfold wipe
    rw [List.getElem?_set_ne (fun e => h (by rw [e]; exact List.mem_cons_self)), wipe_out fun z => h (List.mem_cons_of_mem _ z)]
theorem Rel.wipe (R : Rel G B ss μ F ι σ H) (vs : List Nat) : Rel G B (wipeS ss vs) μ F ι (L2.wipe σ vs) H := by
  refine ⟨R.w, R.m, R.st, by rw [wipeS_len, wipe_length]; exact R.len, fun i x e => ?_, fun i ds a e1 e2 => ?_, fun i j ds es a e1 e2 e3 e4 => ?_⟩
  · rcases wipeS_get e with h | ⟨h1, h2⟩
    · subst h; trivial
    · rw [wipe_out h2]; exact R.sl i x h1
  · rcases wipeS_get e1 with h | ⟨h1, h2⟩
    · cases h
    · rw [wipe_out h2] at e2; exact R.own i ds a h1 e2
  · rcases wipeS_get e1 with h | ⟨h1, h2⟩
    · cases h
    · rcases wipeS_get e2 with h | ⟨h3, h4⟩
      · cases h
      · rw [wipe_out h2] at e3
        rw [wipe_out h4] at e4
        exact R.sep i j ds es a h1 h3 e3 e4

/-! ### targets -/
theorem Rel.setv (R : Rel G B ss μ F ι σ H) {i : Nat} {d : D} {v : V} (hi : i < ss.length) (r : Rp G F ι H d v) : Rel G B (ss.set i (.val d)) μ F ι (σ.set i (some v)) H := by
  have hi' : i < σ.length := by rw [← R.len]; exact hi
  have gs : ∀ (j : Nat) (x : Sl), (ss.set i (.val d))[j]? = some x → (j = i ∧ x = .val d) ∨ (j ≠ i ∧ ss[j]? = some x) := fun j x e => by
    by_cases h : i = j
    · subst h
      rw [List.getElem?_set_self hi] at e
      cases e
      exact .inl ⟨rfl, rfl⟩
    · rw [List.getElem?_set_ne h] at e
      exact .inr ⟨fun z => h z.symm, e⟩
  refine ⟨R.w, R.m, R.st, by rw [List.length_set, List.length_set]; exact R.len, fun j x e => ?_, fun j ds a e1 e2 => ?_, fun j l ds es a e1 e2 e3 e4 => ?_⟩
  · rcases gs j x e with ⟨rfl, rfl⟩ | ⟨h, e⟩
    · exact ⟨v, by rw [List.getElem?_set_self hi'], r⟩
    · rw [List.getElem?_set_ne (fun z => h z.symm)]; exact R.sl j x e
  · rcases gs j _ e1 with ⟨_, z⟩ | ⟨h, e⟩
    · cases z
    · rw [List.getElem?_set_ne (fun z => h z.symm)] at e2; exact R.own j ds a e e2
  · rcases gs j _ e1 with ⟨_, z⟩ | ⟨h, e⟩
    · cases z
    · rcases gs l _ e2 with ⟨_, z⟩ | ⟨h', e'⟩
      · cases z
      · rw [List.getElem?_set_ne (fun z => h z.symm)] at e3
        rw [List.getElem?_set_ne (fun z => h' z.symm)] at e4
        exact R.sep j l ds es a e e' e3 e4
theorem wipe_set {σ : St} {i : Nat} {x : Option V} : ∀ {vs : List Nat}, i ∈ vs → L2.wipe (σ.set i x) vs = L2.wipe σ vs
  | [], h => by simp at h
  | v :: vs, h => by
    unfold L2.wipe
    by_cases e : i ∈ vs
    · rw [wipe_set e]
    · have e2 : i = v := (List.mem_cons.mp h).elim id (fun h => absurd h e)
      subst e2
      have : ∀ {us : List Nat}, i ∉ us → L2.wipe (σ.set i x) us = (L2.wipe σ us).set i x := by
        intro us
        induction us with
        | nil => intro _; rfl
        | cons u us ih =>
          intro hn
          unfold L2.wipe
          rw [ih fun z => hn (List.mem_cons_of_mem _ z), List.set_comm _ _ (fun z => hn (by rw [z]; exact List.mem_cons_self))]
      rw [this e, List.set_set]
/-- targets, one behind another -/
def bindTs : List Tg → List D → Slots → Option Slots
  | [], [], ss => some ss
  | t :: ts, d :: ds, ss => (bindT t d ss).bind (bindTs ts ds)
  | _, _, _ => none
/-- a target's store -/
def gT (G : Glo) (tg : Tg) (vs : List Nat) : TG := fun v σ H Q => ∃ B ss μ F ι d ss', Rel G B ss μ F ι σ H ∧ Rp G F ι H d v ∧ bindT tg d ss = some ss' ∧ ∀ σ', Rel G B ss' μ F ι σ' H → L2.wipe σ' vs = L2.wipe σ vs → Q σ' H
theorem assignEach_cons {e : Expr} {es : List Expr} {env : Env} (h : plainA e = true) : assignEach (e :: es) env = (false, assign e env) :: assignEach es env := by
  cases e <;> first | rfl | cases h
theorem mTg_plain {can : Str → Bool} : ∀ {tg : Tg} {e : Expr}, mTg N can tg e = true → plainA e = true
  | .v i, e, h => by cases e <;> first | rfl | cases h
  | .t2 a b, e, h => by cases e <;> first | rfl | cases h
  | .t3 a b c, e, h => by cases e <;> first | rfl | cases h
  | .t4 a b c d, e, h => by cases e <;> first | rfl | cases h
theorem gT_v {tg : Tg} {i : Nat} {vs : List Nat} {v : V} {Q : St → Hp → Prop} (hv : i ∈ vs) (h : gT G (.v i) vs v σ H Q) : gName i v σ H Q := by
  obtain ⟨B, ss, μ, F, ι, d, ss', R, r, e, q⟩ := h
  unfold bindT at e
  split at e
  · cases e
    exact q _ (R.setv (by assumption) r) (wipe_set hv)
  · cases e
theorem Rps.two {d e : D} {vs : List V} (r : Rps G F ι H [d, e] vs) : ∃ v u, vs = [v, u] ∧ Rp G F ι H d v ∧ Rp G F ι H e u := by
  cases r with
  | cons h r => cases r with
    | cons h2 r => cases r; exact ⟨_, _, rfl, h, h2⟩
/-- parts, one behind another -/
def gTs (G : Glo) (vs : List Nat) : List Tg → TGs := fun tgs us σ H Q => ∃ B ss μ F ι ds ss', Rel G B ss μ F ι σ H ∧ Rps G F ι H ds us ∧ bindTs tgs ds ss = some ss' ∧ ∀ σ', Rel G B ss' μ F ι σ' H → L2.wipe σ' vs = L2.wipe σ vs → Q σ' H
theorem pgs_nilT {vs : List Nat} : PGs X [] (gTs G vs []) := by
  refine ⟨fun pins s σ H us us' Q I r h => ?_⟩
  obtain ⟨B, ss, μ, F, ι, ds, ss', R, rs, e, q⟩ := h
  cases ds with
  | nil =>
    cases e
    cases rs
    exact pgs_nil.run pins s σ H _ _ Q I r ⟨rfl, q σ R rfl⟩
  | cons _ _ => cases e
theorem pgs_consT {vs : List Nat} {t : Tg} {ts : List Tg} {e : Expr} {es : List Expr} (hp : plainA e = true) (h1 : PG X e (gT G t vs)) (h2 : PGs X es (gTs G vs ts)) : PGs X (e :: es) (gTs G vs (t :: ts)) := by
  refine ⟨fun pins s σ H us us' Q I r h => ?_⟩
  obtain ⟨B, ss, μ, F, ι, ds, ss', R, rs, eb, q⟩ := h
  cases ds with
  | nil => cases eb
  | cons d ds =>
    cases rs with
    | cons r1 rs =>
      obtain ⟨s1, e1, e2⟩ := Option.bind_eq_some_iff.mp eb
      refine (pgs_cons h1 h2 (by rw [assignEach_cons hp]; rfl)).run pins s σ H _ _ Q I r ⟨_, _, rfl, ?_⟩
      exact ⟨B, ss, μ, F, ι, d, s1, R, r1, e1, fun σ' R' ew => ⟨B, s1, μ, F, ι, ds, ss', R', rs, e2, fun σ2 R2 ew2 => q σ2 R2 (ew2.trans ew)⟩⟩
theorem pg_lst {es : List Expr} {k : Nat} {t : TGs} {n : Nat} (hc : X.calm = true) (h : PGs X es t) (hn : (assignEach es X.env).length = n) (hst : (assignEach es X.env).findIdx? (·.1) = none) :
    PG X (.Tuple es k pos) (fun v σ H Q => ∃ a xs, v = .ref a ∧ SqL X.K H a xs ∧ xs.length = n ∧ t xs σ H Q) := by
  refine ⟨fun pins s σ H v u Q I r hw => ?_⟩
  obtain ⟨a, xs, e1, hq, hl, hw⟩ := hw
  subst e1
  cases r
  obtain ⟨its, rv, ht, hz⟩ := I.list hq
  rw [PyProof.Rows.assign_Tuple]
  refine wpAny_bind (wpAny_standAt ?_)
  unfold unpack
  rw [hst, show (assignEach es X.env).length = its.toArray.size by simp [hn, ← hl, rv.length]]
  refine wpAny_bind (wpAny_holding (PySem.W.kun_itemsOf (I.ok.hd hc) ht.isList fun h' hx => ?_))
  have I1 : Inv X pins σ H { s with heap := h' } := I.kept (t' := s.toks) fun b o e => hx b o (Nat.ne_of_lt (Heap.lt_size e)) e
  exact h.run pins _ σ H xs _ Q I1 (by simpa using rv) hw
theorem pg_tupT (hK : X.K = G.K) (hc : X.calm = true) {vs : List Nat} {tg : Tg} {ts : List Tg} {es : List Expr} {k0 : Nat} (hn : es.length = ts.length) (hp : ∀ e ∈ es, plainA e = true) (hs : PGs X es (gTs G vs ts))
    (hb : ∀ d ss ss', bindT tg d ss = some ss' → ∃ ds, (d = .tup ds ∨ d = .lst ds) ∧ bindTs ts ds ss = some ss') : PG X (.Tuple es k0 pos) (gT G tg vs) := by
  refine ⟨fun pins s σ H v u Q I r h => ?_⟩
  obtain ⟨B, ss, μ, F, ι, d, ss', R, r1, eb, q⟩ := h
  obtain ⟨ds, hd, e2⟩ := hb _ _ _ eb
  have len : ∀ (ts : List Tg) (ds : List D) (ss ss' : Slots), bindTs ts ds ss = some ss' → ds.length = ts.length := by
    intro ts
    induction ts with
    | nil => intro ds ss ss' e; cases ds <;> first | rfl | cases e
    | cons t ts ih =>
      intro ds ss ss' e
      cases ds with
      | nil => cases e
      | cons d ds =>
        obtain ⟨s1, e1, e2⟩ := Option.bind_eq_some_iff.mp e
        rw [List.length_cons, List.length_cons, ih ds s1 ss' e2]
  have ae : ∀ es : List Expr, (∀ e ∈ es, plainA e = true) → (assignEach es X.env).length = es.length ∧ (assignEach es X.env).findIdx? (·.1) = none := by
    intro es
    induction es with
    | nil => intro _; exact ⟨rfl, rfl⟩
    | cons e es ih =>
      intro hp
      obtain ⟨i1, i2⟩ := ih fun x hx => hp x (List.mem_cons_of_mem _ hx)
      rw [assignEach_cons (hp e List.mem_cons_self)]
      refine ⟨by rw [List.length_cons, List.length_cons, i1], ?_⟩
      rw [List.findIdx?_cons, i2]
      rfl
  obtain ⟨a1, a2⟩ := ae es hp
  rcases hd with rfl | rfl
  rotate_left
  · cases r1 with
    | lst f hl rs => exact (pg_lst hc hs a1 a2).run pins s σ H _ u Q I r ⟨_, _, rfl, by rw [hK]; exact .inl (.inl hl), by rw [← rs.length, len _ _ _ _ e2, hn], B, ss, μ, F, ι, ds, ss', R, rs, e2, q⟩
  cases r1 with
  | tup ht rs =>
    exact (pg_tup hc hs a1 a2).run pins s σ H _ u Q I r ⟨_, _, rfl, by rw [hK]; exact ht, by rw [← rs.length, len _ _ _ _ e2, hn], B, ss, μ, F, ι, ds, ss', R, rs, e2, q⟩
theorem bindT_2 {a b : Tg} {ss ss' : Slots} : ∀ {d : D}, bindT (.t2 a b) d ss = some ss' → ∃ ds, (d = .tup ds ∨ d = .lst ds) ∧ bindTs [a, b] ds ss = some ss'
  | .tup [x, y], e => ⟨_, .inl rfl, by
    have e : (bindT a x ss).bind (bindT b y) = some ss' := e
    simpa [bindTs, Option.bind_assoc] using e⟩
  | .tup [], e => nomatch e
  | .tup [_], e => nomatch e
  | .tup (_ :: _ :: _ :: _), e => nomatch e
  | .non, e => nomatch e | .bl _, e => nomatch e | .int _, e => nomatch e | .str _, e => nomatch e | .lst _, e => nomatch e | .ro _, e => nomatch e | .dct _ _, e => nomatch e | .ins _ _ _, e => nomatch e | .ref _, e => nomatch e
theorem bindT_3 {a b c : Tg} {ss ss' : Slots} : ∀ {d : D}, bindT (.t3 a b c) d ss = some ss' → ∃ ds, (d = .tup ds ∨ d = .lst ds) ∧ bindTs [a, b, c] ds ss = some ss'
  | .tup [x, y, z], e => ⟨_, .inl rfl, by
    have e : ((bindT a x ss).bind (bindT b y)).bind (bindT c z) = some ss' := e
    simpa [bindTs, Option.bind_assoc] using e⟩
  | .lst [x, y, z], e => ⟨_, .inr rfl, by
    have e : ((bindT a x ss).bind (bindT b y)).bind (bindT c z) = some ss' := e
    simpa [bindTs, Option.bind_assoc] using e⟩
  | .lst [], e => nomatch e
  | .lst [_], e => nomatch e
  | .lst [_, _], e => nomatch e
  | .lst (_ :: _ :: _ :: _ :: _), e => nomatch e
  | .tup [], e => nomatch e
  | .tup [_], e => nomatch e
  | .tup [_, _], e => nomatch e
  | .tup (_ :: _ :: _ :: _ :: _), e => nomatch e
  | .non, e => nomatch e | .bl _, e => nomatch e | .int _, e => nomatch e | .str _, e => nomatch e | .ro _, e => nomatch e | .dct _ _, e => nomatch e | .ins _ _ _, e => nomatch e | .ref _, e => nomatch e
theorem bindT_4 {a b c f : Tg} {ss ss' : Slots} : ∀ {d : D}, bindT (.t4 a b c f) d ss = some ss' → ∃ ds, (d = .tup ds ∨ d = .lst ds) ∧ bindTs [a, b, c, f] ds ss = some ss'
  | .tup [x, y, z, u], e => ⟨_, .inl rfl, by
    have e : (((bindT a x ss).bind (bindT b y)).bind (bindT c z)).bind (bindT f u) = some ss' := e
    simpa [bindTs, Option.bind_assoc] using e⟩
  | .tup [], e => nomatch e
  | .tup [_], e => nomatch e
  | .tup [_, _], e => nomatch e
  | .tup [_, _, _], e => nomatch e
  | .tup (_ :: _ :: _ :: _ :: _ :: _), e => nomatch e
  | .non, e => nomatch e | .bl _, e => nomatch e | .int _, e => nomatch e | .str _, e => nomatch e | .lst _, e => nomatch e | .ro _, e => nomatch e | .dct _ _, e => nomatch e | .ins _ _ _, e => nomatch e | .ref _, e => nomatch e
theorem s_tg (g : Gd G N sc k W X) {can : Str → Bool} (hcan : ∀ x, can x = true → Loc X.env.scope x ∧ (X.fn x = true ∨ X.env.scope.names.lookup x = some .local)) {vs : List Nat} :
    ∀ (tg : Tg) (e : Expr), mTg N can tg e = true → (∀ i ∈ tg.slots, i ∈ vs) → PG X e (gT G tg vs)
  | .v i, .Name x p, h, hv => by
    unfold mTg at h
    obtain ⟨h1, h2⟩ := Bool.and_eq_true_iff.mp h
    obtain ⟨c1, c2⟩ := hcan x h2
    exact ⟨fun pins s σ H v u Q I r q => (pg_name (by exact g.nd) (by rw [g.N]; exact of_decide_eq_true h1) c1 c2).run pins s σ H v u Q I r (gT_v (tg := .v i) (hv i (by simp [Tg.slots])) q)⟩
  | .t2 a b, .Tuple [x, y] k0 p, h, hv => by
    unfold mTg at h
    obtain ⟨h1, h2⟩ := Bool.and_eq_true_iff.mp h
    have ia := s_tg g hcan a x h1 fun i hi => hv i (by simp [Tg.slots, hi])
    have ib := s_tg g hcan b y h2 fun i hi => hv i (by simp [Tg.slots, hi])
    refine pg_tupT g.K g.calm (ts := [a, b]) rfl (by simp [mTg_plain h1, mTg_plain h2]) (pgs_consT (mTg_plain h1) ia (pgs_consT (mTg_plain h2) ib pgs_nilT)) fun d ss ss' e => bindT_2 e
  | .t3 a b c, .Tuple [x, y, z] k0 p, h, hv => by
    unfold mTg at h
    simp only [Bool.and_eq_true] at h
    obtain ⟨⟨h1, h2⟩, h3⟩ := h
    have ia := s_tg g hcan a x h1 fun i hi => hv i (by simp [Tg.slots, hi])
    have ib := s_tg g hcan b y h2 fun i hi => hv i (by simp [Tg.slots, hi])
    have ic := s_tg g hcan c z h3 fun i hi => hv i (by simp [Tg.slots, hi])
    refine pg_tupT g.K g.calm (ts := [a, b, c]) rfl (by simp [mTg_plain h1, mTg_plain h2, mTg_plain h3]) (pgs_consT (mTg_plain h1) ia (pgs_consT (mTg_plain h2) ib (pgs_consT (mTg_plain h3) ic pgs_nilT))) fun d ss ss' e => bindT_3 e
  | .t4 a b c f, .Tuple [x, y, z, u] k0 p, h, hv => by
    unfold mTg at h
    simp only [Bool.and_eq_true] at h
    obtain ⟨⟨⟨h1, h2⟩, h3⟩, h4⟩ := h
    have ia := s_tg g hcan a x h1 fun i hi => hv i (by simp [Tg.slots, hi])
    have ib := s_tg g hcan b y h2 fun i hi => hv i (by simp [Tg.slots, hi])
    have ic := s_tg g hcan c z h3 fun i hi => hv i (by simp [Tg.slots, hi])
    have id := s_tg g hcan f u h4 fun i hi => hv i (by simp [Tg.slots, hi])
    refine pg_tupT g.K g.calm (ts := [a, b, c, f]) rfl (by simp [mTg_plain h1, mTg_plain h2, mTg_plain h3, mTg_plain h4]) (pgs_consT (mTg_plain h1) ia (pgs_consT (mTg_plain h2) ib (pgs_consT (mTg_plain h3) ic (pgs_consT (mTg_plain h4) id pgs_nilT)))) fun d ss ss' e => bindT_4 e
end
end T
end

section
namespace T
open PySem PySem.Spec L2

section
variable {G : Glo} {N : List Str} {sc : Scope} {k : Nat} {W : WX} {X : Cx} {pg : Pg} {cf : CF} {o : Bool} {pos : Pos} {T : Tbl}
variable {F F' F'' F2 : Addr → Prop} {ι ι' ι'' : List Addr} {H H' H'' H0 : Hp} {B : Ent} {ss : Slots} {μ : Store} {σ : St}

/-! ### what is walked -/
abbrev Later := (Addr → Prop) → List Addr → Hp → Prop
/-- at each later state the items are these -/
def ItOk (G : Glo) (S : Later) (J : It) (xs : List D) : Prop := ∀ F ι H, S F ι H → ∀ i : Nat, (∀ d, xs[i]? = some d → J.go i H ∧ ∀ x H', J.yld i H x H' → (∀ b ob, H b = some ob → H' b = some ob) ∧ (H' = H ∨ ∃ p u, H p = none ∧ H' = upd H p u) ∧ (Wld F ι H → Rp G F ι H' d x)) ∧ (xs[i]? = none → J.stop i H)
/-- what stays of a value at the later states -/
def Stab (G : Glo) (o : Bool) (S : (Addr → Prop) → List Addr → Hp → Later) : Prop := ∀ F ι H d v, Wld F ι H → Rq G F ι H o d v → ∀ F' ι' H', S F ι H F' ι' H' → Rq G F' ι' H' o d v
theorem stab_stp : Stab G o Stp := fun F ι H d v w r F' ι' H' s => Rq.step w s r
theorem stab_stv : Stab G false Stv := fun F ι H d v w r F' ι' H' s => .of (Rp.stepv s r.rp)
theorem Rps.getD : ∀ {ds : List D} {vs : List V} {i : Nat}, Rps G F ι H ds vs → ds[i]? = none → vs.length ≤ i := fun r e => by
  rw [← r.length]
  exact List.getElem?_eq_none_iff.mp e
theorem itl_ok {S : Later} {a : Addr} {ds : List D} (h : ∀ F ι H, S F ι H → ∃ vs, SqL G.K H a vs ∧ Rps G F ι H ds vs) : ItOk G S (Itl G.K a) ds := by
  intro F ι H s i
  obtain ⟨vs, hs, rs⟩ := h F ι H s
  refine ⟨fun d e => ?_, fun e => ⟨vs, hs, rs.getD e⟩⟩
  obtain ⟨v, e1, r1⟩ := rs.get e
  refine ⟨⟨vs, v, hs, e1⟩, fun x H' y => ?_⟩
  obtain ⟨rfl, y⟩ := y
  have := y vs hs
  rw [e1] at this
  cases this
  exact ⟨fun _ _ h => h, .inl rfl, fun _ => r1⟩
theorem itt_ok {S : Later} {a : Addr} {ds : List D} (h : ∀ F ι H, S F ι H → ∃ vs, SqT G.K H a vs ∧ Rps G F ι H ds vs) : ItOk G S (Itt G.K a) ds := by
  intro F ι H s i
  obtain ⟨vs, hs, rs⟩ := h F ι H s
  refine ⟨fun d e => ?_, fun e => ⟨vs, hs, rs.getD e⟩⟩
  obtain ⟨v, e1, r1⟩ := rs.get e
  refine ⟨⟨vs, v, hs, e1⟩, fun x H' y => ?_⟩
  obtain ⟨rfl, y⟩ := y
  have := y vs hs
  rw [e1] at this
  cases this
  exact ⟨fun _ _ h => h, .inl rfl, fun _ => r1⟩
theorem its_ok {S : Later} {z : Str} : ItOk G S (Its z) (z.cps.toList.map fun c => D.str ⟨#[c]⟩) := by
  intro F ι H s i
  refine ⟨fun d e => ?_, fun e => ?_⟩
  · rw [List.getElem?_map] at e
    obtain ⟨c, e1, rfl⟩ := Option.map_eq_some_iff.mp e
    rw [Array.getElem?_toList] at e1
    refine ⟨(Array.getElem?_eq_some_iff.mp e1).1, fun x H' y => ?_⟩
    obtain ⟨rfl, c', e2, rfl⟩ := y
    rw [e1] at e2
    cases e2
    exact ⟨fun _ _ h => h, .inl rfl, fun _ => .str _⟩
  · rw [List.getElem?_map] at e
    have e := Option.map_eq_none_iff.mp e
    rw [Array.getElem?_toList] at e
    exact Array.getElem?_eq_none_iff.mp e
theorem itr_ok {S : Later} {lo : Int} {n : Nat} : ItOk G S (Itr lo n) ((List.range n).map fun k => D.int (lo + (k : Nat))) := by
  intro F ι H s i
  refine ⟨fun d e => ?_, fun e => ?_⟩
  · rw [List.getElem?_map] at e
    obtain ⟨c, e1, rfl⟩ := Option.map_eq_some_iff.mp e
    obtain ⟨hlt, e2⟩ := List.getElem?_eq_some_iff.mp e1
    rw [List.length_range] at hlt
    rw [List.getElem_range] at e2
    subst e2
    refine ⟨hlt, fun x H' y => ?_⟩
    obtain ⟨rfl, rfl⟩ := y
    exact ⟨fun _ _ h => h, .inl rfl, fun _ => .int _⟩
  · rw [List.getElem?_map] at e
    have e := Option.map_eq_none_iff.mp e
    rw [List.getElem?_eq_none_iff, List.length_range] at e
    exact e
theorem ite_ok {S : Later} {a : Addr} {ds : List D} (h : ∀ F ι H, S F ι H → ∃ vs, SqL G.K H a vs ∧ Rps G F ι H ds vs) : ItOk G S (Ite G.K a) (ds.zipIdx.map fun p => D.tup [.int (p.2 : Nat), p.1]) := by
  intro F ι H s i
  obtain ⟨vs, hs, rs⟩ := h F ι H s
  refine ⟨fun d e => ?_, fun e => ⟨vs, hs, ?_⟩⟩
  · rw [List.getElem?_map, List.getElem?_zipIdx] at e
    cases q : ds[i]? with
    | none => rw [q] at e; cases e
    | some z =>
      rw [q] at e
      cases e
      obtain ⟨v, e1, r1⟩ := rs.get q
      refine ⟨⟨vs, v, hs, e1⟩, fun x H' y => ?_⟩
      obtain ⟨p, x', rfl, hp, rfl, y⟩ := y
      have := y vs hs
      rw [e1] at this
      cases this
      refine ⟨ext_upd hp, .inr ⟨_, _, hp, rfl⟩, fun w => .tup (.inl (.inl upd_same)) (.cons ?_ (.cons (Rp.step w (Stp.ext w (ext_upd hp)) r1) .nil))⟩
      show Rp G F ι _ (.int ((0 + i : Nat) : Int)) (.int ((i : Nat) : Int))
      rw [Nat.zero_add]
      exact .int _
  · rw [List.getElem?_map, List.getElem?_zipIdx] at e
    have e := Option.map_eq_none_iff.mp e
    exact rs.getD (Option.map_eq_none_iff.mp e)
theorem itz_ok {S : Later} {a b : Addr} {ds es : List D} (h : ∀ F ι H, S F ι H → ∃ vs, SqL G.K H a vs ∧ Rps G F ι H ds vs) (h2 : ∀ F ι H, S F ι H → ∃ vs, SqL G.K H b vs ∧ Rps G F ι H es vs) : ItOk G S (Itz G.K a b) ((ds.zip es).map fun p => D.tup [p.1, p.2]) := by
  intro F ι H s i
  obtain ⟨vs, hs, rs⟩ := h F ι H s
  obtain ⟨us, hu, ru⟩ := h2 F ι H s
  refine ⟨fun d e => ?_, fun e => ⟨vs, us, hs, hu, ?_⟩⟩
  · rw [List.getElem?_map] at e
    obtain ⟨p, e1, rfl⟩ := Option.map_eq_some_iff.mp e
    obtain ⟨q1, q2⟩ := List.getElem?_zip_eq_some.mp e1
    obtain ⟨v, e1, r1⟩ := rs.get q1
    obtain ⟨u, e2, r2⟩ := ru.get q2
    refine ⟨⟨vs, us, v, u, hs, hu, e1, e2⟩, fun x H' y => ?_⟩
    obtain ⟨p, x', y', rfl, hp, rfl, y1, y2⟩ := y
    have := y1 vs hs
    rw [e1] at this
    cases this
    have := y2 us hu
    rw [e2] at this
    cases this
    exact ⟨ext_upd hp, .inr ⟨_, _, hp, rfl⟩, fun w => .tup (.inl (.inl upd_same)) (.cons (Rp.step w (Stp.ext w (ext_upd hp)) r1) (.cons (Rp.step w (Stp.ext w (ext_upd hp)) r2) .nil))⟩
  · rw [List.getElem?_map] at e
    have e := Option.map_eq_none_iff.mp e
    rw [List.getElem?_eq_none_iff, List.length_zip, rs.length, ru.length] at e
    omega
theorem itzT_ok {S : Later} {a b : Addr} {ds es : List D} (h : ∀ F ι H, S F ι H → ∃ vs, SqT G.K H a vs ∧ Rps G F ι H ds vs) (h2 : ∀ F ι H, S F ι H → ∃ vs, SqT G.K H b vs ∧ Rps G F ι H es vs) : ItOk G S (RZ.ItzT G.K a b) ((ds.zip es).map fun p => D.tup [p.1, p.2]) := by
  intro F ι H s i
  obtain ⟨vs, hs, rs⟩ := h F ι H s
  obtain ⟨us, hu, ru⟩ := h2 F ι H s
  refine ⟨fun d e => ?_, fun e => ⟨vs, us, hs, hu, ?_⟩⟩
  · rw [List.getElem?_map] at e
    obtain ⟨p, e1, rfl⟩ := Option.map_eq_some_iff.mp e
    obtain ⟨q1, q2⟩ := List.getElem?_zip_eq_some.mp e1
    obtain ⟨v, e1, r1⟩ := rs.get q1
    obtain ⟨u, e2, r2⟩ := ru.get q2
    refine ⟨⟨vs, us, v, u, hs, hu, e1, e2⟩, fun x H' y => ?_⟩
    obtain ⟨p, x', y', rfl, hp, rfl, y1, y2⟩ := y
    have := y1 vs hs
    rw [e1] at this
    cases this
    have := y2 us hu
    rw [e2] at this
    cases this
    exact ⟨ext_upd hp, .inr ⟨_, _, hp, rfl⟩, fun w => .tup (.inl (.inl upd_same)) (.cons (Rp.step w (Stp.ext w (ext_upd hp)) r1) (.cons (Rp.step w (Stp.ext w (ext_upd hp)) r2) .nil))⟩
  · rw [List.getElem?_map] at e
    have e := Option.map_eq_none_iff.mp e
    rw [List.getElem?_eq_none_iff, List.length_zip, rs.length, ru.length] at e
    omega

theorem itzM_ok {S : Later} {a b : Addr} {ds es : List D} (h : ∀ F ι H, S F ι H → ∃ vs, SqT G.K H a vs ∧ Rps G F ι H ds vs) (h2 : ∀ F ι H, S F ι H → ∃ vs, SqL G.K H b vs ∧ Rps G F ι H es vs) : ItOk G S (ItzM G.K a b) ((ds.zip es).map fun p => D.tup [p.1, p.2]) := by
  intro F ι H s i
  obtain ⟨vs, hs, rs⟩ := h F ι H s
  obtain ⟨us, hu, ru⟩ := h2 F ι H s
  refine ⟨fun d e => ?_, fun e => ⟨vs, us, hs, hu, ?_⟩⟩
  · rw [List.getElem?_map] at e
    obtain ⟨p, e1, rfl⟩ := Option.map_eq_some_iff.mp e
    obtain ⟨q1, q2⟩ := List.getElem?_zip_eq_some.mp e1
    obtain ⟨v, e1, r1⟩ := rs.get q1
    obtain ⟨u, e2, r2⟩ := ru.get q2
    refine ⟨⟨vs, us, v, u, hs, hu, e1, e2⟩, fun x H' y => ?_⟩
    obtain ⟨p, x', y', rfl, hp, rfl, y1, y2⟩ := y
    have := y1 vs hs
    rw [e1] at this
    cases this
    have := y2 us hu
    rw [e2] at this
    cases this
    exact ⟨ext_upd hp, .inr ⟨_, _, hp, rfl⟩, fun w => .tup (.inl (.inl upd_same)) (.cons (Rp.step w (Stp.ext w (ext_upd hp)) r1) (.cons (Rp.step w (Stp.ext w (ext_upd hp)) r2) .nil))⟩
  · rw [List.getElem?_map] at e
    have e := Option.map_eq_none_iff.mp e
    rw [List.getElem?_eq_none_iff, List.length_zip, rs.length, ru.length] at e
    omega

/-- what is walked, by an iterator -/
def tI (G : Glo) (W : WX) (pg : Pg) (cf : CF) (o : Bool) (S : (Addr → Prop) → List Addr → Hp → Later) (it : IT) : TI := fun σ H R => ∃ B ss μ F ι, Rel G B ss μ F ι σ H ∧ rdX G W σ F ι H (fun xs _ F ι H => ∀ J, ItOk G (S F ι H) J xs → R J H) (evIt pg cf o it ss μ)

/-- by lists, tuples, texts -/
theorem pi_any {tg l : Expr} {tl : TE} (hl : PE X l tl) : PI X tg l (fun σ H R => tl σ H fun x H1 => (∃ a xs, x = .ref a ∧ SqL X.K H1 a xs ∧ R (Itl X.K a) H1) ∨ (∃ a xs, x = .ref a ∧ SqT X.K H1 a xs ∧ R (Itt X.K a) H1) ∨ ∃ z, x = .str z ∧ R (Its z) H1) := by
  refine ⟨fun pins s σ H R I h => ?_⟩
  refine thn (hl.run pins s σ H _ I h) fun v s1 ⟨x, H1, I1, r1, q1⟩ => ?_
  have mk : ∀ (T : TE), T σ H1 (fun y H2 => y = x ∧ H2 = H1) → True := fun _ _ => trivial
  rcases q1 with ⟨a, xs, rfl, hq, q⟩ | ⟨a, xs, rfl, hq, q⟩ | ⟨z, rfl, q⟩
  · cases r1
    obtain ⟨its, rv, p, hz⟩ := I1.list hq
    refine wpAny_pyIter_list p.isList ?_
    refine ⟨s1.heap.objs.size, [s1.heap.objs.size], _, _, H1, rfl, I1.kept (t' := s1.toks) fun b o e => Heap.get?_push_of_some _ e, turn_list a _, ⟨_, Heap.get?_push_size _ rfl, rfl, rfl⟩, fun b hb => ?_, q⟩
    have e : b = s1.heap.objs.size := by simpa using hb
    subst e
    exact I1.fpOk (Nat.le_refl _) (I1.hok.fresh (Nat.le_refl _))
  · cases r1
    obtain ⟨its, rv, p, hz⟩ := I1.tuple hq
    refine wpAny_pyIter_tuple (show s1.heap.IsTuple a its.toArray from p) ?_
    refine ⟨s1.heap.objs.size, [s1.heap.objs.size], _, _, H1, rfl, I1.kept (t' := s1.toks) fun b o e => Heap.get?_push_of_some _ e, turn_tuple a _, ⟨_, Heap.get?_push_size _ rfl, rfl, rfl⟩, fun b hb => ?_, q⟩
    have e : b = s1.heap.objs.size := by simpa using hb
    subst e
    exact I1.fpOk (Nat.le_refl _) (I1.hok.fresh (Nat.le_refl _))
  · obtain ⟨t, rfl⟩ := r1
    cases ha : z.cps.all (· < 128)
    · exact wpAny_pyIter_wide ha (pi_one (tk := s1.toks) I1 _ (turn_str _ z t "str_iterator" (.inr rfl)) ⟨_, Heap.get?_push_size _ rfl, rfl, rfl⟩ q)
    · exact wpAny_pyIter_ascii ha (pi_one (tk := s1.toks) I1 _ (turn_str _ z t "str_ascii_iterator" (.inl rfl)) ⟨_, Heap.get?_push_size _ rfl, rfl, rfl⟩ q)
section
variable {S : (Addr → Prop) → List Addr → Hp → Later}
theorem stab_list (hS : Stab G o S) (w : Wld F ι H) {ds : List D} {v : V} (r : Rq G F ι H o (.lst ds) v) (hr : S F ι H F ι H) : ∃ a vs, v = .ref a ∧ SqL G.K H a vs ∧ ∀ F' ι' H', S F ι H F' ι' H' → ∃ vs, SqL G.K H' a vs ∧ Rps G F' ι' H' ds vs := by
  have key : ∀ F' ι' H', Rq G F' ι' H' o (.lst ds) v → ∃ a vs, v = .ref a ∧ SqL G.K H' a vs ∧ Rps G F' ι' H' ds vs := fun F' ι' H' r => by
    cases r with
    | of r => cases r with
      | lst f h rr => exact ⟨_, _, rfl, .inl (.inl h), rr⟩
    | own _ _ h rr => exact ⟨_, _, rfl, .inl (.inl h), rr⟩
  obtain ⟨a, vs, rfl, h1, _⟩ := key _ _ _ r
  refine ⟨a, vs, rfl, h1, fun F' ι' H' s => ?_⟩
  obtain ⟨a', vs', e, h2, h3⟩ := key _ _ _ (hS F ι H _ _ w r F' ι' H' s)
  cases e
  exact ⟨vs', h2, h3⟩
theorem stab_ro (hS : Stab G o S) (w : Wld F ι H) {ds : List D} {v : V} (r : Rq G F ι H o (.ro ds) v) (hr : S F ι H F ι H) : ∃ a vs, v = .ref a ∧ SqL G.K H a vs ∧ ∀ F' ι' H', S F ι H F' ι' H' → ∃ vs, SqL G.K H' a vs ∧ Rps G F' ι' H' ds vs := by
  have key : ∀ F' ι' H', Rq G F' ι' H' o (.ro ds) v → ∃ a vs, v = .ref a ∧ SqL G.K H' a vs ∧ Rps G F' ι' H' ds vs := fun F' ι' H' r => by
    cases r with
    | of r => cases r with
      | ro h rr => exact ⟨_, _, rfl, h.sq, rr⟩
  obtain ⟨a, vs, rfl, h1, _⟩ := key _ _ _ r
  refine ⟨a, vs, rfl, h1, fun F' ι' H' s => ?_⟩
  obtain ⟨a', vs', e, h2, h3⟩ := key _ _ _ (hS F ι H _ _ w r F' ι' H' s)
  cases e
  exact ⟨vs', h2, h3⟩
theorem stab_tup (hS : Stab G o S) (w : Wld F ι H) {ds : List D} {v : V} (r : Rq G F ι H o (.tup ds) v) (hr : S F ι H F ι H) : ∃ a vs, v = .ref a ∧ SqT G.K H a vs ∧ ∀ F' ι' H', S F ι H F' ι' H' → ∃ vs, SqT G.K H' a vs ∧ Rps G F' ι' H' ds vs := by
  obtain ⟨a, vs, rfl, h1, _⟩ := r.tup_inv
  refine ⟨a, vs, rfl, h1, fun F' ι' H' s => ?_⟩
  obtain ⟨a', vs', e, h2, h3⟩ := (hS F ι H _ _ w r F' ι' H' s).tup_inv
  cases e
  exact ⟨vs', h2, h3⟩

theorem si_seq (g : Gd G N sc k W X) (hS : Stab G o S) (hr : ∀ F ι H, S F ι H F ι H) {tg l : Expr} {a : IE} (ha : PE X l (tE G W pg cf o a)) : PI X tg l (tI G W pg cf o S (.seq a)) := by
  refine ⟨fun pins s σ H R I h => ?_⟩
  obtain ⟨B, ss, μ, F, ι, Rl, h⟩ := h
  refine (pi_any ha).run pins s σ H R I ?_
  unfold evIt at h
  refine seqE Rl h fun d μ1 v F1 ι1 H1 _ s1 R1 r1 h1 => ?_
  rw [g.K]
  cases d with
  | str z =>
    have := r1.str_inv
    subst this
    exact .inr (.inr ⟨z, rfl, h1 F1 ι1 H1 .refl R1.w R1.m _ its_ok⟩)
  | tup ds =>
    obtain ⟨a, vs, rfl, h2, h3⟩ := stab_tup hS R1.w r1 (hr _ _ _)
    exact .inr (.inl ⟨a, vs, rfl, h2, h1 F1 ι1 H1 .refl R1.w R1.m _ (itt_ok h3)⟩)
  | lst ds =>
    obtain ⟨a, vs, rfl, h2, h3⟩ := stab_list hS R1.w r1 (hr _ _ _)
    exact .inl ⟨a, vs, rfl, h2, h1 F1 ι1 H1 .refl R1.w R1.m _ (itl_ok h3)⟩
  | ro ds =>
    obtain ⟨a, vs, rfl, h2, h3⟩ := stab_ro hS R1.w r1 (hr _ _ _)
    exact .inl ⟨a, vs, rfl, h2, h1 F1 ι1 H1 .refl R1.w R1.m _ (itl_ok h3)⟩
  | _ => exact h1.elim
theorem si_range1 (g : Gd G N sc k W X) (fk : Fk T G pg) {tg x : Expr} {a : IE} {p : Pos} (hg : Gl X "range") (hp : plainA x = true) (ha : PE X x (tE G W pg cf false a)) : PI X tg (.Call (.Name "range" p) [x] [] pos) (tI G W pg cf o S (.range1 a)) := by
  refine ⟨fun pins s σ H R I h => ?_⟩
  obtain ⟨B, ss, μ, F, ι, Rl, h⟩ := h
  refine (pi_range1 hg (fk.bl1 g (by decide)) (pa_cons ha pa_nil (starEach_cons hp)) (starEach_cons hp)).run pins s σ H R I ?_
  unfold evIt at h
  refine seqE Rl h fun d μ1 v F1 ι1 H1 _ s1 R1 r1 h1 => ?_
  cases d with
  | int n =>
    have := r1.int_inv
    subst this
    simp only at h1
    split at h1
    · rename_i hc
      exact ⟨n, rfl, hc.2, hc.1, h1 F1 ι1 H1 .refl R1.w R1.m _ itr_ok⟩
    · exact h1.elim
  | _ => exact h1.elim
theorem si_range2 (g : Gd G N sc k W X) (fk : Fk T G pg) {tg x y : Expr} {a b : IE} {p : Pos} (hg : Gl X "range") (hp : plainA x = true) (hp2 : plainA y = true) (ha : PE X x (tE G W pg cf false a)) (hb : PE X y (tE G W pg cf false b)) : PI X tg (.Call (.Name "range" p) [x, y] [] pos) (tI G W pg cf o S (.range2 a b)) := by
  refine ⟨fun pins s σ H R I h => ?_⟩
  obtain ⟨B, ss, μ, F, ι, Rl, h⟩ := h
  refine (pi_range2 hg (fk.bl1 g (by decide)) (pa_cons ha (pa_cons hb pa_nil (starEach_cons hp2)) (starEach_cons hp)) (by rw [starEach_cons hp, starEach_cons hp2]; rfl) (starEach_cons hp2)).run pins s σ H R I ?_
  unfold evIt at h
  refine seqE Rl h fun d μ1 v F1 ι1 H1 _ s1 R1 r1 h1 => seqE R1 h1 fun e μ2 u F2 ι2 H2 _ s2 R2 r2 h2 => ?_
  have r1 := Rq.step R1.w s2 r1
  cases d with
  | int m =>
    cases e with
    | int n =>
      have := r1.int_inv
      subst this
      have := r2.int_inv
      subst this
      simp only at h2
      split at h2
      · rename_i hc
        exact ⟨m, n, rfl, ⟨hc.2.2, hc.2.1, hc.1.2, hc.1.1⟩, h2 F2 ι2 H2 .refl R2.w R2.m _ itr_ok⟩
      · exact h2.elim
    | _ => exact h2.elim
  | _ => exact h2.elim
theorem si_enum (g : Gd G N sc k W X) (fk : Fk T G pg) (hS : Stab G o S) (hr : ∀ F ι H, S F ι H F ι H) {elts : List Expr} {kk : Nat} {tp : Pos} {x : Expr} {a : IE} {p : Pos} (hg : Gl X "enumerate") (hp : plainA x = true) (ha : PE X x (tE G W pg cf o a)) :
    PI X (.Tuple elts kk tp) (.Call (.Name "enumerate" p) [x] [] pos) (tI G W pg cf o S (.enum a)) := by
  refine ⟨fun pins s σ H R I h => ?_⟩
  obtain ⟨B, ss, μ, F, ι, Rl, h⟩ := h
  refine (pi_enum hg (fk.bl1 g (by decide)) (pa_cons ha pa_nil (starEach_cons hp)) (starEach_cons hp)).run pins s σ H R I ?_
  unfold evIt at h
  refine seqE Rl h fun d μ1 v F1 ι1 H1 _ s1 R1 r1 h1 => ?_
  cases d with
  | lst ds =>
    obtain ⟨a, vs, rfl, h2, h3⟩ := stab_list hS R1.w r1 (hr _ _ _)
    rw [g.K]
    exact ⟨a, vs, rfl, h2, h1 F1 ι1 H1 .refl R1.w R1.m _ (ite_ok h3)⟩
  | _ => exact h1.elim
theorem si_zip (g : Gd G N sc k W X) (fk : Fk T G pg) (hS : Stab G o S) (hr : ∀ F ι H, S F ι H F ι H) {elts : List Expr} {kk : Nat} {tp : Pos} {x y : Expr} {a b : IE} {p : Pos} (hg : Gl X "zip") (hp : plainA x = true) (hp2 : plainA y = true) (ha : PE X x (tE G W pg cf o a)) (hb : PE X y (tE G W pg cf o b)) :
    PI X (.Tuple elts kk tp) (.Call (.Name "zip" p) [x, y] [] pos) (tI G W pg cf o S (.zip a b)) := by
  refine ⟨fun pins s σ H R I h => ?_⟩
  obtain ⟨B, ss, μ, F, ι, Rl, h⟩ := h
  refine (pi_zipM hg (fk.bl1 g (by decide)) (pa_cons ha (pa_cons hb pa_nil (starEach_cons hp2)) (starEach_cons hp)) (starEach_cons hp) (by rw [starEach_cons hp2]; rfl)).run pins s σ H R I ?_
  unfold evIt at h
  refine seqE Rl h fun d μ1 v F1 ι1 H1 _ s1 R1 r1 h1 => seqE R1 h1 fun e μ2 u F2 ι2 H2 _ s2 R2 r2 h2 => ?_
  have r1 := Rq.step R1.w s2 r1
  rw [g.K]
  cases d with
  | lst ds =>
    cases e with
    | lst es =>
      obtain ⟨a, vs, rfl, h3, h4⟩ := stab_list hS R2.w r1 (hr _ _ _)
      obtain ⟨b, us, rfl, h5, h6⟩ := stab_list hS R2.w r2 (hr _ _ _)
      exact ⟨a, b, vs, us, rfl, .inl ⟨h3, h5, h2 F2 ι2 H2 .refl R2.w R2.m _ (itz_ok h4 h6)⟩⟩
    | _ => exact h2.elim
  | tup ds =>
    cases e with
    | tup es =>
      obtain ⟨a, vs, rfl, h3, h4⟩ := stab_tup hS R2.w r1 (hr _ _ _)
      obtain ⟨b, us, rfl, h5, h6⟩ := stab_tup hS R2.w r2 (hr _ _ _)
      exact ⟨a, b, vs, us, rfl, .inr (.inl ⟨h3, h5, h2 F2 ι2 H2 .refl R2.w R2.m _ (itzT_ok h4 h6)⟩)⟩
    | lst es =>
      obtain ⟨a, vs, rfl, h3, h4⟩ := stab_tup hS R2.w r1 (hr _ _ _)
      obtain ⟨b, us, rfl, h5, h6⟩ := stab_list hS R2.w r2 (hr _ _ _)
      exact ⟨a, b, vs, us, rfl, .inr (.inr ⟨h3, h5, h2 F2 ι2 H2 .refl R2.w R2.m _ (itzM_ok h4 h6)⟩)⟩
    | _ => exact h2.elim
  | _ => exact h2.elim
end
end
end T
end

section
namespace T
open PySem PySem.Spec L2

section
variable {G : Glo} {N : List Str} {sc : Scope} {k : Nat} {W : WX} {X : Cx} {pg : Pg} {cf : CF} {o : Bool} {pos : Pos} {T : Tbl}
variable {F F' F'' F2 : Addr → Prop} {ι ι' ι'' : List Addr} {H H' H'' H0 : Hp} {B : Ent} {ss : Slots} {μ : Store} {σ : St}

abbrev WF : WX := fun _ _ _ _ => False
theorem Gd.blk (g : Gd G N sc k W X) (s : Shared) (H : Hp) (scope : Scope) (C : Addr) (cl : List (Str × Addr)) (fp : List Addr) : Gd G N (relS scope sc) k WF (X.blk s H scope (compEnvC scope cl C X.env) fp) where
  P := g.P
  w := g.w
  K := g.K
  mg := g.mg
  base := g.base
  calm := g.calm
  N := g.N
  nd := g.nd
  sc := by rw [← g.sc]; rfl
  room := g.room
  gu := g.gu
  tk := fun u s' ⟨_, _, _, _, _, _, _, _, _, _, _, _, _, _, _, _, w⟩ => w.elim
theorem lookup_relS_l {sc : Scope} {x : Str} : ∀ {names : List (Str × NameKind)} {kd : NameKind}, (kd = .local ∨ kd = .cell) → names.lookup x = some kd →
    (names.map fun (n, k) => if (k == NameKind.free && sc.kind == .function && sc.names.lookup n == some .cell) then (n, NameKind.cell) else (n, k)).lookup x = some kd
  | [], _, _, h => by simp at h
  | (n, k0) :: r, kd, hk, h => by
    show List.lookup x ((if (k0 == NameKind.free && sc.kind == .function && sc.names.lookup n == some .cell) = true then (n, NameKind.cell) else (n, k0)) :: (r.map _)) = some kd
    rw [List.lookup_cons] at h
    cases hb : x == n with
    | true =>
      rw [hb] at h
      cases h
      have hf : (k0 == NameKind.free) = false := by rcases hk with rfl | rfl <;> rfl
      simp only [hf, Bool.false_and, Bool.false_eq_true, if_false, List.lookup_cons, hb]
    | false =>
      rw [hb] at h
      have ih := lookup_relS_l (sc := sc) hk h
      by_cases hc : (k0 == NameKind.free && sc.kind == .function && sc.names.lookup n == some .cell) = true
      · rw [if_pos hc, List.lookup_cons, hb]; exact ih
      · rw [if_neg hc, List.lookup_cons, hb]; exact ih
theorem loc_blk (g : Gd G N sc k W X) {s : Shared} {H : Hp} {scope : Scope} {C : Addr} {cl : List (Str × Addr)} {fp : List Addr} {x : Str} (h : loc scope x = true) :
    Loc (X.blk s H scope (compEnvC scope cl C X.env) fp).env.scope x ∧ ((X.blk s H scope (compEnvC scope cl C X.env) fp).fn x = true ∨ (X.blk s H scope (compEnvC scope cl C X.env) fp).env.scope.names.lookup x = some .local) := by
  have key : ∀ kd, (kd = .local ∨ kd = .cell) → scope.names.lookup x = some kd → (relS scope X.env.scope).names.lookup x = some kd := fun kd hk e => lookup_relS_l hk e
  unfold loc at h
  split at h
  · rename_i e
    exact ⟨.inl (key _ (.inl rfl) e), .inr (key _ (.inl rfl) e)⟩
  · rename_i e
    refine ⟨.inr (key _ (.inr rfl) e), .inl ?_⟩
    show (scope.names.lookup x == some .cell) = true
    rw [e]
    rfl
  · cases h

/-- tests, one behind another -/
def tTs (G : Glo) (W : WX) (pg : Pg) (cf : CF) (cs : IEs) : TT := fun σ H Q => ∃ B ss μ F ι, Rel G B ss μ F ι σ H ∧ rdX G W σ F ι H (fun b _ _ _ H => Q b H) (evTs pg cf cs ss μ)
theorem sts_nil : PTs X [] (tTs G W pg cf .nil) := by
  refine ⟨fun pins s σ H Q I h => ?_⟩
  obtain ⟨B, ss, μ, F, ι, R, h⟩ := h
  exact pts_nil.run pins s σ H Q I (h F ι H .refl R.w R.m)
theorem sts_one {c : Expr} {a : IE} (ha : PT X c (tT G W pg cf a)) : PTs X [c] (tTs G W pg cf (.cons a .nil)) := by
  refine ⟨fun pins s σ H Q I h => ?_⟩
  obtain ⟨B, ss, μ, F, ι, R, h⟩ := h
  refine (pts_one ha).run pins s σ H Q I ⟨B, ss, μ, F, ι, R, ?_⟩
  have e : evTs pg cf (.cons a .nil) ss μ = (evE pg cf true a ss μ).tst := by
    show ((evE pg cf true a ss μ).tst.bind fun t μ1 => if t then evTs pg cf .nil ss μ1 else .ok false μ1) = _
    cases (evE pg cf true a ss μ).tst with
    | ok t μ1 => cases t <;> rfl
    | exn x μ1 => rfl
    | bad => rfl
  rw [e] at h
  exact h

theorem nox_bind {α β : Type} {r : Res α} {f : α → Store → Res β} {K : β → Store → (Addr → Prop) → List Addr → Hp → Prop} (h : rdX G W σ F ι H K (r.bind f).nox) : ∃ a μ', r = .ok a μ' ∧ rdX G W σ F ι H K (f a μ').nox := by
  cases r with
  | ok a μ' => exact ⟨a, μ', rfl, h⟩
  | exn x μ' => exact h.elim
  | bad => exact h.elim

theorem wipe_wipe {σ : St} {vs : List Nat} : ∀ {us : List Nat}, (∀ u ∈ us, u ∈ vs) → L2.wipe (L2.wipe σ us) vs = L2.wipe σ vs
  | [], _ => rfl
  | u :: us, h => by
    rw [show L2.wipe σ (u :: us) = (L2.wipe σ us).set u none from rfl, wipe_set (h u List.mem_cons_self), wipe_wipe fun v hv => h v (List.mem_cons_of_mem _ hv)]

theorem rdX_rok {α : Type} {r : Res α} : r.bind (fun b μ => Res.ok b μ) = r := by cases r <;> rfl

/-- a comprehension's step -/
def lcStep (pg : Pg) (cf : CF) (elt : IE) (tg : Tg) (cs : IEs) (ss : Slots) : D → Store → Res (Option D) := fun x μ2 => match bindT tg x (wipeS ss tg.slots) with
  | some σ1 => (evTs pg cf cs σ1 μ2).bind fun t μ3 => if t then (evE pg cf false elt σ1 μ3).bind fun d μ4 => .ok (some d) μ4 else .ok none μ3
  | none => .bad

theorem comp_rd (g : Gd G N sc k W X) {eI : IE} {tg : Tg} {it : IT} {cs : IEs} {Q : VK} (h : tL G W pg cf (.comp eI tg it cs) σ H Q) :
    tLc (tI G W pg cf true Stp it) (gT G tg tg.slots) (tTs G WF pg cf cs) (tE G WF pg cf false eI) tg.slots σ H Q := by
  obtain ⟨B, ss, μ, F, ι, R, h⟩ := h
  have h := rdL_iff.mp h
  unfold evL at h
  refine ⟨B, ss, μ, F, ι, R, ?_⟩
  have h : rdX G W σ F ι H (KL G H Q) ((evIt pg cf true it ss μ).bind fun xs μ1 => if sizeLine < xs.length then .bad else (lcGo (lcStep pg cf eI tg cs ss) xs μ1).nox) := h
  cases ei : evIt pg cf true it ss μ with
  | exn x μ1 => rw [ei] at h; exact h
  | bad => rw [ei] at h; exact h
  | ok xs μ1 =>
    rw [ei] at h
    intro F1 ι1 H1 s1 w1 m1 J hJ D hD
    have R1 := R.step s1 w1 m1
    have h : rdX G W σ F ι H (KL G H Q) (if sizeLine < xs.length then .bad else (lcGo (lcStep pg cf eI tg cs ss) xs μ1).nox) := h
    split at h
    · exact h.elim
    rename_i hlen
    have h := rdX.step s1 h
    have nown : ∀ (i : Nat) (ds : List T.D) (a : Addr), ss[i]? = some (.own ds) → σ[i]? = some (some (.ref a)) → a ≠ D := fun i ds a e1 e2 => by
      obtain ⟨a', vs, e3, _, _, e4, _⟩ := R1.sl i _ e1
      rw [e2] at e3
      cases e3
      rintro rfl
      rw [hD] at e4
      cases e4
    have x0 : ∀ b ob, H1 b = some ob → upd H1 D (.lst []) b = some ob := ext_upd hD
    refine ⟨fun i m H2 => m = xs.length - i ∧ i ≤ xs.length ∧ ∃ μ2 F2 ι2 ds vs, Stp F1 ι1 H1 F2 ι2 H2 ∧ Rel G B ss μ2 F2 ι2 σ H2 ∧ H2 D = some (.lst vs) ∧ ¬ F2 D ∧ D ∉ ι2 ∧ Rps G F2 ι2 H2 ds vs ∧ vs.length ≤ i ∧
      rdX G W σ F1 ι1 H1 (fun rest μ F ι H' => KL G H Q (ds ++ rest) μ F ι H') (lcGo (lcStep pg cf eI tg cs ss) (xs.drop i) μ2).nox, ⟨xs.length, by simp, Nat.zero_le _, μ1, F1, ι1, [], [], Stp.ext w1 x0, R1.step (Stp.ext w1 x0) (w1.ext x0) (m1.ext w1 x0), upd_same, fun z => w1.dom D z hD, fun z => ?_, .nil, Nat.zero_le _, ?_⟩, ?_⟩
    · obtain ⟨ob, e, _⟩ := w1.mu D z
      rw [hD] at e
      cases e
    · rw [List.drop_zero]
      exact h
    rintro i m H2 ⟨rfl, hi, μ2, F2, ι2, ds, vs, s2, R2, hD2, nF2, nI2, rs, hvl, h2⟩
    obtain ⟨go, stop⟩ := hJ F2 ι2 H2 s2 i
    cases ex : xs[i]? with
    | none =>
      refine .inl ⟨stop ex, ?_⟩
      have e : xs.drop i = [] := List.drop_of_length_le (List.getElem?_eq_none_iff.mp ex)
      rw [e] at h2
      have h3 := h2 F2 ι2 H2 s2 R2.w R2.m D vs
      rw [List.append_nil] at h3
      exact h3 (s1.none hD) hD2 nF2 nI2 rs
    | some d =>
      obtain ⟨g1, y1⟩ := go d ex
      have hlt : i < xs.length := (List.getElem?_eq_some_iff.mp ex).1
      have e : xs.drop i = d :: xs.drop (i + 1) := by
        rw [List.drop_eq_getElem_cons hlt]
        congr 1
        exact (List.getElem?_eq_some_iff.mp ex).2
      rw [e] at h2
      refine .inr ⟨g1, fun H3 => ∃ μ3 F3 ι3 ds vs, Stp F1 ι1 H1 F3 ι3 H3 ∧ Rel G B ss μ3 F3 ι3 σ H3 ∧ H3 D = some (.lst vs) ∧ ¬ F3 D ∧ D ∉ ι3 ∧ Rps G F3 ι3 H3 ds vs ∧ vs.length ≤ i + 1 ∧
        rdX G W σ F1 ι1 H1 (fun rest μ F ι H' => KL G H Q (ds ++ rest) μ F ι H') (lcGo (lcStep pg cf eI tg cs ss) (xs.drop (i + 1)) μ3).nox, fun H' z => ⟨xs.length - (i + 1), by omega, rfl, hlt, z⟩, fun x H3 yl => ?_⟩
      obtain ⟨x3, _, r3⟩ := y1 x H3 yl
      have r3 := r3 R2.w
      have s3 := Stp.ext R2.w x3
      have R3 := R2.step s3 (R2.w.ext x3) (R2.m.ext R2.w x3)
      have hD3 : H3 D = some (.lst vs) := x3 _ _ hD2
      have rs3 := Rps.step R2.w s3 rs
      -- the step's result
      obtain ⟨od, μ3, est, h3⟩ := nox_bind h2
      unfold lcStep at est
      cases eb : bindT tg d (wipeS ss tg.slots) with
      | none => rw [eb] at est; cases est
      | some ss1 =>
        rw [eb] at est
        simp only at est
        refine ⟨B, wipeS ss tg.slots, μ2, F2, ι2, d, ss1, R3.wipe tg.slots, r3, eb, fun σ2 R4 ew => ⟨by rw [ew, wipe_wipe fun _ h => h], ?_⟩⟩
        cases et : evTs pg cf cs ss1 μ2 with
        | exn _ _ => rw [et] at est; cases est
        | bad => rw [et] at est; cases est
        | ok t μt =>
          rw [et] at est
          refine ⟨B, ss1, μ2, F2, ι2, R4, ?_⟩
          rw [et]
          intro F5 ι5 H5 s5 w5 m5
          have s15 : Stp F1 ι1 H1 F5 ι5 H5 := (s2.trans s3).trans s5
          have notin : ∀ {Fa : Addr → Prop} {ιa : List Addr} {Ha : Hp}, Stp F2 ι2 H3 Fa ιa Ha → ¬ Fa D ∧ D ∉ ιa := fun {Fa ιa Ha} st => by
            refine ⟨fun z => ?_, fun z => ?_⟩
            · rcases st.new D z with z | z
              · exact nF2 z
              · rw [hD3] at z; cases z
            · rcases st.mem z with z | z
              · exact nI2 z
              · rw [hD3] at z; cases z
          cases t with
          | false =>
            simp only [Bool.false_eq_true, if_false]
            have est : Res.ok none μt = Res.ok od μ3 := est
            cases est
            have R5 := R3.step s5 w5 m5
            exact ⟨μ3, F5, ι5, ds, vs, s15, R5, s5.keep _ _ hD3 nI2, (notin s5).1, (notin s5).2, Rps.step R3.w s5 rs3, Nat.le_succ_of_le hvl, by rw [← rdX_rok (r := lcGo (lcStep pg cf eI tg cs ss) (xs.drop (i + 1)) μ3)]; exact h3⟩
          | true =>
            simp only [if_true]
            have est : (evE pg cf false eI ss1 μt).bind (fun d μ4 => Res.ok (some d) μ4) = Res.ok od μ3 := est
            cases ee : evE pg cf false eI ss1 μt with
            | exn _ _ => rw [ee] at est; cases est
            | bad => rw [ee] at est; cases est
            | ok d' μ4 =>
              rw [ee] at est
              cases est
              refine ⟨B, ss1, μt, F5, ι5, R4.step s5 w5 m5, ?_⟩
              rw [ee]
              intro v F6 ι6 H6 s6 w6 m6 r6
              have s36 := s5.trans s6
              have R6 := R3.step s36 w6 m6
              have hD6 : H6 D = some (.lst vs) := s36.keep _ _ hD3 nI2
              obtain ⟨nF6, nI6⟩ := notin s36
              refine ⟨vs, hD6, by omega, ?_⟩
              have sv := stv_upd (u := .lst (vs ++ [v])) hD6 trivial nF6 (ι := ι6)
              have s16 : Stp F1 ι1 H1 F6 ι6 H6 := s15.trans s6
              have s17 := stp_upd (u := .lst (vs ++ [v])) s16 hD
              have w7 := wld_upd (u := .lst (vs ++ [v])) w6 nI6
              have m7 := relM_upd (u := .lst (vs ++ [v])) w6 m6 hD6 trivial nF6 nI6
              have R7 : Rel G B ss μ3 F6 ι6 σ (upd H6 D (.lst (vs ++ [v]))) := by
                have nB : B.H D = none := R1.st.none hD
                refine ⟨w7, m7, stp_upd R6.st nB, R6.len, fun j x ej => ?_, R6.own, R6.sep⟩
                have q := R6.sl j x ej
                cases x with
                | emp => trivial
                | val z =>
                  obtain ⟨u, e1, e2⟩ := q
                  exact ⟨u, e1, Rp.stepv sv e2⟩
                | own es =>
                  obtain ⟨a, us, e1, e2, e3, e4, e5⟩ := q
                  exact ⟨a, us, e1, e2, e3, by rw [upd_ne (nown j es a ej e1)]; exact e4, Rps.stepv sv e5⟩
              refine ⟨μ3, F6, ι6, ds ++ [d'], vs ++ [v], s17, R7, upd_same, nF6, nI6, Rps.snoc (Rps.stepv sv (Rps.step R3.w s36 rs3)) (Rp.stepv sv r6.rp), by rw [List.length_append]; simp; exact hvl, ?_⟩
              have h3 : rdX G W σ F1 ι1 H1 (fun rest μ F ι H' => KL G H Q (ds ++ rest) μ F ι H') ((lcGo (lcStep pg cf eI tg cs ss) (xs.drop (i + 1)) μ3).bind fun r μ2 => .ok (d' :: r) μ2).nox := h3
              cases eg : lcGo (lcStep pg cf eI tg cs ss) (xs.drop (i + 1)) μ3 with
              | exn _ _ => rw [eg] at h3; exact h3.elim
              | bad => rw [eg] at h3; exact h3.elim
              | ok rest μ9 =>
                rw [eg] at h3
                intro F9 ι9 H9 s9 w9 m9
                have := h3 F9 ι9 H9 s9 w9 m9
                rw [List.append_assoc]
                exact this
theorem sl_comp (g : Gd G N sc k W X) {elt tgE iter : Expr} {ifs : List Expr} {scope : Scope} {eI : IE} {tg : Tg} {it : IT} {cs : IEs} (hk : blkC N sc scope (tg.slots.map fun j => (N.getD j "", j)) = true) (hs : noSetE iter = true) (htg : mTg N (loc scope) tg tgE = true)
    (hi : PI X tgE iter (tI G W pg cf true Stp it)) (ht : ∀ X', Gd G N (relS scope sc) k WF X' → PTs X' ifs (tTs G WF pg cf cs)) (he : ∀ X', Gd G N (relS scope sc) k WF X' → PE X' elt (tE G WF pg cf false eI)) :
    PE X (.ListComp elt [⟨tgE, iter, ifs, 0⟩] scope pos) (tL G W pg cf (.comp eI tg it cs)) := by
  have hown : (tg.slots.map fun j => (N.getD j "", j)).map (·.2) = tg.slots := by
    rw [List.map_map]
    exact List.map_id _
  refine ⟨fun pins s σ H Q I h => ?_⟩
  refine (pe_lc g.calm g.nd hi (own := tg.slots.map fun j => (N.getD j "", j)) (by rw [g.N, g.sc]; exact blkOk_by hk)
    (fun s H C cl fp => s_tg (g.blk s H scope C cl fp) (fun x hx => loc_blk g hx) tg tgE htg (vs := tg.slots) fun i hi => hi)
    (fun s H C cl fp => ht _ (g.blk s H scope C cl fp)) (fun s H C cl fp => he _ (g.blk s H scope C cl fp)) (fun x => by cases iter <;> first | rfl | cases hs)).run pins s σ H Q I ?_
  rw [hown]
  exact comp_rd g h
end
end T
end

section
namespace T
open PySem PySem.Spec L2
section
variable {G : Glo} {N : List Str} {sc : Scope} {k : Nat} {W : WX} {X : Cx} {pg : Pg} {cf : CF} {o : Bool} {pos : Pos} {T : Tbl}
variable {F F2 : Addr → Prop} {ι : List Addr} {H H0 : Hp} {B : Ent} {ss : Slots} {μ : Store} {σ : St}
/-- more is frozen: a new object at p -/
theorem fz_stp {F' : Addr → Prop} {ι' : List Addr} {H' : Hp} {p : Addr} (s : Stp F ι H F' ι' H') (h0 : H p = none) : Stp F ι H (fun a => F' a ∨ a = p) ι' H' :=
  ⟨fun a z => .inl (s.up a z), fun a z => by
    rcases z with z | z
    · exact s.new a z
    · subst z; exact .inr h0, s.pre, s.keep, s.dom⟩
theorem fz_wld {p : Addr} {ob : HO} (w : Wld F ι H) (h1 : H p = some ob) (hi : p ∉ ι) : Wld (fun a => F a ∨ a = p) ι H :=
  ⟨w.nd, w.mu, fun a ha z => by
    rcases z with z | z
    · exact w.dis a ha z
    · subst z; exact hi ha, fun a z => by
    rcases z with z | z
    · exact w.dom a z
    · subst z; rw [h1]; simp⟩
theorem none_mem (w : Wld F ι H) {p : Addr} (h : H p = none) : p ∉ ι ∧ ¬ F p := by
  refine ⟨fun z => ?_, fun z => w.dom p z h⟩
  obtain ⟨ob, e, _⟩ := w.mu p z
  rw [h] at e
  cases e
theorem s_dct0 : PE X (.Dict [] [] pos) (tE G W pg cf o .dct0) := by
  refine ⟨fun pins s σ H Q I h => ?_⟩
  obtain ⟨B, ss, μ, F, ι, R, h⟩ := h
  refine pe_dnewK.run pins s σ H Q I fun p hp => ?_
  have h := rdE_iff.mp h
  unfold evE at h
  have hx := ext_upd (o := .dK []) hp
  have w1 := R.w.ext hx
  obtain ⟨hi, _⟩ := none_mem R.w hp
  exact h (fun a => F a ∨ a = p) ι _ (fz_stp (Stp.ext R.w hx) hp) (fz_wld w1 upd_same hi) ((R.m.ext R.w hx).mono fun a z => .inl z) _ (.of (.dct (vs := []) (.inr rfl) upd_same rfl .nil))
theorem s_dct1 {x : Expr} {a : IE} {y : Str} {j : Nat} {p1 : Pos} (ha : PE X x (tE G W pg cf false a)) : PE X (.Dict [some (.Constant (.str y) j p1)] [x] pos) (tE G W pg cf o (.dct1 y a)) := by
  refine ⟨fun pins s σ H Q I h => ?_⟩
  obtain ⟨B, ss, μ, F, ι, R, h⟩ := h
  refine (pe_disp (pps_cons pe_str ha pps_nil) rfl rfl (by simp) (by simp)).run pins s σ H Q I fun p hp => ?_
  have h := rdE_iff.mp h
  unfold evE at h
  have hx := ext_upd (o := .dK []) hp
  have w1 := R.w.ext hx
  have st0 := Stp.ext R.w hx
  obtain ⟨hi, hf⟩ := none_mem R.w hp
  have R1 : Rel G B ss μ F ι σ (upd H p (.dK [])) := R.step st0 w1 (R.m.ext R.w hx)
  refine seqE (f := fun d μ1 => .ok (D.dct [.inr y] [d]) μ1) R1 (rdX.step st0 h) fun d μ1 v F1 ι1 H1 ev s1 R2 r1 _ => ?_
  rw [ev] at h
  have hi1 : p ∉ ι1 := fun z => by
    rcases s1.mem z with z | z
    · exact hi z
    · rw [upd_same] at z; cases z
  have hf1 : ¬ F1 p := fun z => by
    rcases s1.new p z with z | z
    · exact hf z
    · rw [upd_same] at z; cases z
  have hp1 : H1 p = some (.dK []) := s1.keep _ _ upd_same hi
  refine ⟨hp1, [(.inr y, v)], rfl, by simp, ?_⟩
  show Q (.ref p) (upd H1 p (.dK [(.inr y, v)]))
  have st1 : Stp F ι H F1 ι1 (upd H1 p (.dK [(.inr y, v)])) := stp_upd (st0.trans s1) hp
  have w2 := wld_upd (u := .dK [(.inr y, v)]) R2.w hi1
  have m2 := relM_upd (u := .dK [(.inr y, v)]) R2.w R2.m hp1 trivial hf1 hi1
  have sv : Stv F1 ι1 H1 F1 ι1 (upd H1 p (.dK [(.inr y, v)])) := stv_upd hp1 trivial hf1
  refine h (fun a => F1 a ∨ a = p) ι1 _ (fz_stp st1 hp) (fz_wld w2 upd_same hi1) (m2.mono fun a z => .inl z) _ (.of (.dct (ks := [.inr y]) (vs := [v]) (.inr rfl) upd_same rfl (.cons ((Rp.stepv sv r1.rp).mono fun a z => .inl z) .nil)))
/-- d == () -/
theorem opr_nil (g : Gd G N sc k W X) : OpR X (compareOp .Eq) (fun x y H Q => ∃ a b vs, x = V.ref a ∧ y = V.ref b ∧ SqT G.K H a vs ∧ SqT G.K H b [] ∧ Q (.bl vs.isEmpty) H) := by
  intro pins s σ' H x y v u Q I rx ry h
  obtain ⟨a, b, vs, rfl, rfl, ha, hb, q⟩ := h
  cases rx
  cases ry
  obtain ⟨its, r1, pt1, _⟩ := I.tuple (by rw [g.K]; exact ha)
  obtain ⟨its2, r2, pt2, _⟩ := I.tuple (by rw [g.K]; exact hb)
  cases r2
  refine PySem.SeqAt.rcIn_tuples (e := fun _ => true) (show s.heap.IsTuple a its.toArray from pt1) (show s.heap.IsTuple b #[] from pt2) (by have := g.un; omega) (fun j h1 h2 => by simp at h2) ?_
  refine ⟨.bl vs.isEmpty, H, I, ?_, q⟩
  have : ((List.range (min its.toArray.size 0)).all (fun _ => true) && its.toArray.size == 0) = vs.isEmpty := by
    have hl := r1.length
    cases vs with
    | nil => cases its with
      | nil => rfl
      | cons _ _ => simp at hl
    | cons _ _ => cases its with
      | nil => simp at hl
      | cons _ _ => simp
  show Value.bool _ = Value.bool _
  exact congrArg Value.bool this
theorem s_eqNil (g : Gd G N sc k W X) {x : Expr} {a : IE} {j : Nat} {p1 : Pos} (ha : PE X x (tE G W pg cf true a)) : PE X (.Compare x [.Eq] [.Tuple [] j p1] pos) (tE G W pg cf o (.eqNil a)) := by
  refine ⟨fun pins s σ H Q I h => ?_⟩
  obtain ⟨B, ss, μ, F, ι, R, h⟩ := h
  refine (pe_cmpR (opr_nil g) ha (pe_tup (x1 := j) (pos := p1) pa_nil) rfl).run pins s σ H Q I ?_
  have h := rdE_iff.mp h
  unfold evE at h
  refine seqE R h fun d μ1 v F1 ι1 H1 _ s1 R1 r1 h1 => ⟨by simp [sizeLine_eq], fun p hp => ?_⟩
  cases d with
  | tup ds =>
    obtain ⟨a, vs, rfl, ht, rs⟩ := r1.tup_inv
    have hx := ext_upd (o := .tup []) hp
    refine ⟨a, p, vs, rfl, rfl, SqT.step R1.w (Stp.ext R1.w hx) ht, .inl (.inl upd_same), ?_⟩
    have e : ds.isEmpty = vs.isEmpty := by
      have := rs.length
      cases ds <;> cases vs <;> simp_all
    rw [← e]
    exact rdX_ext h1 R1.w R1.m hx (.bl _)
  | _ => exact h1.elim
theorem st_eqNil (g : Gd G N sc k W X) {x : Expr} {a : IE} {j : Nat} {p1 : Pos} (ha : PE X x (tE G W pg cf true a)) : PT X (.Compare x [.Eq] [.Tuple [] j p1] pos) (tT G W pg cf (.eqNil a)) := by
  refine ⟨fun pins s σ H Q I h => ?_⟩
  obtain ⟨B, ss, μ, F, ι, R, h⟩ := h
  refine (pt_cmpR (opr_nil g) ha (pe_tup (x1 := j) (pos := p1) pa_nil) rfl).run pins s σ H Q I ?_
  have e0 : (evE pg cf true (.eqNil a) ss μ).tst = (evE pg cf true a ss μ).bind fun x μ1 => Res.tst (match x with
    | .tup ds => .ok (.bl ds.isEmpty) μ1
    | _ => .bad) := by
    show Res.tst ((evE pg cf true a ss μ).bind fun x μ1 => match x with
      | .tup ds => .ok (.bl ds.isEmpty) μ1
      | _ => .bad) = _
    rw [rdX_tst_bind]
  rw [e0] at h
  refine seqE R h fun d μ1 v F1 ι1 H1 _ s1 R1 r1 h1 => ⟨by simp [sizeLine_eq], fun p hp => ?_⟩
  cases d with
  | tup ds =>
    obtain ⟨a, vs, rfl, ht, rs⟩ := r1.tup_inv
    have hx := ext_upd (o := .tup []) hp
    refine ⟨a, p, vs, rfl, rfl, SqT.step R1.w (Stp.ext R1.w hx) ht, .inl (.inl upd_same), ?_⟩
    have e : ds.isEmpty = vs.isEmpty := by
      have := rs.length
      cases ds <;> cases vs <;> simp_all
    rw [← e]
    exact ⟨_, rfl, h1 F1 ι1 _ (Stp.ext R1.w hx) (R1.w.ext hx) (R1.m.ext R1.w hx)⟩
  | _ => exact h1.elim
/-- d == [], d != [] -/
theorem opr_lnil (g : Gd G N sc k W X) (ne : Bool) : OpR X (compareOp (if ne then .NotEq else .Eq)) (fun x y H Q => ∃ a b vs, x = V.ref a ∧ y = V.ref b ∧ SqL G.K H a vs ∧ SqL G.K H b [] ∧ Q (.bl (ne != vs.isEmpty)) H) := by
  intro pins s σ' H x y v u Q I rx ry h
  obtain ⟨a, b, vs, rfl, rfl, ha, hb, q⟩ := h
  cases rx
  cases ry
  obtain ⟨its, r1, pt1, _⟩ := I.list (by rw [g.K]; exact ha)
  obtain ⟨its2, r2, pt2, _⟩ := I.list (by rw [g.K]; exact hb)
  cases r2
  have hu : X.A.units < cLine := by have := g.un; omega
  have hl := r1.length
  have fin : ∀ t : Bool, t = (ne != vs.isEmpty) → EP X pins σ' Q (.bool t) s := fun t e => ⟨.bl (ne != vs.isEmpty), H, I, congrArg Value.bool e, q⟩
  cases vs with
  | nil =>
    cases its with
    | cons _ _ => simp at hl
    | nil =>
      cases ne with
      | false => exact SeqAt.RcAt.lists (e := fun _ => true) pt1.isList pt2.isList rfl hu (fun j h1 h2 => by simp at h2) X.prog X.w X.xe _ (fin _ rfl)
      | true => exact SeqAt.RcNeAt.lists (e := fun _ => true) pt1.isList pt2.isList rfl hu (fun j h1 h2 => by simp at h2) X.prog X.w X.xe _ (fin _ rfl)
  | cons z zs =>
    cases its with
    | nil => simp at hl
    | cons i is =>
      cases ne with
      | false => exact SeqAt.RcAt.lists_lengths pt1.isList pt2.isList (by simp) hu X.prog X.w X.xe _ (fin _ rfl)
      | true => exact SeqAt.RcNeAt.lists_lengths pt1.isList pt2.isList (by simp) hu X.prog X.w X.xe _ (fin _ rfl)
theorem lst_inv {d : List D} {v : V} (r : Rq G F ι H o (.lst d) v) : ∃ a vs, v = .ref a ∧ SqL G.K H a vs ∧ Rps G F ι H d vs := by
  cases r with
  | of r => cases r with
    | lst f h rr => exact ⟨_, _, rfl, .inl (.inl h), rr⟩
  | own _ _ h rr => exact ⟨_, _, rfl, .inl (.inl h), rr⟩
theorem SqL.ext_none (w : Wld F ι H) {a p : Addr} {vs : List V} {ob : HO} (hp : H p = none) (h : SqL G.K H a vs) : SqL G.K (upd H p ob) a vs := by
  have hx := ext_upd (o := ob) hp
  rcases h with h | h
  · rcases h with h | ⟨o, h⟩
    · exact .inl (.inl (hx _ _ h))
    · exact .inl (.inr ⟨o, hx _ _ h⟩)
  · exact .inr h
theorem lnil_fin {ds : List D} {v : V} (w : Wld F ι H) (r : Rq G F ι H o (.lst ds) v) {p : Addr} (hp : H p = none) : ∃ a vs, v = V.ref a ∧ SqL G.K (upd H p (.lst [])) a vs ∧ SqL G.K (upd H p (.lst [])) p [] ∧ vs.isEmpty = ds.isEmpty := by
  obtain ⟨a, vs, rfl, hs, rs⟩ := lst_inv r
  refine ⟨a, vs, rfl, SqL.ext_none w hp hs, .inl (.inl upd_same), ?_⟩
  have := rs.length
  cases ds <;> cases vs <;> simp_all
theorem s_lstNil (g : Gd G N sc k W X) {ne : Bool} {x : Expr} {a : IE} {p1 : Pos} (ha : PE X x (tE G W pg cf true a)) : PE X (.Compare x [if ne then .NotEq else .Eq] [.List [] p1] pos) (tE G W pg cf o (.lstNil ne a)) := by
  refine ⟨fun pins s σ H Q I h => ?_⟩
  obtain ⟨B, ss, μ, F, ι, R, h⟩ := h
  refine (pe_cmpR (opr_lnil g ne) ha (pe_lst (pos := p1) pa_nil) (by cases ne <;> rfl)).run pins s σ H Q I ?_
  have h := rdE_iff.mp h
  unfold evE at h
  refine seqE R h fun d μ1 v F1 ι1 H1 _ s1 R1 r1 h1 => ⟨by simp [sizeLine_eq], fun p hp => ?_⟩
  cases d with
  | lst ds =>
    obtain ⟨a, vs, rfl, q1, q2, q3⟩ := lnil_fin R1.w r1 hp
    refine ⟨a, p, vs, rfl, rfl, q1, q2, ?_⟩
    rw [q3]
    exact rdX_ext h1 R1.w R1.m (ext_upd hp) (.bl _)
  | _ => exact h1.elim
theorem st_lstNil (g : Gd G N sc k W X) {ne : Bool} {x : Expr} {a : IE} {p1 : Pos} (ha : PE X x (tE G W pg cf true a)) : PT X (.Compare x [if ne then .NotEq else .Eq] [.List [] p1] pos) (tT G W pg cf (.lstNil ne a)) := by
  refine ⟨fun pins s σ H Q I h => ?_⟩
  obtain ⟨B, ss, μ, F, ι, R, h⟩ := h
  refine (pt_cmpR (opr_lnil g ne) ha (pe_lst (pos := p1) pa_nil) (by cases ne <;> rfl)).run pins s σ H Q I ?_
  have e0 : (evE pg cf true (.lstNil ne a) ss μ).tst = (evE pg cf true a ss μ).bind fun x μ1 => Res.tst (match x with
    | .lst ds => .ok (.bl (ne != ds.isEmpty)) μ1
    | _ => .bad) := by
    show Res.tst ((evE pg cf true a ss μ).bind fun x μ1 => match x with
      | .lst ds => .ok (.bl (ne != ds.isEmpty)) μ1
      | _ => .bad) = _
    rw [rdX_tst_bind]
  rw [e0] at h
  refine seqE R h fun d μ1 v F1 ι1 H1 _ s1 R1 r1 h1 => ⟨by simp [sizeLine_eq], fun p hp => ?_⟩
  cases d with
  | lst ds =>
    obtain ⟨a, vs, rfl, q1, q2, q3⟩ := lnil_fin R1.w r1 hp
    refine ⟨a, p, vs, rfl, rfl, q1, q2, ?_⟩
    rw [q3]
    exact ⟨_, rfl, h1 F1 ι1 _ (Stp.ext R1.w (ext_upd hp)) (R1.w.ext (ext_upd hp)) (R1.m.ext R1.w (ext_upd hp))⟩
  | _ => exact h1.elim
end
end T
end

section
namespace T
open PySem PySem.Spec L2
section
variable {G : Glo} {N : List Str} {sc : Scope} {k : Nat} {W : WX} {X : Cx} {pg : Pg} {cf : CF} {o : Bool} {pos : Pos} {T : Tbl}
variable {F F2 : Addr → Prop} {ι : List Addr} {H H0 : Hp} {B : Ent} {ss : Slots} {μ : Store} {σ : St}
/-! ### dicts of frozen values -/
theorem atK_val : ∀ {ks : List Key} {ds : List D} {vs : List V} {x : Key}, Rps G F ι H ds vs → ks.length = vs.length → (∃ d v, atK ks ds x = some d ∧ valV (ks.zip vs) x = some v ∧ Rp G F ι H d v) ∨ (atK ks ds x = none ∧ valV (ks.zip vs) x = none)
  | [], _, _, _, .nil, _ => .inr ⟨rfl, rfl⟩
  | [], _, _, _, .cons _ _, h => by simp at h
  | _ :: _, _, _, _, .nil, h => by simp at h
  | k :: ks, d :: ds, v :: vs, x, .cons r rs, h => by
    rw [List.zip_cons_cons]
    by_cases e : k = x
    · refine .inl ⟨d, v, ?_, valV_pos e, r⟩
      unfold atK
      rw [if_pos e]
    · have ih := atK_val (x := x) rs (by simpa using h)
      rw [valV_neg e]
      unfold atK
      rw [if_neg e]
      exact ih
theorem keyD_inv {d : D} {v : V} {x : Key} (e : keyD d = some x) (r : Rp G F ι H d v) : v = kV x := by
  cases d with
  | int i => cases e; cases r; rfl
  | str z => cases e; cases r; rfl
  | _ => cases e
theorem dAt_inv {x y : D} {u v : V} {r : Option D} (e : dAt x y = some r) (rx : Rp G F ι H x u) (ry : Rp G F ι H y v) : ∃ a, v = .ref a ∧ IsD H a ∧ ∃ w, DGet H a u w ∧ ((∃ d z, r = some d ∧ w = some z ∧ Rp G F ι H d z) ∨ (r = none ∧ w = none)) := by
  unfold dAt at e
  split at e
  · rename_i k ks ds hk
    cases e
    have ek := keyD_inv hk rx
    subst ek
    cases ry with
    | dct f h l rr =>
      refine ⟨_, rfl, .inl ⟨_, .inl h⟩, _, DGet.k h, ?_⟩
      rcases atK_val (x := k) rr l with ⟨d, z, e1, e2, e3⟩ | ⟨e1, e2⟩
      · exact .inl ⟨d, z, e1, e2, e3⟩
      · exact .inr ⟨e1, e2⟩
  · cases e
theorem opr_din (hu : X.A.units + 1 < cLine) : OpR X (compareOp .In) (fun y x H Q => ∃ a r, x = V.ref a ∧ DGet H a y r ∧ Q (.bl r.isSome) H) := by
  intro pins s σ' H y x u w Q I ry rx h
  obtain ⟨a, r, rfl, g, q⟩ := h
  cases rx
  exact d_in hu I g ry fun s3 I3 => ⟨.bl r.isSome, H, I3, rfl, q⟩
section
variable {x y : Expr} {a b : IE}
theorem Gd.u1 (g : Gd G N sc k W X) : X.A.units + 1 < cLine := by
  have := g.un
  omega
theorem dIn_at {d e : D} {μ2 : Store} {u v : V} {K : D → Store → (Addr → Prop) → List Addr → Hp → Prop} {P : VK} (w : Wld F ι H) (m : RelM G F μ2 ι H) (h : rdX G W σ F ι H K (dInR d e μ2)) (r1 : Rp G F ι H d u) (r2 : Rp G F ι H e v) (hk : ∀ z, K (.bl z) μ2 F ι H → P (.bl z) H) :
    ∃ a r, v = V.ref a ∧ DGet H a u r ∧ P (.bl r.isSome) H := by
  unfold dInR at h
  split at h
  · rename_i r hr
    obtain ⟨c, rfl, _, z, g2, hz⟩ := dAt_inv hr r1 r2
    refine ⟨c, z, rfl, g2, ?_⟩
    have h := hk _ (h F ι H .refl w m)
    rcases hz with ⟨d, z, rfl, rfl, _⟩ | ⟨rfl, rfl⟩
    · exact h
    · exact h
  · exact h.elim
theorem s_dIn (g : Gd G N sc k W X) (hm : behindInMarks .In y = false) (ha : PE X x (tE G W pg cf false a)) (hb : PE X y (tE G W pg cf false b)) : PE X (.Compare x [.In] [y] pos) (tE G W pg cf o (.dIn a b)) := by
  refine ⟨fun pins s σ H Q I h => ?_⟩
  obtain ⟨B, ss, μ, F, ι, R, h⟩ := h
  refine (pe_cmpR (opr_din g.u1) ha hb hm).run pins s σ H Q I ?_
  have h := rdE_iff.mp h
  unfold evE at h
  exact seqE R h fun d μ1 v F1 ι1 H1 _ s1 R1 r1 h1 => seqE R1 h1 fun e μ2 u F2 ι2 H2 _ s2 R2 r2 h2 => dIn_at R2.w R2.m h2 (Rq.step R1.w s2 r1).rp r2.rp fun z hz => hz _ (.of (.bl z))
theorem st_dIn (g : Gd G N sc k W X) (hm : behindInMarks .In y = false) (ha : PE X x (tE G W pg cf false a)) (hb : PE X y (tE G W pg cf false b)) : PT X (.Compare x [.In] [y] pos) (tT G W pg cf (.dIn a b)) := by
  refine ⟨fun pins s σ H Q I h => ?_⟩
  obtain ⟨B, ss, μ, F, ι, R, h⟩ := h
  refine (pt_cmpR (opr_din g.u1) ha hb hm).run pins s σ H Q I ?_
  have e : (evE pg cf true (.dIn a b) ss μ).tst = (evE pg cf false a ss μ).bind fun x μ1 => (evE pg cf false b ss μ1).bind fun y μ2 => (dInR x y μ2).tst := by
    show Res.tst ((evE pg cf false a ss μ).bind fun x μ1 => (evE pg cf false b ss μ1).bind fun y μ2 => dInR x y μ2) = _
    rw [rdX_tst_bind]
    simp only [rdX_tst_bind]
  rw [e] at h
  exact seqE R h fun d μ1 v F1 ι1 H1 _ s1 R1 r1 h1 => seqE R1 h1 fun e μ2 u F2 ι2 H2 _ s2 R2 r2 h2 => dIn_at (P := fun c H => ∃ k, c = .bl k ∧ Q k H) R2.w R2.m (KT_bl h2) (Rq.step R1.w s2 r1).rp r2.rp fun z hz => hz z rfl
theorem s_dIx (g : Gd G N sc k W X) (hs : noSlice y = true) (ha : PE X x (tE G W pg cf false b)) (hb : PE X y (tE G W pg cf false a)) : PE X (.Subscript x y pos) (tE G W pg cf o (.dIx b a)) := by
  refine ⟨fun pins s σ H Q I h => ?_⟩
  obtain ⟨B, ss, μ, F, ι, R, h⟩ := h
  refine (pe_dget g.u1 ha hb (plainIx hs)).run pins s σ H Q I ?_
  have h := rdE_iff.mp h
  unfold evE at h
  refine seqE R h fun d μ1 v F1 ι1 H1 _ s1 R1 r1 h1 => seqE R1 h1 fun e μ2 u F2 ι2 H2 _ s2 R2 r2 h2 => ?_
  unfold dIxR at h2
  split at h2
  · rename_i d hr
    obtain ⟨c, rfl, _, z, g2, hz⟩ := dAt_inv hr r2.rp (Rq.step R1.w s2 r1).rp
    rcases hz with ⟨d, z, e1, rfl, r3⟩ | ⟨e1, _⟩
    · cases e1
      exact ⟨c, z, rfl, g2, rdX_of h2 R2.w R2.m r3⟩
    · cases e1
  · exact h2.elim
theorem s_dGet (g : Gd G N sc k W X) {p cp : Pos} (hs : noSuper x = true) (hl : (p.endLine == cp.line) = true) (hp : plainA y = true) (ha : PE X x (tE G W pg cf false b)) (hb : PE X y (tE G W pg cf false a)) : PE X (.Call (.Attribute x "get" p) [y] [] cp) (tE G W pg cf o (.dGet b a)) := by
  refine ⟨fun pins s σ H Q I h => ?_⟩
  obtain ⟨B, ss, μ, F, ι, R, h⟩ := h
  refine (pe_dget1 g.u1 ha hb ⟨base_plain hs, by rw [starEach_cons hp]; rfl, hl, by rw [starEach_cons hp]; rfl⟩).run pins s σ H Q I ?_
  have h := rdE_iff.mp h
  unfold evE at h
  refine seqE R h fun d μ1 v F1 ι1 H1 _ s1 R1 r1 h1 => ?_
  split at h1
  · rename_i ks ds
    obtain ⟨c, rfl, hd⟩ : ∃ c, v = .ref c ∧ IsD H1 c := by
      have r1 := r1.rp
      cases r1 with
      | dct f h l rr => exact ⟨_, rfl, .inl ⟨_, .inl h⟩⟩
    refine ⟨c, rfl, hd, seqE R1 h1 fun e μ2 u F2 ι2 H2 _ s2 R2 r2 h2 => ?_⟩
    unfold dGetR at h2
    split at h2
    · rename_i r hr
      obtain ⟨c', e', _, z, g2, hz⟩ := dAt_inv hr r2.rp (Rq.step R1.w s2 r1).rp
      cases e'
      refine ⟨z, g2, ?_⟩
      rcases hz with ⟨d, z, rfl, rfl, r3⟩ | ⟨rfl, rfl⟩
      · exact rdX_of h2 R2.w R2.m r3
      · exact rdX_of h2 R2.w R2.m .non
    · exact h2.elim
  · exact h1.elim
end
theorem putK_new {kvs : List (Key × V)} {k : Key} {v : V} (h : ∀ p ∈ kvs, p.1 ≠ k) : putK kvs k v = kvs ++ [(k, v)] := by
  unfold putK
  rw [if_neg]
  simp only [List.any_eq_true, decide_eq_true_eq, not_exists, not_and]
  exact h
theorem merge_nodup : ∀ (more kvs : List (Key × V)), (more.map (·.1)).Nodup → (∀ p ∈ kvs, ∀ q ∈ more, p.1 ≠ q.1) → mergeK kvs more = kvs ++ more
  | [], kvs, _, _ => by simp [mergeK]
  | q :: more, kvs, hn, hd => by
    have e : mergeK kvs (q :: more) = mergeK (putK kvs q.1 q.2) more := rfl
    rw [e, putK_new fun p hp => hd p hp q List.mem_cons_self]
    rw [List.map_cons, List.nodup_cons] at hn
    rw [merge_nodup more _ hn.2 fun p hp r hr => ?_]
    · simp
    · rcases List.mem_append.mp hp with hp | hp
      · exact hd p hp r (List.mem_cons_of_mem _ hr)
      · simp at hp
        subst hp
        exact fun z => hn.1 (List.mem_map.mpr ⟨r, hr, z.symm⟩)
theorem kv_rps : ∀ {ds : List D} {vs : List V} {kvs : List (Key × D)}, Rps G F ι H ds vs → kvD ds = some kvs → ∃ (ps : List Addr) (us : List V), vs = ps.map V.ref ∧ us.length = kvs.length ∧ Rps G F ι H (kvs.map (·.2)) us ∧ Paired (fun p (kv : Key × V) => SqT G.K H p [kV kv.1, kv.2]) ps ((kvs.map (·.1)).zip us)
  | [], _, kvs, .nil, e => by
    cases e
    exact ⟨[], [], rfl, rfl, .nil, .nil⟩
  | d :: ds, _, kvs, .cons r rs, e => by
    unfold kvD at e
    split at e
    · rename_i heq
      cases heq
    · rename_i i d' r' heq
      cases heq
      obtain ⟨l, e2, rfl⟩ := Option.map_eq_some_iff.mp e
      obtain ⟨ps, us, rfl, hl, hr, hp⟩ := kv_rps rs e2
      cases r with
      | tup t rr =>
        cases rr with
        | cons r1 rr =>
          cases rr with
          | cons r2 rr =>
            cases rr
            cases r1
            exact ⟨_ :: ps, _ :: us, rfl, by simp [hl], .cons r2 hr, .cons t hp⟩
    · cases e
theorem s_dctp (g : Gd G N sc k W X) (fk : Fk T G pg) {x : Expr} {a : IE} {p : Pos} (hg : Gl X "dict") (hp : plainA x = true) (ha : PE X x (tE G W pg cf true a)) : PE X (.Call (.Name "dict" p) [x] [] pos) (tE G W pg cf o (.dctp a)) := by
  refine ⟨fun pins s σ H Q I h => ?_⟩
  obtain ⟨B, ss, μ, F, ι, R, h⟩ := h
  refine (pe_callTy (call_dictP g.calm) hg (fk.bl1 g (by decide)) (by decide +kernel) (pa_cons ha pa_nil (starEach_cons hp)) (by decide) (by decide) (starEach_cons hp) (starEach_any (by simp))).run pins s σ H Q I ?_
  have h := rdE_iff.mp h
  unfold evE at h
  refine seqE R h fun d μ1 v F1 ι1 H1 _ s1 R1 r1 h1 => ?_
  unfold dctR at h1
  split at h1
  · rename_i kvs hkv
    split at h1
    · rename_i hn
      obtain ⟨ds, e3, e4⟩ := Option.bind_eq_some_iff.mp hkv
      obtain ⟨c, vs, rfl, hs, rs⟩ := Rq.lview R1.w R1.m r1 e3
      obtain ⟨ps, us, rfl, hl, hr, hpr⟩ := kv_rps rs e4
      have ek : ((kvs.map (·.1)).zip us).map (·.1) = kvs.map (·.1) := by
        rw [List.map_fst_zip (by simp [hl])]
      refine ⟨c, ps, (kvs.map (·.1)).zip us, rfl, by rw [g.K]; exact .inl (.inl hs), by rw [g.K]; exact hpr, fun q hq => ?_⟩
      rw [merge_nodup _ _ (by rw [ek]; exact hn) (by simp), List.nil_append]
      have hx := ext_upd (o := .dK ((kvs.map (·.1)).zip us)) hq
      have w1 := R1.w.ext hx
      obtain ⟨hi, _⟩ := none_mem R1.w hq
      exact h1 (fun a => F1 a ∨ a = q) ι1 _ (fz_stp (Stp.ext R1.w hx) hq) (fz_wld w1 upd_same hi) ((R1.m.ext R1.w hx).mono fun a z => .inl z) _ (.of (.dct (vs := us) (.inr rfl) upd_same (by simp [hl]) ((Rps.step R1.w (Stp.ext R1.w hx) hr).mono fun a z => .inl z)))
    · exact h1.elim
  · exact h1.elim
end
end T
end

section
namespace T
open PySem PySem.Spec L2

section
variable {G : Glo} {N : List Str} {sc : Scope} {k : Nat} {W : WX} {X : Cx} {pg : Pg} {cf : CF} {o : Bool} {pos : Pos} {T : Tbl}
variable {F F' F'' F2 : Addr → Prop} {ι ι' ι'' : List Addr} {H H' H'' H0 : Hp} {B : Ent} {ss : Slots} {μ : Store} {σ : St}

theorem s_new (g : Gd G N sc k W X) {fk : Fk T G pg} {c : Nat} (hm : T.mkc c = true) (hpo : T.po (T.init c) = true) (hF : FnC T G pg fk cf k (pg.init c)) {p : Pos} {es : List Expr} {as : IEs} (hg : Gl X (T.cnm c)) (hn : okName (T.cnm c) = true) (hp : ∀ y ∈ es, plainA y = true) (hlen : as.len = es.length)
    (ha : L2.PA X es (tEs G W pg cf false as)) : PE X (.Call (.Name (T.cnm c) p) es [] pos) (tE G W pg cf o (.new c as)) := by
  refine ⟨fun pins s σ H Q I h => ?_⟩
  obtain ⟨B, ss, μ, F, ι, R, h⟩ := h
  have h := rdE_iff.mp h
  unfold evE at h
  refine wpAny_Call_Name_kw (ld_glob I hg (by rw [g.mg]; exact fk.gc c (fk.mkv c hm)) ?_ (okN1 hn))
  have hk : PySem.W.keepIn X.K (.ref (G.ca c)) = true := by rw [g.K]; exact (fk.mkk c hm).kp
  have fin : ∀ (us : List Value) (s1 : Shared) (vs : List V) (H1 : Hp) (ds : List D) (μ1 : Store) (F1 : Addr → Prop) (ι1 : List Addr), Inv X pins σ H1 s1 → Vals vs us → Wld F1 ι1 H1 → RelM G F1 μ1 ι1 H1 → Rps G F1 ι1 H1 ds vs → rdX G W σ F1 ι1 H1 (KV G o Q) (newD pg cf c ds μ1) →
      wpAny (model X.prog X.w) X.A (call (.ref (G.ca c)) us) (EP X pins σ Q) X.xe s1 := by
    intro us s1 vs H1 ds μ1 F1 ι1 I1 r w m rs h1
    have hc := rdC_of h1
    have hne : cf (pg.init c) (.ref μ1.length :: ds) (μ1 ++ [.ins c [] []]) ≠ .bad := fun e => by
      unfold newD at hc
      rw [e] at hc
      exact hc
    have hl : ∀ x : Value, (x :: us).length = (fk.ps (pg.init c)).length := fun x => by
      rw [List.length_cons, ← r.length, ← rs.length, fk.psl]
      exact hF.len _ _ hne
    exact wpAny_call (run_new (zs := us) g hm hF I1 (fun s' x _ => .of_eq (fk.bnd (pg.init c) (by rw [fk.ini]; exact hpo) (.ref x :: us) (hl _))) r w m rs hc)
  cases es with
  | nil =>
    refine PySem.W.callWith_K0 I.kIn hk ?_
    cases as with
    | nil => exact fin [] s [] H [] μ F ι I .nil R.w R.m .nil (by simpa [evEs, Res.bind] using h)
    | cons a r => cases hlen
  | cons e es =>
    have run := ha.run pos pins s σ H (fun vs H1 => ∃ ds μ1 F1 ι1, Wld F1 ι1 H1 ∧ RelM G F1 μ1 ι1 H1 ∧ Rps G F1 ι1 H1 ds vs ∧ rdX G W σ F1 ι1 H1 (KV G o Q) (newD pg cf c ds μ1)) I (seqEs R h fun ds μ1 vs F1 ι1 H1 _ s1 R1 r1 h1 => ⟨ds, μ1, F1, ι1, R1.w, R1.m, r1.rps, h1⟩)
    exact PySem.W.callWith_K (h₀ := X.base) I.ok.mod.kin hk (thn run fun us s1 ⟨vs, H1, I1, r, ds, μ1, F1, ι1, w1, m1, rs, h1⟩ => ⟨I1.kIn, fin us s1 vs H1 ds μ1 F1 ι1 I1 r w1 m1 rs h1⟩) (starEach_cons (hp e List.mem_cons_self)) (starEach_any fun y hy => hp y (List.mem_cons_of_mem _ hy))

theorem eqC (g : Gd G N sc k W X) {fk : Fk T G pg} (hF : ∀ f, FnC T G pg fk cf k f) : EqH G pg cf X := eqH_of (fk := fk) g fun c f _ => hF f
/-- both -/
def Both (G : Glo) (W : WX) (pg : Pg) (cf : CF) (X : Cx) (x : Expr) (e : IE) : Prop := (∀ o, PE X x (tE G W pg cf o e)) ∧ PT X x (tT G W pg cf e)
theorem both (g : Gd G N sc k W X) {x : Expr} {e : IE} (hp : plainT x = true) (h : ∀ o, PE X x (tE G W pg cf o e)) : Both G W pg cf X x e := ⟨h, st_plain g hp (h true)⟩

variable (T pg cf N) in
mutual
theorem sE (fk : Fk T G pg) (hF : ∀ f, FnC T G pg fk cf k f) : ∀ (e : IE) {sc : Scope} {W : WX} {X : Cx} {x : Expr}, Gd G N sc k W X → mE T N sc e x = true → Both G W pg cf X x e
  | .v i, sc, W, X, x, g, h => by
    unfold mE at h
    split at h
    · simp only [Bool.and_eq_true, decide_eq_true_eq] at h
      exact both g rfl fun o => s_var g h.1 h.2.1 h.2.2
    · cases h
  | .non, sc, W, X, x, g, h => by
    unfold mE at h
    split at h
    · exact both g rfl fun o => s_non
    · cases h
  | .bl b, sc, W, X, x, g, h => by
    unfold mE at h
    split at h
    · rw [beq_iff_eq] at h
      subst h
      exact both g rfl fun o => s_bl
    · cases h
  | .int i, sc, W, X, x, g, h => by
    unfold mE at h
    split at h
    · have h := of_decide_eq_true h
      subst h
      exact both g rfl fun o => s_int
    · cases h
  | .str z, sc, W, X, x, g, h => by
    unfold mE at h
    split at h
    · have h := of_decide_eq_true h
      subst h
      exact both g rfl fun o => s_str
    · cases h
  | .gi y i, sc, W, X, x, g, h => by
    unfold mE at h
    split at h
    · simp only [Bool.and_eq_true, decide_eq_true_eq] at h
      obtain ⟨⟨⟨rfl, h1⟩, h2⟩, h3⟩ := h
      exact both g rfl fun o => s_gi g fk h1 h2 h3
    · cases h
  | .gs y z, sc, W, X, x, g, h => by
    unfold mE at h
    split at h
    · simp only [Bool.and_eq_true, decide_eq_true_eq] at h
      obtain ⟨⟨⟨rfl, h1⟩, h2⟩, h3⟩ := h
      exact both g rfl fun o => s_gs g fk h1 h2 h3
    · cases h
  | .tup es, sc, W, X, x, g, h => by
    unfold mE at h
    split at h
    · simp only [Bool.and_eq_true, decide_eq_true_eq] at h
      obtain ⟨p, l, _⟩ := sEs fk hF es g h.2
      exact both g rfl fun o => s_tup (by rw [l]; exact h.1) (p false)
    · cases h
  | .lst m l, sc, W, X, x, g, h => by
    unfold mE at h
    obtain ⟨hp, p⟩ := sL fk hF l g h
    refine both g hp fun o => ?_
    cases m with
    | fz => exact s_lst_fz p
    | sh => exact s_lst_sh p
  | .bin op a b, sc, W, X, x, g, h => by
    unfold mE at h
    split at h
    · simp only [Bool.and_eq_true, decide_eq_true_eq] at h
      obtain ⟨rfl, h1, h2⟩ := h
      exact both g rfl fun o => s_bin g ((sE fk hF a g h1).1 false) ((sE fk hF b g h2).1 false)
    · cases h
  | .neg a, sc, W, X, x, g, h => by
    unfold mE at h
    split at h
    · exact both g rfl fun o => s_neg g ((sE fk hF a g h).1 false)
    · cases h
  | .cmp op a b, sc, W, X, x, g, h => by
    unfold mE at h
    split at h
    · simp only [Bool.and_eq_true, decide_eq_true_eq, Bool.not_eq_true'] at h
      obtain ⟨⟨rfl, hm⟩, h1, h2⟩ := h
      exact ⟨fun o => s_cmp g hm ((sE fk hF a g h1).1 true) ((sE fk hF b g h2).1 true), st_cmp g hm ((sE fk hF a g h1).1 true) ((sE fk hF b g h2).1 true)⟩
    · cases h
  | .cmpo op a b, sc, W, X, x, g, h => by
    unfold mE at h
    split at h
    · simp only [Bool.and_eq_true, decide_eq_true_eq, Bool.not_eq_true'] at h
      obtain ⟨⟨rfl, hm⟩, h1, h2⟩ := h
      exact ⟨fun o => s_cmpo g (eqC g hF) hm ((sE fk hF a g h1).1 false) ((sE fk hF b g h2).1 false), st_cmpo g (eqC g hF) hm ((sE fk hF a g h1).1 false) ((sE fk hF b g h2).1 false)⟩
    · cases h
  | .chain op op' a b c, sc, W, X, x, g, h => by
    unfold mE at h
    split at h
    · simp only [Bool.and_eq_true, decide_eq_true_eq, Bool.not_eq_true'] at h
      obtain ⟨⟨⟨⟨⟨rfl, rfl⟩, hm⟩, _⟩, _⟩, h1, h2, h3⟩ := h
      exact ⟨fun o => s_chain g hm ((sE fk hF a g h1).1 false) ((sE fk hF b g h2).1 false) ((sE fk hF c g h3).1 false), st_chain g hm ((sE fk hF a g h1).1 false) ((sE fk hF b g h2).1 false) ((sE fk hF c g h3).1 false)⟩
    · cases h
  | .isN a, sc, W, X, x, g, h => by
    unfold mE at h
    split at h
    · exact ⟨fun o => s_isN ((sE fk hF a g h).1 true), st_isN ((sE fk hF a g h).1 true)⟩
    · cases h
  | .notN a, sc, W, X, x, g, h => by
    unfold mE at h
    split at h
    · exact ⟨fun o => s_notN ((sE fk hF a g h).1 true), st_notN ((sE fk hF a g h).1 true)⟩
    · cases h
  | .nt a, sc, W, X, x, g, h => by
    unfold mE at h
    split at h
    · exact ⟨fun o => s_not g ((sE fk hF a g h).1 true), st_not (sE fk hF a g h).2⟩
    · cases h
  | .bo op es, sc, W, X, x, g, h => by
    unfold mE at h
    split at h
    · simp only [Bool.and_eq_true, decide_eq_true_eq, Bool.not_eq_true'] at h
      obtain ⟨⟨rfl, hne⟩, h1⟩ := h
      obtain ⟨_, _, _, p, _⟩ := sEs fk hF es g h1
      obtain ⟨p1, p2⟩ := p (by cases es with
        | nil => unfold mEs at h1; rw [h1] at hne; cases hne
        | cons _ _ => exact fun z => nomatch z) _ _
      exact ⟨p1, p2.pt⟩
    · cases h
  | .ite c a b, sc, W, X, x, g, h => by
    unfold mE at h
    split at h
    · simp only [Bool.and_eq_true] at h
      obtain ⟨h1, h2, h3⟩ := h
      exact ⟨fun o => s_ite (sE fk hF c g h1).2 ((sE fk hF a g h2).1 o) ((sE fk hF b g h3).1 o), st_ite (sE fk hF c g h1).2 (sE fk hF a g h2).2 (sE fk hF b g h3).2⟩
    · cases h
  | .ix a i, sc, W, X, x, g, h => by
    unfold mE at h
    split at h
    · simp only [Bool.and_eq_true] at h
      obtain ⟨h1, h2, h3⟩ := h
      exact both g rfl fun o => s_ix g h1 ((sE fk hF a g h2).1 true) ((sE fk hF i g h3).1 false)
    · cases h
  | .slc a lo hi, sc, W, X, x, g, h => by
    unfold mE at h
    split at h
    · simp only [Bool.and_eq_true] at h
      obtain ⟨h1, h2, h3⟩ := h
      exact both g rfl fun o => s_slc g ((sE fk hF a g h1).1 true) (sO fk hF lo g h2) (sO fk hF hi g h3)
    · cases h
  | .rev a, sc, W, X, x, g, h => by
    unfold mE at h
    split at h
    · exact both g rfl fun o => s_rev g ((sE fk hF a g h).1 true)
    · cases h
  | .fld a f, sc, W, X, x, g, h => by
    unfold mE at h
    split at h
    · simp only [Bool.and_eq_true, decide_eq_true_eq] at h
      obtain ⟨⟨⟨rfl, h1⟩, h2⟩, h3⟩ := h
      exact both g rfl fun o => s_fld g fk h1 h2 ((sE fk hF a g h3).1 false)
    · cases h
  | .call f es, sc, W, X, x, g, h => by
    unfold mE at h
    split at h
    · simp only [Bool.and_eq_true, decide_eq_true_eq] at h
      obtain ⟨⟨⟨⟨⟨h0, rfl⟩, h1⟩, h2⟩, h3, hpo⟩, h4⟩ := h
      obtain ⟨p, l, pl, _⟩ := sEs fk hF es g h4
      exact both g rfl fun o => s_call g (hF f) h0 hpo (g.gl h1) h2 pl l (p false)
    · cases h
  | .callk f p as bs, sc, W, X, x, g, h => by
    unfold mE at h
    split at h
    · simp only [Bool.and_eq_true, decide_eq_true_eq] at h
      obtain ⟨⟨⟨h0, rfl, h1, h2⟩, h3, h4⟩, h5, h6⟩ := h
      obtain ⟨pa, l, pl, _⟩ := sEs fk hF as g h5
      obtain ⟨pk, lk⟩ := sKs fk hF bs g h6
      exact both g rfl fun o => s_callk g (hF f) h0 (g.gl h1) h2 pl l h3 lk h4 (pa false) pk
    · cases h
  | .meth m a, sc, W, X, x, g, h => by
    unfold mE at h
    split at h
    · simp only [Bool.and_eq_true, decide_eq_true_eq] at h
      obtain ⟨⟨h0, rfl, h1, h2⟩, h3⟩ := h
      exact both g rfl fun o => s_meth0 g hF h0 h1 h2 ((sE fk hF a g h3).1 false)
    · cases h
  | .new c es, sc, W, X, x, g, h => by
    unfold mE at h
    split at h
    · simp only [Bool.and_eq_true, decide_eq_true_eq] at h
      obtain ⟨⟨⟨⟨⟨h0, rfl⟩, h1⟩, h2⟩, h3, hpo⟩, h4⟩ := h
      obtain ⟨p, l, pl, _⟩ := sEs fk hF es g h4
      exact both g rfl fun o => s_new g h0 hpo (hF _) (g.gl h1) h2 pl l (p false)
    · cases h
  | .newk c p as bs, sc, W, X, x, g, h => by
    unfold mE at h
    split at h
    · simp only [Bool.and_eq_true, decide_eq_true_eq] at h
      obtain ⟨⟨⟨h0, rfl, h1, h2⟩, h3, h4⟩, h5, h6⟩ := h
      obtain ⟨pa, l, pl, _⟩ := sEs fk hF as g h5
      obtain ⟨pk, lk⟩ := sKs fk hF bs g h6
      exact both g rfl fun o => s_newk g h0 (hF _) (g.gl h1) h2 pl l h3 lk h4 (pa false) pk
    · cases h
  | .bi b es, sc, W, X, x, g, h => by
    unfold mE at h
    split at h
    · split at h
      · rename_i hb
        subst hb
        split at h
        · simp only [Bool.and_eq_true, decide_eq_true_eq] at h
          obtain ⟨⟨⟨⟨⟨rfl, h1⟩, rfl⟩, h2⟩, h3⟩, h4⟩ := h
          obtain ⟨_, l, pl, _, _, q⟩ := sEs fk hF es g h4
          obtain ⟨a, z, rfl, rfl, pa⟩ := q h3
          exact both g rfl fun o => s_lenset g fk (g.gl h1) (g.gl h2) (pl z (by simp)) (pa true)
        · cases h
      · rename_i hb
        simp only [Bool.and_eq_true, decide_eq_true_eq, Bool.not_eq_true'] at h
        obtain ⟨⟨⟨h1, h2⟩, h3⟩, h4⟩ := h
        obtain ⟨pe, l, pl, _⟩ := sEs fk hF es g h4
        rename_i xs _ _
        cases xs with
        | nil => cases h3
        | cons e es' => exact both g rfl fun o => s_bi g fk hb h1 (g.gl h2) pl (pe true)
    · cases h
  | .isi a t, sc, W, X, x, g, h => by
    unfold mE at h
    split at h
    · simp only [Bool.and_eq_true, decide_eq_true_eq] at h
      obtain ⟨⟨⟨⟨⟨h0, rfl⟩, h2⟩, h3⟩, h4⟩, h5⟩ := h
      have ia := (sE fk hF a g h5).1 true
      have bt : ∀ (n : String) (z : Str) (p : Pos), n ∈ ["int", "bool", "str", "tuple", "list", "dict"] → Str.ofString n = z → glb sc z = true → PE X (.Name z p) (tC (.ty n)) := by
        intro n z p hn hz hg
        subst hz
        simp only [List.mem_cons, List.not_mem_nil, or_false] at hn
        rcases hn with rfl | rfl | rfl | rfl | rfl | rfl <;> exact pe_bltn (g.gl hg) (fk.bl1 g (by decide)) (by decide +kernel) rfl (by decide) (by decide)
      cases t with
      | cls c =>
        unfold tyM at h4
        simp only [Bool.and_eq_true, decide_eq_true_eq] at h4
        obtain ⟨⟨h6, rfl⟩, h7⟩ := h4
        have hv : G.vc c = true := by rw [fk.vc]; exact h6
        exact both g rfl fun o => s_isi (c := .ref (G.ca c)) g fk (g.gl h2) h0 rfl ia (pe_glob (g.gl h3) (by rw [g.mg]; exact fk.gc c hv) rfl (okN1 h7)) ⟨hv, rfl⟩
      | int => exact both g rfl fun o => s_isi (t := .int) (c := .ty "int") g fk (g.gl h2) h0 rfl ia (bt _ _ _ (by decide) (of_decide_eq_true h4) h3) rfl
      | bool => exact both g rfl fun o => s_isi (t := .bool) (c := .ty "bool") g fk (g.gl h2) h0 rfl ia (bt _ _ _ (by decide) (of_decide_eq_true h4) h3) rfl
      | str => exact both g rfl fun o => s_isi (t := .str) (c := .ty "str") g fk (g.gl h2) h0 rfl ia (bt _ _ _ (by decide) (of_decide_eq_true h4) h3) rfl
      | tuple => exact both g rfl fun o => s_isi (t := .tuple) (c := .ty "tuple") g fk (g.gl h2) h0 rfl ia (bt _ _ _ (by decide) (of_decide_eq_true h4) h3) rfl
      | list => exact both g rfl fun o => s_isi (t := .list) (c := .ty "list") g fk (g.gl h2) h0 rfl ia (bt _ _ _ (by decide) (of_decide_eq_true h4) h3) rfl
      | dict => exact both g rfl fun o => s_isi (t := .dict) (c := .ty "dict") g fk (g.gl h2) h0 rfl ia (bt _ _ _ (by decide) (of_decide_eq_true h4) h3) rfl
    · cases h
  | .dct0, sc, W, X, x, g, h => by
    unfold mE at h
    split at h
    · exact both g rfl fun o => s_dct0
    · cases h
  | .dct1 y a, sc, W, X, x, g, h => by
    unfold mE at h
    split at h
    · simp only [Bool.and_eq_true, decide_eq_true_eq] at h
      obtain ⟨rfl, h2⟩ := h
      exact both g rfl fun o => s_dct1 ((sE fk hF a g h2).1 false)
    · cases h
  | .eqNil a, sc, W, X, x, g, h => by
    unfold mE at h
    split at h
    · exact ⟨fun o => s_eqNil g ((sE fk hF a g h).1 true), (st_eqNil g ((sE fk hF a g h).1 true))⟩
    · cases h
  | .dctp a, sc, W, X, x, g, h => by
    unfold mE at h
    split at h
    · simp only [Bool.and_eq_true, decide_eq_true_eq] at h
      obtain ⟨⟨⟨rfl, h1⟩, h2⟩, h3⟩ := h
      exact both g rfl fun o => s_dctp g fk (g.gl h1) h2 ((sE fk hF a g h3).1 true)
    · cases h
  | .dIn a b, sc, W, X, x, g, h => by
    unfold mE at h
    split at h
    · simp only [Bool.and_eq_true, Bool.not_eq_true'] at h
      obtain ⟨hm, h1, h2⟩ := h
      exact ⟨fun o => s_dIn g hm ((sE fk hF a g h1).1 false) ((sE fk hF b g h2).1 false), st_dIn g hm ((sE fk hF a g h1).1 false) ((sE fk hF b g h2).1 false)⟩
    · cases h
  | .dIx b a, sc, W, X, x, g, h => by
    unfold mE at h
    split at h
    · simp only [Bool.and_eq_true] at h
      obtain ⟨h0, h1, h2⟩ := h
      exact both g rfl fun o => s_dIx g h0 ((sE fk hF b g h1).1 false) ((sE fk hF a g h2).1 false)
    · cases h
  | .dGet b a, sc, W, X, x, g, h => by
    unfold mE at h
    split at h
    · simp only [Bool.and_eq_true, decide_eq_true_eq] at h
      obtain ⟨⟨rfl, ⟨h0, hl⟩, hp⟩, h1, h2⟩ := h
      exact both g rfl fun o => s_dGet g h0 hl hp ((sE fk hF b g h1).1 false) ((sE fk hF a g h2).1 false)
    · cases h
  | .lstNil ne a, sc, W, X, x, g, h => by
    unfold mE at h
    split at h
    · simp only [Bool.and_eq_true, decide_eq_true_eq] at h
      obtain ⟨rfl, h1⟩ := h
      exact ⟨fun o => s_lstNil g ((sE fk hF a g h1).1 true), (st_lstNil g ((sE fk hF a g h1).1 true))⟩
    · cases h
theorem sKs (fk : Fk T G pg) (hF : ∀ f, FnC T G pg fk cf k f) : ∀ (es : IEs) {sc : Scope} {W : WX} {X : Cx} {xs : List Keyword}, Gd G N sc k W X → mKs T N sc es xs = true → PK X xs (tEs G W pg cf false es) ∧ es.len = xs.length
  | .nil, sc, W, X, xs, g, h => by
    unfold mKs at h
    cases xs with
    | nil => exact ⟨sk_nil, rfl⟩
    | cons _ _ => cases h
  | .cons a r, sc, W, X, xs, g, h => by
    cases xs with
    | nil => unfold mKs at h; cases h
    | cons x xr =>
      obtain ⟨n, v, p⟩ := x
      unfold mKs at h
      simp only [Bool.and_eq_true] at h
      obtain ⟨pk, lk⟩ := sKs fk hF r g h.2
      exact ⟨sk_cons ((sE fk hF a g h.1).1 false) pk, by rw [IEs.len, List.length_cons, lk]⟩
theorem sEs (fk : Fk T G pg) (hF : ∀ f, FnC T G pg fk cf k f) : ∀ (es : IEs) {sc : Scope} {W : WX} {X : Cx} {xs : List Expr}, Gd G N sc k W X → mEs T N sc es xs = true →
    (∀ o, L2.PA X xs (tEs G W pg cf o es)) ∧ es.len = xs.length ∧ (∀ y ∈ xs, plainA y = true) ∧ (es ≠ .nil → ∀ (op : BoolOp) (pos : Pos), (∀ o, PE X (.BoolOp op xs pos) (tE G W pg cf o (.bo op es))) ∧ PW X (.BoolOp op xs pos) (tT G W pg cf (.bo op es))) ∧
      (xs.length ≤ 1 → PTs X xs (tTs G W pg cf es)) ∧ (xs.length = 1 → ∃ a x, es = .cons a .nil ∧ xs = [x] ∧ ∀ o, PE X x (tE G W pg cf o a))
  | .nil, sc, W, X, xs, g, h => by
    unfold mEs at h
    cases xs with
    | nil => exact ⟨fun o => sa_nil, rfl, by simp, fun z => absurd rfl z, fun _ => sts_nil, fun z => nomatch z⟩
    | cons _ _ => cases h
  | .cons a r, sc, W, X, xs, g, h => by
    cases xs with
    | nil => unfold mEs at h; cases h
    | cons x xr =>
      unfold mEs at h
      simp only [Bool.and_eq_true] at h
      obtain ⟨h1, h2, h3⟩ := h
      have ia := sE fk hF a g h2
      obtain ⟨p, l, pl, q, q2, q3⟩ := sEs fk hF r g h3
      refine ⟨fun o => sa_cons (plainA_ne h1) (ia.1 o) (p o), by rw [IEs.len, List.length_cons, l], fun y hy => ?_, fun _ op pos => ?_, fun hl => ?_, fun hl => ?_⟩
      · rcases List.mem_cons.mp hy with rfl | hy
        · exact h1
        · exact pl y hy
      · cases r with
        | nil =>
          cases xr with
          | nil => exact ⟨fun o => s_bo1 (ia.1 o), st_bo1 ia.2⟩
          | cons _ _ => cases l
        | cons b r =>
          cases xr with
          | nil => cases l
          | cons y ys =>
            obtain ⟨q1, q2⟩ := q (fun z => nomatch z) op pos
            exact ⟨fun o => s_bo g (ia.1 o) (q1 o), st_bo ia.2 q2⟩
      · cases xr with
        | nil =>
          cases r with
          | nil => exact sts_one ia.2
          | cons _ _ => cases l
        | cons _ _ => simp at hl
      · cases xr with
        | nil =>
          cases r with
          | nil => exact ⟨a, x, rfl, rfl, ia.1⟩
          | cons _ _ => cases l
        | cons _ _ => simp at hl
theorem sO (fk : Fk T G pg) (hF : ∀ f, FnC T G pg fk cf k f) : ∀ (e : IO) {sc : Scope} {W : WX} {X : Cx} {x : Option Expr}, Gd G N sc k W X → mO T N sc e x = true → PO X x (tO G W pg cf e)
  | .no, sc, W, X, x, g, h => by
    unfold mO at h
    split at h
    · exact so_no
    · cases h
  | .so a, sc, W, X, x, g, h => by
    unfold mO at h
    split at h
    · exact so_so ((sE fk hF a g h).1 false)
    · cases h
theorem sIt (fk : Fk T G pg) (hF : ∀ f, FnC T G pg fk cf k f) : ∀ (e : IT) {sc : Scope} {W : WX} {X : Cx} {x tg : Expr} {o : Bool} {S : (Addr → Prop) → List Addr → Hp → Later}, Stab G o S → (∀ F ι H, S F ι H F ι H) → Gd G N sc k W X → itTgt e tg = true → mIt T N sc e x = true → PI X tg x (tI G W pg cf o S e)
  | .seq a, sc, W, X, x, tg, o, S, hS, hr, g, ht, h => by
    unfold mIt at h
    exact si_seq g hS hr ((sE fk hF a g h).1 o)
  | .range1 a, sc, W, X, x, tg, o, S, hS, hr, g, ht, h => by
    unfold mIt at h
    split at h
    · simp only [Bool.and_eq_true, decide_eq_true_eq] at h
      obtain ⟨⟨⟨rfl, h1⟩, h2⟩, h3⟩ := h
      exact si_range1 g fk (g.gl h1) h2 ((sE fk hF a g h3).1 false)
    · cases h
  | .range2 a b, sc, W, X, x, tg, o, S, hS, hr, g, ht, h => by
    unfold mIt at h
    split at h
    · simp only [Bool.and_eq_true, decide_eq_true_eq] at h
      obtain ⟨⟨⟨⟨rfl, h1⟩, h2⟩, h3⟩, h4, h5⟩ := h
      exact si_range2 g fk (g.gl h1) h2 h3 ((sE fk hF a g h4).1 false) ((sE fk hF b g h5).1 false)
    · cases h
  | .enum a, sc, W, X, x, tg, o, S, hS, hr, g, ht, h => by
    unfold mIt at h
    split at h
    · simp only [Bool.and_eq_true, decide_eq_true_eq] at h
      obtain ⟨⟨⟨rfl, h1⟩, h2⟩, h3⟩ := h
      cases tg <;> first | cases ht; done | exact si_enum g fk hS hr (g.gl h1) h2 ((sE fk hF a g h3).1 o)
    · cases h
  | .zip a b, sc, W, X, x, tg, o, S, hS, hr, g, ht, h => by
    unfold mIt at h
    split at h
    · simp only [Bool.and_eq_true, decide_eq_true_eq] at h
      obtain ⟨⟨⟨⟨rfl, h1⟩, h2⟩, h3⟩, h4, h5⟩ := h
      cases tg <;> first | cases ht; done | exact si_zip g fk hS hr (g.gl h1) h2 h3 ((sE fk hF a g h4).1 o) ((sE fk hF b g h5).1 o)
    · cases h
theorem sL (fk : Fk T G pg) (hF : ∀ f, FnC T G pg fk cf k f) : ∀ (e : IL) {sc : Scope} {W : WX} {X : Cx} {x : Expr}, Gd G N sc k W X → mL T N sc e x = true → plainT x = true ∧ PE X x (tL G W pg cf e)
  | .disp es, sc, W, X, x, g, h => by
    unfold mL at h
    split at h
    · simp only [Bool.and_eq_true, decide_eq_true_eq] at h
      obtain ⟨p, l, _⟩ := sEs fk hF es g h.2
      exact ⟨rfl, sl_disp (by rw [l]; exact h.1) (p false)⟩
    · cases h
  | .comp elt tg it cs, sc, W, X, x, g, h => by
    unfold mL at h
    split at h
    · simp only [Bool.and_eq_true, decide_eq_true_eq] at h
      obtain ⟨⟨⟨⟨h1, h2⟩, ⟨h3, h4⟩, h5⟩, h6⟩, h7, h8⟩ := h
      refine ⟨rfl, sl_comp g h1 h3 h2 (sIt fk hF it stab_stp (fun _ _ _ => .refl) g h4 h5) (fun X' g' => ?_) fun X' g' => (sE fk hF elt g' h8).1 false⟩
      obtain ⟨_, _, _, _, q, _⟩ := sEs fk hF cs g' h7
      exact q h6
    · cases h
  | .cat a b, sc, W, X, x, g, h => by
    unfold mL at h
    split at h
    · simp only [Bool.and_eq_true] at h
      exact ⟨rfl, sl_cat g ((sE fk hF a g h.1).1 true) ((sE fk hF b g h.2).1 true)⟩
    · cases h
  | .rep a b, sc, W, X, x, g, h => by
    unfold mL at h
    split at h
    · simp only [Bool.and_eq_true] at h
      exact ⟨rfl, sl_rep g ((sE fk hF a g h.1).1 true) ((sE fk hF b g h.2).1 false)⟩
    · cases h
  | .slc a lo hi, sc, W, X, x, g, h => by
    unfold mL at h
    split at h
    · simp only [Bool.and_eq_true] at h
      obtain ⟨h1, h2, h3⟩ := h
      exact ⟨rfl, sl_slc g ((sE fk hF a g h1).1 true) (sO fk hF lo g h2) (sO fk hF hi g h3)⟩
    · cases h
  | .rev a, sc, W, X, x, g, h => by
    unfold mL at h
    split at h
    · exact ⟨rfl, sl_rev g ((sE fk hF a g h).1 true)⟩
    · cases h
  | .listOf a, sc, W, X, x, g, h => by
    unfold mL at h
    split at h
    · simp only [Bool.and_eq_true, decide_eq_true_eq] at h
      obtain ⟨⟨⟨rfl, h1⟩, h2⟩, h3⟩ := h
      exact ⟨rfl, sl_listOf g fk (g.gl h1) h2 ((sE fk hF a g h3).1 true)⟩
    · cases h
  | .dispS e a, sc, W, X, x, g, h => by
    unfold mL at h
    split at h
    · simp only [Bool.and_eq_true] at h
      obtain ⟨h1, h2, h3⟩ := h
      exact ⟨rfl, sl_dispS g h1 ((sE fk hF e g h2).1 false) ((sE fk hF a g h3).1 true)⟩
    · cases h
  | .sorti a, sc, W, X, x, g, h => by
    unfold mL at h
    split at h
    · simp only [Bool.and_eq_true, decide_eq_true_eq] at h
      obtain ⟨⟨⟨rfl, h1⟩, h2⟩, h3⟩ := h
      exact ⟨rfl, sl_sorti g fk (g.gl h1) h2 ((sE fk hF a g h3).1 true)⟩
    · cases h
  | .sortp a, sc, W, X, x, g, h => by
    unfold mL at h
    split at h
    · simp only [Bool.and_eq_true, decide_eq_true_eq] at h
      obtain ⟨⟨⟨rfl, h1⟩, h2⟩, h3⟩ := h
      exact ⟨rfl, sl_sortp g fk (g.gl h1) h2 ((sE fk hF a g h3).1 true)⟩
    · cases h
  | .sortset a, sc, W, X, x, g, h => by
    unfold mL at h
    split at h
    · simp only [Bool.and_eq_true, decide_eq_true_eq] at h
      obtain ⟨⟨⟨⟨⟨rfl, h1⟩, rfl⟩, h2⟩, h3⟩, h4⟩ := h
      exact ⟨rfl, sl_sortset g fk (g.gl h1) (g.gl h2) h3 ((sE fk hF a g h4).1 true)⟩
    · cases h
  | .listRg a, sc, W, X, x, g, h => by
    unfold mL at h
    split at h
    · simp only [Bool.and_eq_true, decide_eq_true_eq] at h
      obtain ⟨⟨⟨⟨⟨rfl, h1⟩, rfl⟩, h2⟩, h3⟩, h4⟩ := h
      exact ⟨rfl, sl_listRg g fk (g.gl h1) (g.gl h2) h3 ((sE fk hF a g h4).1 false)⟩
    · cases h
end
end
end T
end

section
namespace T
open PySem PySem.Spec L2

section
variable {G : Glo} {N : List Str} {sc : Scope} {k : Nat} {W : WX} {X : Cx} {pg : Pg} {cf : CF} {o : Bool} {pos : Pos} {T : Tbl}
variable {F F' F'' F2 : Addr → Prop} {ι ι' ι'' : List Addr} {H H' H'' H0 : Hp} {B : Ent} {ss ss' : Slots} {μ : Store} {σ : St}

/-! ### what a name gets -/
def RpV (G : Glo) (H0 : Hp) (F : Addr → Prop) (ι : List Addr) (H : Hp) : Sl → V → Prop
  | .emp, _ => False
  | .val d, v => Rp G F ι H d v
  | .own ds, v => ∃ p vs, v = .ref p ∧ H0 p = none ∧ H p = some (.lst vs) ∧ ¬ F p ∧ p ∉ ι ∧ Rps G F ι H ds vs
theorem RpV.step {x : Sl} {v : V} (w : Wld F ι H) (s : Stp F ι H F' ι' H') (r : RpV G H0 F ι H x v) : RpV G H0 F' ι' H' x v := by
  cases x with
  | emp => exact r
  | val d => exact Rp.step w s r
  | own ds =>
    obtain ⟨p, vs, e, h0, h1, nf, ni, rs⟩ := r
    refine ⟨p, vs, e, h0, s.keep _ _ h1 ni, fun z => ?_, fun z => ?_, Rps.step w s rs⟩
    · rcases s.new p z with z | z
      · exact nf z
      · rw [h1] at z; cases z
    · rcases s.mem z with z | z
      · exact ni z
      · rw [h1] at z; cases z
theorem Rel.setV (R : Rel G B ss μ F ι σ H) {i : Nat} {x : Sl} {v : V} (hi : i < ss.length) (hB : ∀ p, H0 p = none → B.H p = none) (hs : ∀ (j : Nat) (es : List D) (a : Addr), ss[j]? = some (.own es) → σ[j]? = some (some (.ref a)) → H0 a ≠ none) (r : RpV G H0 F ι H x v) : Rel G B (ss.set i x) μ F ι (σ.set i (some v)) H := by
  have hi' : i < σ.length := by rw [← R.len]; exact hi
  have gs : ∀ (j : Nat) (y : Sl), (ss.set i x)[j]? = some y → (j = i ∧ y = x) ∨ (j ≠ i ∧ ss[j]? = some y) := fun j y e => by
    by_cases h : i = j
    · subst h
      rw [List.getElem?_set_self hi] at e
      cases e
      exact .inl ⟨rfl, rfl⟩
    · rw [List.getElem?_set_ne h] at e
      exact .inr ⟨fun z => h z.symm, e⟩
  have ownx : ∀ ds, x = .own ds → ∃ p vs, v = .ref p ∧ H0 p = none ∧ H p = some (.lst vs) ∧ ¬ F p ∧ p ∉ ι ∧ Rps G F ι H ds vs := fun ds e => by
    subst e
    exact r
  refine ⟨R.w, R.m, R.st, by rw [List.length_set, List.length_set]; exact R.len, fun j y e => ?_, fun j ds a e1 e2 => ?_, fun j l ds es a e1 e2 e3 e4 => ?_⟩
  · rcases gs j y e with ⟨rfl, rfl⟩ | ⟨h, e⟩
    · rw [List.getElem?_set_self hi']
      cases y with
      | emp => trivial
      | val d => exact ⟨v, rfl, r⟩
      | own ds =>
        obtain ⟨p, vs, e1, h0, h1, nf, ni, rs⟩ := r
        subst e1
        exact ⟨p, vs, rfl, nf, ni, h1, rs⟩
    · rw [List.getElem?_set_ne (fun z => h z.symm)]; exact R.sl j y e
  · rcases gs j _ e1 with ⟨rfl, z⟩ | ⟨h, e⟩
    · obtain ⟨p, vs, rfl, h0, _⟩ := ownx ds z.symm
      rw [List.getElem?_set_self hi'] at e2
      cases e2
      exact hB _ h0
    · rw [List.getElem?_set_ne (fun z => h z.symm)] at e2; exact R.own j ds a e e2
  · rcases gs j _ e1 with ⟨rfl, z⟩ | ⟨h, e⟩
    · rcases gs l _ e2 with ⟨rfl, z'⟩ | ⟨h', e'⟩
      · rfl
      · obtain ⟨p, vs, rfl, h0, _⟩ := ownx ds z.symm
        rw [List.getElem?_set_self hi'] at e3
        cases e3
        rw [List.getElem?_set_ne (fun z => h' z.symm)] at e4
        exact absurd h0 (hs l es _ e' e4)
    · rcases gs l _ e2 with ⟨rfl, z'⟩ | ⟨h', e'⟩
      · obtain ⟨p, vs, rfl, h0, _⟩ := ownx es z'.symm
        rw [List.getElem?_set_self hi'] at e4
        cases e4
        rw [List.getElem?_set_ne (fun z => h z.symm)] at e3
        exact absurd h0 (hs j ds _ e e3)
      · rw [List.getElem?_set_ne (fun z => h z.symm)] at e3
        rw [List.getElem?_set_ne (fun z => h' z.symm)] at e4
        exact R.sep j l ds es a e e' e3 e4
theorem Rel.ownSome (R : Rel G B ss μ F ι σ H) : ∀ (j : Nat) (es : List D) (a : Addr), ss[j]? = some (.own es) → σ[j]? = some (some (.ref a)) → H a ≠ none := fun j es a e1 e2 => by
  obtain ⟨a', vs, e, _, _, h, _⟩ := R.sl j _ e1
  rw [e2] at e
  cases e
  rw [h]
  simp

/-! ### a list of one's own is written -/
theorem Rel.wrown (R : Rel G B ss μ F ι σ H) {i : Nat} {ds es : List D} {a : Addr} {us : List V} (h1 : ss[i]? = some (.own ds)) (h2 : σ[i]? = some (some (.ref a))) (r : Rps G F ι H es us) :
    Rel G B (ss.set i (.own es)) μ F ι σ (upd H a (.lst us)) ∧ Stv F ι H F ι (upd H a (.lst us)) := by
  obtain ⟨a', vs, e, nf, ni, ha, rs⟩ := R.sl i _ h1
  rw [h2] at e
  cases e
  have sv := stv_upd (u := .lst us) (ι := ι) ha trivial nf
  have hi : i < ss.length := (List.getElem?_eq_some_iff.mp h1).1
  have gs : ∀ (j : Nat) (y : Sl), (ss.set i (.own es))[j]? = some y → (j = i ∧ y = .own es) ∨ (j ≠ i ∧ ss[j]? = some y) := fun j y e => by
    by_cases h : i = j
    · subst h
      rw [List.getElem?_set_self hi] at e
      cases e
      exact .inl ⟨rfl, rfl⟩
    · rw [List.getElem?_set_ne h] at e
      exact .inr ⟨fun z => h z.symm, e⟩
  refine ⟨⟨wld_upd R.w ni, relM_upd R.w R.m ha trivial nf ni, stp_upd R.st (R.own i ds a h1 h2), by rw [List.length_set]; exact R.len, fun j y e => ?_, fun j xs b e1 e2 => ?_, fun j l xs ys b e1 e2 e3 e4 => ?_⟩, sv⟩
  · rcases gs j y e with ⟨rfl, rfl⟩ | ⟨h, e⟩
    · exact ⟨a, us, h2, nf, ni, upd_same, Rps.stepv sv r⟩
    · have q := R.sl j y e
      cases y with
      | emp => trivial
      | val d =>
        obtain ⟨v, q1, q2⟩ := q
        exact ⟨v, q1, Rp.stepv sv q2⟩
      | own xs =>
        obtain ⟨b, ws, q1, q2, q3, q4, q5⟩ := q
        refine ⟨b, ws, q1, q2, q3, ?_, Rps.stepv sv q5⟩
        rw [upd_ne fun z => h (R.sep j i xs ds b e h1 q1 (by rw [z]; exact h2))]
        exact q4
  · rcases gs j _ e1 with ⟨rfl, z⟩ | ⟨h, e⟩
    · exact R.own j ds b h1 e2
    · exact R.own j xs b e e2
  · rcases gs j _ e1 with ⟨rfl, z⟩ | ⟨h, e⟩
    · rcases gs l _ e2 with ⟨rfl, z'⟩ | ⟨h', e'⟩
      · rfl
      · exact R.sep j l ds ys b h1 e' e3 e4
    · rcases gs l _ e2 with ⟨rfl, z'⟩ | ⟨h', e'⟩
      · exact R.sep j l xs ds b e h1 e3 e4
      · exact R.sep j l xs ys b e e' e3 e4

/-! ### frozen, forgotten -/
theorem Rel.kill (R : Rel G B ss μ F ι σ H) (i : Nat) : Rel G B (ss.set i .emp) μ F ι σ H := by
  have gs : ∀ (j : Nat) (y : Sl), (ss.set i .emp)[j]? = some y → y = .emp ∨ (j ≠ i ∧ ss[j]? = some y) := fun j y e => by
    by_cases h : i = j
    · subst h
      rw [List.getElem?_set_self'] at e
      cases q : ss[i]? with
      | none => rw [q] at e; cases e
      | some z => rw [q] at e; cases e; exact .inl rfl
    · rw [List.getElem?_set_ne h] at e
      exact .inr ⟨fun z => h z.symm, e⟩
  refine ⟨R.w, R.m, R.st, by rw [List.length_set]; exact R.len, fun j y e => ?_, fun j ds a e1 e2 => ?_, fun j l ds es a e1 e2 e3 e4 => ?_⟩
  · rcases gs j y e with rfl | ⟨h, e⟩
    · trivial
    · exact R.sl j y e
  · rcases gs j _ e1 with z | ⟨h, e⟩
    · cases z
    · exact R.own j ds a e e2
  · rcases gs j _ e1 with z | ⟨h, e⟩
    · cases z
    · rcases gs l _ e2 with z | ⟨h', e'⟩
      · cases z
      · exact R.sep j l ds es a e e' e3 e4
theorem Rel.frz (R : Rel G B ss μ F ι σ H) {i : Nat} {ds : List D} (h1 : ss[i]? = some (.own ds)) : ∃ F', Rel G B (ss.set i (.val (.lst ds))) μ F' ι σ H ∧ Stv F ι H F' ι H := by
  obtain ⟨a, vs, h2, nf, ni, ha, rs⟩ := R.sl i _ h1
  have hi : i < ss.length := (List.getElem?_eq_some_iff.mp h1).1
  have gs : ∀ (j : Nat) (y : Sl), (ss.set i (.val (.lst ds)))[j]? = some y → (j = i ∧ y = .val (.lst ds)) ∨ (j ≠ i ∧ ss[j]? = some y) := fun j y e => by
    by_cases h : i = j
    · subst h
      rw [List.getElem?_set_self hi] at e
      cases e
      exact .inl ⟨rfl, rfl⟩
    · rw [List.getElem?_set_ne h] at e
      exact .inr ⟨fun z => h z.symm, e⟩
  have up : ∀ b, F b → F b ∨ b = a := fun b h => .inl h
  refine ⟨fun b => F b ∨ b = a, ⟨⟨R.w.nd, R.w.mu, fun b hb z => ?_, fun b z => ?_⟩, R.m.mono up, ⟨fun b h => .inl (R.st.up b h), fun b z => ?_, R.st.pre, R.st.keep, R.st.dom⟩, by rw [List.length_set]; exact R.len, fun j y e => ?_, fun j xs b e1 e2 => ?_, fun j l xs ys b e1 e2 e3 e4 => ?_⟩, ⟨up, fun _ _ h => h, fun _ _ _ h => h, fun _ _ h _ => h⟩⟩
  · rcases z with z | z
    · exact R.w.dis b hb z
    · subst z; exact ni hb
  · rcases z with z | z
    · exact R.w.dom b z
    · subst z; rw [ha]; simp
  · rcases z with z | z
    · exact R.st.new b z
    · subst z; exact .inr (R.own i ds b h1 h2)
  · rcases gs j y e with ⟨rfl, rfl⟩ | ⟨h, e⟩
    · exact ⟨.ref a, h2, .lst (.inr rfl) ha (rs.mono up)⟩
    · have q := R.sl j y e
      cases y with
      | emp => trivial
      | val d =>
        obtain ⟨v, q1, q2⟩ := q
        exact ⟨v, q1, q2.mono up⟩
      | own xs =>
        obtain ⟨b, ws, q1, q2, q3, q4, q5⟩ := q
        refine ⟨b, ws, q1, fun z => ?_, q3, q4, q5.mono up⟩
        rcases z with z | z
        · exact q2 z
        · exact h (R.sep j i xs ds b e h1 q1 (by rw [z]; exact h2))
  · rcases gs j _ e1 with ⟨_, z⟩ | ⟨h, e⟩
    · cases z
    · exact R.own j xs b e e2
  · rcases gs j _ e1 with ⟨_, z⟩ | ⟨h, e⟩
    · cases z
    · rcases gs l _ e2 with ⟨_, z⟩ | ⟨h', e'⟩
      · cases z
      · exact R.sep j l xs ys b e e' e3 e4

theorem nodup_ix {l : List Addr} (nd : l.Nodup) {i j : Nat} {a : Addr} (h1 : l[i]? = some a) (h2 : l[j]? = some a) : i = j := by
  obtain ⟨l1, e1⟩ := List.getElem?_eq_some_iff.mp h1
  obtain ⟨l2, e2⟩ := List.getElem?_eq_some_iff.mp h2
  rcases Nat.lt_trichotomy i j with h | h | h
  · exact absurd (e1.trans e2.symm) (List.pairwise_iff_getElem.mp nd i j l1 l2 h)
  · exact h
  · exact absurd (e2.trans e1.symm) (List.pairwise_iff_getElem.mp nd j i l2 l1 h)

/-! ### the store is written -/
theorem Rel.store (R : Rel G B ss μ F ι σ H) {n : Nat} {a : Addr} {ho u : HO} {ob : Ob} (hn : n < μ.length) (ha : ι[n]? = some a) (hH : H a = some ho) (hm : MutO ho) (hu : MutO u) (r : RpO G F ι H ob u) :
    Rel G B ss (μ.set n ob) F ι σ (upd H a u) ∧ Stv F ι H F ι (upd H a u) := by
  have hai : a ∈ ι := List.mem_of_getElem? ha
  have nf : ¬ F a := R.w.dis a hai
  have sv := stv_upd (u := u) (ι := ι) hH hm nf
  refine ⟨⟨⟨R.w.nd, fun b hb => ?_, R.w.dis, fun b hb => ?_⟩, ⟨by rw [List.length_set]; exact R.m.len, fun j ob' b e1 e2 => ?_⟩, ⟨R.st.up, R.st.new, R.st.pre, fun b q e nb => ?_, fun b h => ?_⟩, R.len, fun j y e => ?_, R.own, R.sep⟩, sv⟩
  · by_cases e : b = a
    · subst e; exact ⟨u, upd_same, hu⟩
    · obtain ⟨q, e1, e2⟩ := R.w.mu b hb
      exact ⟨q, by rw [upd_ne e]; exact e1, e2⟩
  · by_cases e : b = a
    · subst e; rw [upd_same]; simp
    · rw [upd_ne e]; exact R.w.dom b hb
  · by_cases hj : n = j
    · subst hj
      rw [List.getElem?_set_self hn] at e1
      cases e1
      rw [ha] at e2
      cases e2
      exact ⟨u, upd_same, RpO.stepv sv r⟩
    · rw [List.getElem?_set_ne hj] at e1
      obtain ⟨q, q1, q2⟩ := R.m.at_ j ob' b e1 e2
      have hb : b ≠ a := fun z => by
        subst z
        exact hj (nodup_ix R.w.nd ha e2)
      exact ⟨q, by rw [upd_ne hb]; exact q1, RpO.stepv sv q2⟩
  · by_cases e2 : b = a
    · subst e2
      obtain ⟨more, e3, e4⟩ := R.st.pre
      rw [e3] at hai
      rcases List.mem_append.mp hai with z | z
      · exact absurd z nb
      · rw [e4 b z] at e; cases e
    · rw [upd_ne e2]; exact R.st.keep b q e nb
  · by_cases e : b = a
    · subst e; rw [upd_same]; simp
    · rw [upd_ne e]; exact R.st.dom b h
  · have q := R.sl j y e
    cases y with
    | emp => trivial
    | val d =>
      obtain ⟨v, q1, q2⟩ := q
      exact ⟨v, q1, Rp.stepv sv q2⟩
    | own xs =>
      obtain ⟨b, ws, q1, q2, q3, q4, q5⟩ := q
      exact ⟨b, ws, q1, q2, q3, by rw [upd_ne (by rintro rfl; exact q3 hai)]; exact q4, Rps.stepv sv q5⟩
end
end T
end

section
namespace T
open PySem PySem.Spec L2

section
variable {G : Glo} {N : List Str} {sc : Scope} {k : Nat} {W : WX} {X : Cx} {pg : Pg} {cf : CF} {o : Bool} {pos : Pos} {T : Tbl}
variable {F F' F'' F2 : Addr → Prop} {ι ι' ι'' : List Addr} {H H' H'' H0 : Hp} {B : Ent} {ss ss' : Slots} {μ : Store} {σ : St} {D : Ends}

/-! ### readings of statements -/
def rdS (G : Glo) (W : WX) (B : Ent) (F : Addr → Prop) (ι : List Addr) (H : Hp) (D : Ends) : SR → Prop
  | .next ss μ => ∀ σ' F' ι' H', Stv F ι H F' ι' H' → Rel G B ss μ F' ι' σ' H' → D.nx σ' H'
  | .brk ss μ => ∀ σ' F' ι' H', Stv F ι H F' ι' H' → Rel G B ss μ F' ι' σ' H' → D.bk σ' H'
  | .cont ss μ => ∀ σ' F' ι' H', Stv F ι H F' ι' H' → Rel G B ss μ F' ι' σ' H' → D.ct σ' H'
  | .ret d μ => ∀ v F' ι' H', Stp B.F B.ι B.H F' ι' H' → Wld F' ι' H' → RelM G F' μ ι' H' → Rp G F' ι' H' d v → D.rt v H'
  | .exn x ss μ => ∀ cls dd σ' F' ι' H', Rel G B ss μ F' ι' σ' H' → RpX G F' ι' H' x cls dd → W cls dd σ' H'
  | .bad => False
theorem rdS.step (s : Stv F ι H F' ι' H') {r : SR} (h : rdS G W B F ι H D r) : rdS G W B F' ι' H' D r := by
  cases r with
  | next ss μ => exact fun σ' F2 ι2 H2 s2 R => h σ' F2 ι2 H2 (s.trans s2) R
  | brk ss μ => exact fun σ' F2 ι2 H2 s2 R => h σ' F2 ι2 H2 (s.trans s2) R
  | cont ss μ => exact fun σ' F2 ι2 H2 s2 R => h σ' F2 ι2 H2 (s.trans s2) R
  | ret d μ => exact h
  | exn x ss μ => exact h
  | bad => exact h
def tS (G : Glo) (W : WX) (pg : Pg) (cf : CF) (s : IS) : TS := fun D σ H => ∃ B ss μ F ι, Rel G B ss μ F ι σ H ∧ rdS G W B F ι H D (evS pg cf s ss μ)
def tB (G : Glo) (W : WX) (pg : Pg) (cf : CF) (s : IB) : TS := fun D σ H => ∃ B ss μ F ι, Rel G B ss μ F ι σ H ∧ rdS G W B F ι H D (evB pg cf s ss μ)

theorem stX {α : Type} {r : Res α} {f : α → Store → SR} (R : Rel G B ss μ F ι σ H) (h : rdS G W B F ι H D (r.st ss f)) : rdX G W σ F ι H (fun a μ1 F1 ι1 H1 => Stp F ι H F1 ι1 H1 → Rel G B ss μ1 F1 ι1 σ H1 → rdS G W B F1 ι1 H1 D (f a μ1)) r := by
  cases r with
  | ok a μ1 => exact fun F1 ι1 H1 s1 w1 m1 s1' R1 => rdS.step (s1.stv R.w) h
  | exn x μ1 => exact fun cls dd F1 ι1 H1 s1 w1 m1 rx => h cls dd σ F1 ι1 H1 (R.step s1 w1 m1) rx
  | bad => exact h
theorem stE {a : IE} {f : _root_.T.D → Store → SR} {P : VK} (R : Rel G B ss μ F ι σ H) (h : rdS G W B F ι H D ((evE pg cf o a ss μ).st ss f))
    (kk : ∀ d μ1 v F1 ι1 H1, Stp F ι H F1 ι1 H1 → Rel G B ss μ1 F1 ι1 σ H1 → Rq G F1 ι1 H1 o d v → rdS G W B F1 ι1 H1 D (f d μ1) → P v H1) : tE G W pg cf o a σ H P := by
  refine ⟨B, ss, μ, F, ι, R, ?_⟩
  have h := stX R h
  cases e : evE pg cf o a ss μ with
  | ok d μ1 =>
    rw [e] at h
    exact fun v F1 ι1 H1 s w m r => kk d μ1 v F1 ι1 H1 s (R.step s w m) r (h F1 ι1 H1 s w m s (R.step s w m))
  | exn x μ1 => rw [e] at h; exact h
  | bad => rw [e] at h; exact h

/-! ### one name, by a value or a list -/
def tV (G : Glo) (W : WX) (pg : Pg) (cf : CF) (v : IV) : TE := fun σ H Q => ∃ B ss μ F ι, Rel G B ss μ F ι σ H ∧ rdX G W σ F ι H (fun x _ F1 ι1 H1 => ∀ u, RpV G H F1 ι1 H1 x u → Q u H1) (evV pg cf v ss μ)
theorem sv_e {x : Expr} {a : IE} (h : PE X x (tE G W pg cf false a)) : PE X x (tV G W pg cf (.e a)) := by
  refine ⟨fun pins s σ H Q I hq => ?_⟩
  obtain ⟨B, ss, μ, F, ι, R, hq⟩ := hq
  refine h.run pins s σ H Q I ?_
  have hq : rdX G W σ F ι H (fun x _ F1 ι1 H1 => ∀ u, RpV G H F1 ι1 H1 x u → Q u H1) ((evE pg cf false a ss μ).bind fun d μ1 => .ok (.val d) μ1) := hq
  exact seqE R hq fun d μ1 v F1 ι1 H1 _ s1 R1 r1 h1 => h1 F1 ι1 H1 .refl R1.w R1.m v r1.rp
theorem sv_l {x : Expr} {l : IL} (h : PE X x (tL G W pg cf l)) : PE X x (tV G W pg cf (.l l)) := by
  refine ⟨fun pins s σ H Q I hq => ?_⟩
  obtain ⟨B, ss, μ, F, ι, R, hq⟩ := hq
  refine h.run pins s σ H Q I ⟨B, ss, μ, F, ι, R, ?_⟩
  have hq : rdX G W σ F ι H (fun x _ F1 ι1 H1 => ∀ u, RpV G H F1 ι1 H1 x u → Q u H1) ((evL pg cf l ss μ).bind fun d μ1 => .ok (.own d) μ1) := hq
  cases e : evL pg cf l ss μ with
  | ok ds μ1 =>
    rw [e] at hq
    exact fun p vs F1 ι1 H1 s w m h0 h1 h2 h3 h4 => hq F1 ι1 H1 s w m _ ⟨p, vs, rfl, h0, h1, h2, h3, h4⟩
  | exn x μ1 => rw [e] at hq; exact hq
  | bad => rw [e] at hq; exact hq
theorem s_V (fk : Fk T G pg) (hF : ∀ f, FnC T G pg fk cf k f) (g : Gd G N sc k W X) {v : IV} {x : Expr} (h : mV T N sc v x = true) : PE X x (tV G W pg cf v) := by
  cases v with
  | e a => exact sv_e ((sE N pg cf T fk hF a g h).1 false)
  | l l => exact sv_l (sL N pg cf T fk hF l g h).2
theorem stV {a : IV} {f : Sl → Store → SR} {P : VK} (R : Rel G B ss μ F ι σ H) (h : rdS G W B F ι H D ((evV pg cf a ss μ).st ss f))
    (kk : ∀ d μ1 v F1 ι1 H1, Stp F ι H F1 ι1 H1 → Rel G B ss μ1 F1 ι1 σ H1 → RpV G H F1 ι1 H1 d v → rdS G W B F1 ι1 H1 D (f d μ1) → P v H1) : tV G W pg cf a σ H P := by
  refine ⟨B, ss, μ, F, ι, R, ?_⟩
  have h := stX R h
  cases e : evV pg cf a ss μ with
  | ok d μ1 =>
    rw [e] at h
    exact fun F1 ι1 H1 s w m v r => kk d μ1 v F1 ι1 H1 s (R.step s w m) r (h F1 ι1 H1 s w m s (R.step s w m))
  | exn x μ1 => rw [e] at h; exact h
  | bad => rw [e] at h; exact h

/-! ### what a body runs in -/
structure Gs (G : Glo) (N : List Str) (sc : Scope) (k : Nat) (W : WX) (X : Cx) : Prop extends Gd G N sc k W X where
  own : PassesOwn (model X.prog X.w) X.A X.env X.xe
  fn : ∀ x, X.fn x = true
  kind : X.env.scope.kind = .function
  stk : X.stack = X.env :: X.outer
  frm : X.env.frame = some X.env.locals
theorem Gs.can (g : Gs G N sc k W X) {x : Str} (h : loc sc x = true) : Loc X.env.scope x ∧ (X.fn x = true ∨ X.env.scope.names.lookup x = some .local) := by
  refine ⟨?_, .inl (g.fn x)⟩
  rw [g.sc]
  unfold loc at h
  split at h
  · exact .inl (by assumption)
  · exact .inr (by assumption)
  · cases h
theorem Gs.lcl (g : Gs G N sc k W X) {x : Str} (h : _root_.T.lcl sc x = true) : X.env.scope.names.lookup x = some .local := by
  rw [g.sc]
  unfold _root_.T.lcl at h
  split at h
  · assumption
  · cases h
theorem noComp_sw {e : Expr} (h : noComp e = true) {t : Option Expr} {l : Nat} {env : Env} : swapsWith e t l env = pure false := by
  cases e <;> first | rfl | cases h

theorem swapped_none {g v : Expr} (h : swOk g v = true) {env : Env} : swappedStores [g] v env = pure none := by
  unfold swOk at h
  split at h <;> first | rfl | cases h; done | skip
  all_goals (unfold swappedStores; simp only [List.filterMap_cons, List.filterMap_nil, List.length_cons, List.length_nil])
  all_goals (repeat (first | rfl | split))
  all_goals simp_all

theorem lcl_no (g : Gs G N sc k W X) {z : Str} (hz : _root_.T.lcl sc z = false) : (X.env.kindOf z == some .local) = false := by
  show (X.env.scope.names.lookup z == some .local) = false
  rw [g.sc]
  unfold _root_.T.lcl at hz
  split at hz
  · cases hz
  · rename_i hne
    cases q : sc.names.lookup z with
    | none => rfl
    | some w =>
      cases w <;> first | rfl | exact absurd q hne
theorem swapped_none3 (g : Gs G N sc k W X) {tg v : Expr} (h : set3C sc tg v = true) : swappedStores [tg] v X.env = pure none := by
  unfold set3C at h
  split at h
  · rename_i x px y py z pz k1 p1 u v w k2 p2
    have h : (X.env.kindOf x == some .local) = false ∨ (X.env.kindOf y == some .local) = false ∨ (X.env.kindOf z == some .local) = false := by
      rw [Bool.not_eq_true'] at h
      rcases Bool.and_eq_false_iff.mp h with h | h
      · exact .inl (lcl_no g h)
      · rcases Bool.and_eq_false_iff.mp h with h | h
        · exact .inr (.inl (lcl_no g h))
        · exact .inr (.inr (lcl_no g h))
    unfold swappedStores
    rcases h with h | h | h
    all_goals simp only [List.filterMap_cons, List.filterMap_nil, List.length_cons, List.length_nil, h, Bool.false_and]
    all_goals (repeat (first | rfl | split))
    all_goals simp_all
  · cases h
theorem sw_par3 {x y z : Str} {px py pz p1 p2 : Pos} {k1 k2 : Nat} {u v w : Expr} {env : Env} (hu : plainA u = true) (hv : plainA v = true) (hw : plainA w = true) (kx : env.kindOf x = some .local) (ky : env.kindOf y = some .local) (kz : env.kindOf z = some .local) (bk : env.blockKind = .function)
    (l1 : (px.line == py.line) = true) (l2 : (px.line == pz.line) = true) (xy : (x == y) = false) (xz : (x == z) = false) (yz : (y == z) = false) (q3 : ([u, v, w].all (foldedForSure 8)) = false) (q4 : ([u, v, w].all (constantsAlone 8)) = false) : swappedStores [.Tuple [.Name x px, .Name y py, .Name z pz] k1 p1] (.Tuple [u, v, w] k2 p2) env = pure (some [x, y, z]) := by
  have xy' : x ≠ y := by simpa using xy
  have xz' : x ≠ z := by simpa using xz
  have yz' : y ≠ z := by simpa using yz
  have nd : ([x, y, z] : List Str).eraseDups = [x, y, z] := by
    simp [List.eraseDups_cons, xy', xz', yz', Ne.symm xy', Ne.symm xz', Ne.symm yz']
  rw [beq_iff_eq] at l1 l2
  unfold swappedStores
  simp [bk, Expr.pos, kx, ky, kz, ← l1, ← l2, q3, q4, nd]
  intro h
  exfalso
  rcases h with h | h | h
  · cases u <;> first | cases h; done | cases hu
  · cases v <;> first | cases h; done | cases hv
  · cases w <;> first | cases h; done | cases hw
theorem x_set3 (fk : Fk T G pg) (hF : ∀ f, FnC T G pg fk cf k f) (g : Gs G N sc k W X) {t : Tg} {e : IE} {tg v : Expr} (h1 : mTg N (loc sc) t tg = true) (h3 : set3L sc t e tg v = true) (h4 : mE T N sc e v = true) : PS X (.Assign [tg] v pos) (tS G W pg cf (.set t e)) := by
  unfold set3L at h3
  split at h3
  · rename_i x px y py z pz k1 p1 u v w k2 p2
    simp only [Bool.and_eq_true, Bool.not_eq_true'] at h3
    obtain ⟨⟨q1, q2⟩, ⟨lx, ly, lz⟩, ⟨l1, l2⟩, ⟨xy, xz, yz⟩, ⟨pu, pv, pw⟩, f1, f2⟩ := h3
    unfold t3d at q1
    split at q1
    · rename_i i j l
      simp only [Bool.and_eq_true, decide_eq_true_eq] at q1
      obtain ⟨hij, hil, hjl⟩ := q1
      unfold tup3 at q2
      split at q2
      · rename_i a b c
        unfold mTg at h1
        simp only [Bool.and_eq_true] at h1
        obtain ⟨⟨n1, n2⟩, n3⟩ := h1
        unfold mTg at n1 n2 n3
        unfold mE at h4
        simp only [Bool.and_eq_true] at h4
        obtain ⟨pe, el, _⟩ := sEs N pg cf T fk hF _ g.toGd h4.2
        have nm1 := of_decide_eq_true (Bool.and_eq_true_iff.mp n1).1
        have nm2 := of_decide_eq_true (Bool.and_eq_true_iff.mp n2).1
        have nm3 := of_decide_eq_true (Bool.and_eq_true_iff.mp n3).1
        have kx := g.lcl lx
        have ky := g.lcl ly
        have kz := g.lcl lz
        have hw := sw_par3 (p1 := p1) (p2 := p2) (k1 := k1) (k2 := k2) pu pv pw (show X.env.kindOf x = some .local from kx) (show X.env.kindOf y = some .local from ky) (show X.env.kindOf z = some .local from kz) (by unfold Env.blockKind; rw [g.kind]; rfl) l1 l2 xy xz yz f1 f2
        refine ⟨fun pins s σ H D I h => ?_⟩
        obtain ⟨B, ss, μ, F, ι, R, h⟩ := h
        have h9 := ps_par3 (pos := pos) (pt := p1) (pt2 := p2) (kt := k1) (k2 := k2) (px := px) (py := py) (pz := pz) (i := i) (j := j) (l := l) g.calm g.nd (by rw [g.N]; exact nm1) (by rw [g.N]; exact nm2) (by rw [g.N]; exact nm3) hij hil hjl kx ky kz (pe false) hw
        refine h9.run pins s σ H D I ?_
        unfold evS at h
        have h := stX R h
        have h : rdX G W σ F ι H (fun d μ1 F1 ι1 H1 => Stp F ι H F1 ι1 H1 → Rel G B ss μ1 F1 ι1 σ H1 → rdS G W B F1 ι1 H1 D (SR.ofS (bindT (.t3 (.v i) (.v j) (.v l)) d ss) μ1)) ((evEs pg cf false (.cons a (.cons b (.cons c .nil))) ss μ).bind fun ds μ1 => .ok (.tup ds) μ1) := h
        refine seqEs R h fun ds μ1 vs F1 ι1 H1 e1 s1 R1 r1 h2 => ?_
        have hl : ds.length = 3 := evEs_len e1
        match ds, hl, vs, r1 with
        | [d1, d2, d3], _, [v1, v2, v3], .cons r1 (.cons r2 (.cons r3 .nil)) =>
          refine ⟨v1, v2, v3, rfl, ?_⟩
          have h2 := h2 F1 ι1 H1 .refl R1.w R1.m s1 R1
          cases eb : bindT (.t3 (.v i) (.v j) (.v l)) (.tup [d1, d2, d3]) ss with
          | none => rw [eb] at h2; exact h2.elim
          | some ss1 =>
            rw [eb] at h2
            have eb : (((bindT (.v i) d1 ss).bind (bindT (.v j) d2)).bind (bindT (.v l) d3)) = some ss1 := eb
            obtain ⟨sb, eb1, eb3⟩ := Option.bind_eq_some_iff.mp eb
            obtain ⟨sa, eb1, eb2⟩ := Option.bind_eq_some_iff.mp eb1
            have bv : ∀ {i : Nat} {d : _root_.T.D} {s s' : Slots}, bindT (.v i) d s = some s' → i < s.length ∧ s' = s.set i (.val d) := fun {i d s s'} h => by
              have h : (if i < s.length then some (s.set i (.val d)) else none) = some s' := h
              split at h
              · cases h; exact ⟨by assumption, rfl⟩
              · cases h
            obtain ⟨c1, rfl⟩ := bv eb1
            obtain ⟨c2, rfl⟩ := bv eb2
            obtain ⟨c3, rfl⟩ := bv eb3
            have Ra := R1.setV (x := .val d1) c1 (fun p hp => R.st.none hp) R.ownSome r1.rp
            have ow : ∀ {ss : Slots} {σ : St} {i : Nat} {d : _root_.T.D} {v : V}, (∀ (j : Nat) (es : List _root_.T.D) (a : Addr), ss[j]? = some (.own es) → σ[j]? = some (some (.ref a)) → H a ≠ none) → (∀ (j : Nat) (es : List _root_.T.D) (a : Addr), (ss.set i (.val d))[j]? = some (.own es) → (σ.set i (some v))[j]? = some (some (.ref a)) → H a ≠ none) := fun {ss σ i d v} h j es a e1 e2 => by
              by_cases hj : i = j
              · subst hj
                by_cases hb : i < ss.length
                · rw [List.getElem?_set_self hb] at e1; cases e1
                · rw [List.getElem?_eq_none (by simpa using Nat.le_of_not_lt hb)] at e1; cases e1
              · rw [List.getElem?_set_ne hj] at e1 e2
                exact h j es a e1 e2
            have Rb := Ra.setV (x := .val d2) c2 (fun p hp => R.st.none hp) (ow R.ownSome) r2.rp
            have Rc := Rb.setV (x := .val d3) c3 (fun p hp => R.st.none hp) (ow (ow R.ownSome)) r3.rp
            exact h2 _ F1 ι1 H1 .refl Rc
      · cases q2
    · cases q1
  · cases h3
theorem x_set (fk : Fk T G pg) (hF : ∀ f, FnC T G pg fk cf k f) (g : Gs G N sc k W X) {t : Tg} {e : IE} {tg v : Expr} (h1 : mTg N (loc sc) t tg = true) (h2 : noComp v = true) (h3 : (swOk tg v || (set3C sc tg v || set3L sc t e tg v)) = true) (h4 : mE T N sc e v = true) : PS X (.Assign [tg] v pos) (tS G W pg cf (.set t e)) := by
  have main : swappedStores [tg] v X.env = pure none → PS X (.Assign [tg] v pos) (tS G W pg cf (.set t e)) := fun h3 => by
    refine ⟨fun pins s σ H D I h => ?_⟩
    obtain ⟨B, ss, μ, F, ι, R, h⟩ := h
    refine (ps_asg ((sE N pg cf T fk hF e g.toGd h4).1 false) (s_tg g.toGd (fun x hx => g.can hx) t tg h1 (vs := t.slots) fun i hi => hi) (by exact noComp_sw h2) h3 (by rw [assignEach_cons (mTg_plain h1)]; rfl)).run pins s σ H D I ?_
    unfold evS at h
    refine stE R h fun d μ1 v F1 ι1 H1 s1 R1 r1 h2 => ?_
    cases eb : bindT t d ss with
    | none => rw [eb] at h2; exact h2.elim
    | some ss1 =>
      rw [eb] at h2
      exact ⟨B, ss, μ1, F1, ι1, d, ss1, R1, r1.rp, eb, fun σ' R' _ => h2 σ' F1 ι1 H1 .refl R'⟩
  rcases Bool.or_eq_true_iff.mp h3 with h3 | h3
  · exact main (swapped_none h3)
  · rcases Bool.or_eq_true_iff.mp h3 with h3 | h3
    · exact main (swapped_none3 g h3)
    · exact x_set3 fk hF g h1 h3 h4

theorem Rel.ix (R : Rel G B ss μ F ι σ H) {i : Nat} (h : i < ss.length) : i < σ.length := by rw [← R.len]; exact h
/-- name = a list -/
theorem own_fin {ds : List _root_.T.D} {μ1 : Store} {i : Nat} (R : Rel G B ss μ F ι σ H) {F1 : Addr → Prop} {ι1 : List Addr} {H1 : Hp} (s1 : Stp F ι H F1 ι1 H1) (R1 : Rel G B ss μ1 F1 ι1 σ H1) {p : Addr} {vs : List V} (h0 : H p = none) (h1 : H1 p = some (.lst vs)) (h2 : ¬ F1 p) (h3 : p ∉ ι1) (h4 : Rps G F1 ι1 H1 ds vs)
    (h : rdS G W B F1 ι1 H1 D (if i < ss.length then .next (ss.set i (.own ds)) μ1 else .bad)) : D.nx (σ.set i (some (.ref p))) H1 := by
  split at h
  · exact h _ F1 ι1 H1 .refl (R1.setV (H0 := H) (x := .own ds) (by assumption) (fun p hp => R.st.none hp) R.ownSome ⟨p, vs, rfl, h0, h1, h2, h3, h4⟩)
  · exact h.elim
theorem own_rd {i : Nat} {l : IL} (R : Rel G B ss μ F ι σ H) (h : rdS G W B F ι H D ((evL pg cf l ss μ).st ss fun ds μ1 => if i < ss.length then .next (ss.set i (.own ds)) μ1 else .bad)) : tL G W pg cf l σ H fun x H1 => gName i x σ H1 D.nx := by
  refine ⟨B, ss, μ, F, ι, R, ?_⟩
  have h := stX R h
  cases e : evL pg cf l ss μ with
  | ok ds μ1 =>
    rw [e] at h
    exact fun p vs F1 ι1 H1 s w m h0 h1 h2 h3 h4 => own_fin R s (R.step s w m) h0 h1 h2 h3 h4 (h F1 ι1 H1 s w m s (R.step s w m))
  | exn x μ1 => rw [e] at h; exact h
  | bad => rw [e] at h; exact h
theorem mL_comp {eI : IE} {tg : Tg} {it : IT} {cs : IEs} {elt : Expr} {gs : List Comprehension} {scope : Scope} {p : Pos} (h : mL T N sc (.comp eI tg it cs) (.ListComp elt gs scope p) = true) :
    ∃ t i ifs, gs = [⟨t, i, ifs, 0⟩] ∧ blkC N sc scope (tg.slots.map fun j => (N.getD j "", j)) = true ∧ mTg N (loc scope) tg t = true ∧ noSetE i = true ∧ itTgt it t = true ∧ mIt T N sc it i = true ∧ ifs.length ≤ 1 ∧ mEs T N (relS scope sc) cs ifs = true ∧ mE T N (relS scope sc) eI elt = true := by
  unfold mL at h
  split at h
  · rename_i heq
    cases heq
    simp only [Bool.and_eq_true, decide_eq_true_eq] at h
    obtain ⟨⟨⟨⟨e1, e2⟩, ⟨e3, e4⟩, e5⟩, e6⟩, e7, e8⟩ := h
    exact ⟨_, _, _, rfl, e1, e2, e3, e4, e5, e6, e7, e8⟩
  · cases h
theorem x_own (fk : Fk T G pg) (hF : ∀ f, FnC T G pg fk cf k f) (g : Gs G N sc k W X) {i : Nat} {l : IL} {x : Str} {p : Pos} {v : Expr} (h1 : N[i]? = some x) (h2 : loc sc x = true) (h3 : mOwnE sc x p v = true) (h4 : mL T N sc l v = true) : PS X (.Assign [.Name x p] v pos) (tS G W pg cf (.own i l)) := by
  refine ⟨fun pins s σ H D I h => ?_⟩
  obtain ⟨B, ss, μ, F, ι, R, h⟩ := h
  unfold evS at h
  have q := own_rd R h
  have hN : X.N[i]? = some x := by rw [g.N]; exact h1
  obtain ⟨c1, c2⟩ := g.can h2
  by_cases hc : noComp v = true
  · have h9 : PS X (.Assign [.Name x p] v pos) (tAsg (tL G W pg cf l) (gName i)) := ps_asg ((sL N pg cf T fk hF l g.toGd h4).2) (pg_name g.nd hN c1 c2) (by show swapsWith v (some (.Name x p)) pos.line X.env = pure false; exact noComp_sw hc) (by cases v <;> rfl) rfl
    exact h9.run pins s σ H D I q
  · cases v with
    | ListComp elt gs scope cpos =>
      unfold mOwnE at h3
      rcases Bool.or_eq_true_iff.mp h3 with h3 | h3
      · rw [Bool.not_eq_true'] at h3
        have hk := lcl_no g h3
        have h9 : PS X (.Assign [.Name x p] (.ListComp elt gs scope cpos) pos) (tAsg (tL G W pg cf l) (gName i)) := ps_asg ((sL N pg cf T fk hF l g.toGd h4).2) (pg_name g.nd hN c1 c2) (by
          show swapsWith (.ListComp elt gs scope cpos) (some (.Name x p)) pos.line X.env = pure false
          unfold swapsWith
          simp [hk]) rfl rfl
        exact h9.run pins s σ H D I q
      simp only [Bool.and_eq_true, Bool.not_eq_true'] at h3
      obtain ⟨⟨k1, k2⟩, k3⟩ := h3
      cases l with
      | comp eI tg it cs =>
        obtain ⟨tgE, iter, ifs, rfl, e1, e2, e3, e4, e5, e6, e7, e8⟩ := mL_comp h4
        have h9 : PS X (.Assign [.Name x p] (.ListComp elt [⟨tgE, iter, ifs, 0⟩] scope cpos) pos) (tAsg (tLc (tI G W pg cf true Stp it) (gT G tg tg.slots) (tTs G WF pg cf cs) (tE G WF pg cf false eI) ((tg.slots.map fun j => (N.getD j "", j)).map (·.2))) (gName i)) :=
          ps_setLc g.calm g.nd hN (g.lcl k1) (sw_true g.kind (g.lcl k1) k2 k3) (sIt N pg cf T fk hF it stab_stp (fun _ _ _ => .refl) g.toGd e4 e5) (own := tg.slots.map fun j => (N.getD j "", j)) (by rw [g.N, g.sc]; exact blkOk_by e1)
            (fun s H C cl fp => s_tg (g.toGd.blk s H scope C cl fp) (fun x hx => loc_blk g.toGd hx) tg _ e2 (vs := tg.slots) fun i hi => hi)
            (fun s H C cl fp => (sEs N pg cf T fk hF cs (g.toGd.blk s H scope C cl fp) e7).2.2.2.2.1 e6)
            (fun s H C cl fp => (sE N pg cf T fk hF eI (g.toGd.blk s H scope C cl fp) e8).1 false) (fun x => by cases iter <;> first | rfl | cases e3)
        refine h9.run pins s σ H D I ?_
        have hown : (tg.slots.map fun j => (N.getD j "", j)).map (·.2) = tg.slots := by
          rw [List.map_map]
          exact List.map_id _
        rw [hown]
        exact comp_rd g.toGd q
      | disp _ => unfold mL at h4; cases h4
      | cat _ _ => unfold mL at h4; cases h4
      | rep _ _ => unfold mL at h4; cases h4
      | slc _ _ _ => unfold mL at h4; cases h4
      | rev _ => unfold mL at h4; cases h4
      | listOf _ => unfold mL at h4; cases h4
      | sortset _ => unfold mL at h4; cases h4
      | listRg _ => unfold mL at h4; cases h4
      | dispS _ _ => unfold mL at h4; cases h4
      | sorti _ => unfold mL at h4; cases h4
      | sortp _ => unfold mL at h4; cases h4
    | SetComp _ _ _ _ => cases h3
    | DictComp _ _ _ _ _ => cases h3
    | _ => exact absurd rfl hc
end
end T
end

section
namespace T
open PySem PySem.Spec L2

section
variable {G : Glo} {N : List Str} {sc : Scope} {k : Nat} {W : WX} {X : Cx} {pg : Pg} {cf : CF} {o : Bool} {pos : Pos} {T : Tbl}
variable {F F' F'' F2 : Addr → Prop} {ι ι' ι'' : List Addr} {H H' H'' H0 : Hp} {B : Ent} {ss ss' : Slots} {μ : Store} {σ : St} {D : Ends}

/-! ### x, y = a, b -/
theorem sw_par {x y : Str} {px py p1 p2 : Pos} {k1 k2 : Nat} {u v : Expr} {env : Env} (hu : plainA u = true) (hv : plainA v = true) (kx : env.kindOf x = some .local) (ky : env.kindOf y = some .local) (bk : env.blockKind = .function)
    (hp : parOk x y px py [u, v] = true) : swappedStores [.Tuple [.Name x px, .Name y py] k1 p1] (.Tuple [u, v] k2 p2) env = pure (some [x, y]) := by
  unfold parOk at hp
  simp only [Bool.and_eq_true, Bool.not_eq_true', beq_iff_eq] at hp
  obtain ⟨⟨⟨q1, q2⟩, q3⟩, q4⟩ := hp
  have s1 : ∀ e : Expr, plainA e = true → (match e with | .Starred .. => true | _ => false) = false := fun e h => by
    cases e <;> first | rfl | cases h
  have q2' : x ≠ y := by simpa using q2
  have nd : ([x, y] : List Str).eraseDups = [x, y] := by
    simp [List.eraseDups_cons, q2', Ne.symm q2']
  unfold swappedStores
  simp [bk, Expr.pos, kx, ky, q1, q3, q4, nd]
  intro h
  exfalso
  rcases h with h | h
  · cases u <;> first | cases h; done | cases hu
  · cases v <;> first | cases h; done | cases hv
theorem x_par (fk : Fk T G pg) (hF : ∀ f, FnC T G pg fk cf k f) (g : Gs G N sc k W X) {i j : Nat} {a b : IV} {x y : Str} {px py p1 p2 : Pos} {k1 k2 : Nat} {u v : Expr} (h1 : N[i]? = some x) (h2 : N[j]? = some y) (hij : i ≠ j) (hx : lcl sc x = true) (hy : lcl sc y = true) (hp : parOk x y px py [u, v] = true)
    (hu : plainA u = true) (hv : plainA v = true) (ha : mV T N sc a u = true) (hb : mV T N sc b v = true) : PS X (.Assign [.Tuple [.Name x px, .Name y py] k1 p1] (.Tuple [u, v] k2 p2) pos) (tS G W pg cf (.par i j a b)) := by
  have pa := s_V fk hF g.toGd ha
  have pb := s_V fk hF g.toGd hb
  have lx := g.lcl hx
  have ly := g.lcl hy
  have hw := sw_par (p1 := p1) (p2 := p2) (k1 := k1) (k2 := k2) hu hv (show X.env.kindOf x = some .local from lx) (show X.env.kindOf y = some .local from ly) (by unfold Env.blockKind; rw [g.kind]; rfl) hp
  refine ⟨fun pins s σ H D I h => ?_⟩
  obtain ⟨B, ss, μ, F, ι, R, h⟩ := h
  have h9 : PS X (.Assign [.Tuple [.Name x px, .Name y py] k1 p1] (.Tuple [u, v] k2 p2) pos) (tPar i j (tCons (tV G W pg cf a) (tCons (tV G W pg cf b) tNil))) :=
    ps_par g.calm g.nd (by rw [g.N]; exact h1) (by rw [g.N]; exact h2) hij lx ly (pa_cons pa (pa_cons pb pa_nil (starEach_cons hv)) (starEach_cons hu)) hw
  refine h9.run pins s σ H D I ?_
  unfold evS at h
  refine stV R h fun d μ1 w F1 ι1 H1 s1 R1 r1 h1 => stV R1 h1 fun e μ2 z F2 ι2 H2 s2 R2 r2 h2 => ?_
  refine ⟨w, z, rfl, ?_⟩
  split at h2
  · rename_i hc
    have r0 := r1
    have r1 := r1.step R1.w s2
    have Ra := R2.setV (H0 := H) hc.1 (fun p hp => R.st.none hp) R.ownSome r1
    refine h2 _ F2 ι2 H2 .refl (Ra.setV (H0 := H1) (by rw [List.length_set]; exact hc.2.1) (fun p hp => R1.st.none hp) (fun l es a e1 e2 => ?_) r2)
    by_cases hl : i = l
    · subst hl
      rw [List.getElem?_set_self hc.1] at e1
      have e1 := Option.some.inj e1
      subst e1
      obtain ⟨p, vs, rfl, _, q, _⟩ := r0
      rw [List.getElem?_set_self (by rw [← R2.len]; exact hc.1)] at e2
      cases e2
      rw [q]
      simp
    · rw [List.getElem?_set_ne hl] at e1 e2
      exact R1.ownSome l es a e1 e2
  · exact h2.elim

/-- x, y = a, b, not both of them plain local names: by a tuple -/
theorem sw_parC {x y : Str} {px py p1 p2 : Pos} {k1 k2 : Nat} {u v : Expr} {env : Env} (h : (env.kindOf x == some .local) = false ∨ (env.kindOf y == some .local) = false) : swappedStores [.Tuple [.Name x px, .Name y py] k1 p1] (.Tuple [u, v] k2 p2) env = pure none := by
  unfold swappedStores
  rcases h with h | h
  all_goals simp only [List.filterMap_cons, List.filterMap_nil, List.length_cons, List.length_nil, h, Bool.false_and]
  all_goals (repeat (first | rfl | split))
  all_goals simp_all
theorem x_parC (fk : Fk T G pg) (hF : ∀ f, FnC T G pg fk cf k f) (g : Gs G N sc k W X) {i j : Nat} {a b : IV} {x y : Str} {px py p1 p2 : Pos} {k1 k2 : Nat} {u v : Expr} (h1 : N[i]? = some x) (h2 : N[j]? = some y) (hij : i ≠ j) (hx : loc sc x = true) (hy : loc sc y = true) (hp : (_root_.T.lcl sc x && _root_.T.lcl sc y) = false)
    (hu : plainA u = true) (hv : plainA v = true) (ha : mV T N sc a u = true) (hb : mV T N sc b v = true) : PS X (.Assign [.Tuple [.Name x px, .Name y py] k1 p1] (.Tuple [u, v] k2 p2) pos) (tS G W pg cf (.par i j a b)) := by
  have pa := s_V fk hF g.toGd ha
  have pb := s_V fk hF g.toGd hb
  obtain ⟨cx, fx⟩ := g.can hx
  obtain ⟨cy, fy⟩ := g.can hy
  have lk : ∀ z, _root_.T.lcl sc z = false → (X.env.kindOf z == some .local) = false := fun z hz => by
    show (X.env.scope.names.lookup z == some .local) = false
    rw [g.sc]
    unfold _root_.T.lcl at hz
    split at hz
    · cases hz
    · rename_i hne
      cases q : sc.names.lookup z with
      | none => rfl
      | some w =>
        cases w <;> first | rfl | exact absurd q hne
  have hw := sw_parC (px := px) (py := py) (p1 := p1) (p2 := p2) (k1 := k1) (k2 := k2) (u := u) (v := v) (env := X.env) (x := x) (y := y) (by
    rcases Bool.and_eq_false_iff.mp hp with q | q
    · exact .inl (lk x q)
    · exact .inr (lk y q))
  refine ⟨fun pins s σ H D I h => ?_⟩
  obtain ⟨B, ss, μ, F, ι, R, h⟩ := h
  have h9 : PS X (.Assign [.Tuple [.Name x px, .Name y py] k1 p1] (.Tuple [u, v] k2 p2) pos) (tAsg (tTup (tCons (tV G W pg cf a) (tCons (tV G W pg cf b) tNil))) (gTup X.K 2 (gCons (gName i) (gCons (gName j) gNil)))) :=
    ps_asg (pe_tup (pa_cons pa (pa_cons pb pa_nil (starEach_cons hv)) (starEach_cons hu))) (pg_tup g.calm (pgs_cons (pg_name g.nd (by rw [g.N]; exact h1) cx fx) (pgs_cons (pg_name g.nd (by rw [g.N]; exact h2) cy fy) pgs_nil))) rfl hw
  refine h9.run pins s σ H D I ?_
  unfold evS at h
  refine stV R h fun d μ1 w F1 ι1 H1 s1 R1 r1 h1 => stV R1 h1 fun e μ2 z F2 ι2 H2 s2 R2 r2 h2 => ⟨by simp [sizeLine_eq], fun p hp0 => ⟨p, _, rfl, .inl (.inl upd_same), rfl, w, _, rfl, z, _, rfl, rfl, ?_⟩⟩
  split at h2
  · rename_i hc
    have hex := ext_upd (o := .tup [w, z]) hp0
    have st := Stp.ext R2.w hex
    have R3 := R2.step st (R2.w.ext hex) (R2.m.ext R2.w hex)
    have r0 := r1
    have r1 := (r1.step R1.w s2).step R2.w st
    have r2 := r2.step R2.w st
    have Ra := R3.setV (H0 := H) hc.1 (fun p hp => R.st.none hp) R.ownSome r1
    refine h2 _ F2 ι2 _ (Stp.stv R2.w st) (Ra.setV (H0 := H1) (by rw [List.length_set]; exact hc.2.1) (fun p hp => R1.st.none hp) (fun l es a e1 e2 => ?_) r2)
    by_cases hl : i = l
    · subst hl
      rw [List.getElem?_set_self hc.1] at e1
      have e1 := Option.some.inj e1
      subst e1
      obtain ⟨p, vs, rfl, _, q, _⟩ := r0
      rw [List.getElem?_set_self (by rw [← R2.len]; exact hc.1)] at e2
      cases e2
      rw [q]
      simp
    · rw [List.getElem?_set_ne hl] at e1 e2
      exact R1.ownSome l es a e1 e2
  · exact h2.elim

/-! ### items, attributes -/
theorem ix_set {o i : Expr} {to ti : TE} (hs : noSlice i = true) (ho : PE X o to) (hi : PE X i ti) : PG X (.Subscript o i pos) (gSub to ti rSetL) := pg_sub ho hi set_list (fun v => by cases i <;> first | rfl | cases hs)
theorem Rps.set {ds : List _root_.T.D} {vs : List V} {d : _root_.T.D} {v : V} (r : Rps G F ι H ds vs) (rd : Rp G F ι H d v) : ∀ {ds : List _root_.T.D} {vs : List V} (j : Nat), Rps G F ι H ds vs → Rps G F ι H (ds.set j d) (vs.set j v)
  | _, _, _, .nil => .nil
  | _, _, 0, .cons _ r => .cons rd r
  | _, _, j + 1, .cons h r => .cons h (Rps.set r rd j r)
theorem Rps.seti {d : _root_.T.D} {v : V} (rd : Rp G F ι H d v) : ∀ {ds : List _root_.T.D} {vs : List V} (j : Nat), Rps G F ι H ds vs → Rps G F ι H (ds.set j d) (vs.set j v)
  | _, _, _, .nil => .nil
  | _, _, 0, .cons _ r => .cons rd r
  | _, _, j + 1, .cons h r => .cons h (Rps.seti rd j r)
theorem Rps.erase : ∀ {ds : List _root_.T.D} {vs : List V} (j : Nat), Rps G F ι H ds vs → Rps G F ι H (ds.eraseIdx j) (vs.eraseIdx j)
  | _, _, _, .nil => by simp; exact .nil
  | _, _, 0, .cons _ r => r
  | _, _, j + 1, .cons h r => .cons h (Rps.erase j r)

theorem x_setixS (fk : Fk T G pg) (hF : ∀ f, FnC T G pg fk cf k f) (g : Gs G N sc k W X) {a kk e : IE} {ob ix v : Expr} {p : Pos} (h0s : noSlice ix = true) (h1 : noComp v = true) (he : mE T N sc e v = true) (ha : mE T N sc a ob = true) (hk : mE T N sc kk ix = true) :
    PS X (.Assign [.Subscript ob ix p] v pos) (tS G W pg cf (.setixS a kk e)) := by
  refine ⟨fun pins s σ H D I h => ?_⟩
  obtain ⟨B, ss, μ, F, ι, R, h⟩ := h
  have h9 : PS X (.Assign [.Subscript ob ix p] v pos) (tAsg (tE G W pg cf false e) (gSub (tE G W pg cf false a) (tE G W pg cf false kk) rSetL)) :=
    ps_asg ((sE N pg cf T fk hF e g.toGd he).1 false) (ix_set h0s ((sE N pg cf T fk hF a g.toGd ha).1 false) ((sE N pg cf T fk hF kk g.toGd hk).1 false)) (by show swapsWith v (some (.Subscript ob ix p)) pos.line X.env = pure false; exact noComp_sw h1) (by cases v <;> rfl) rfl
  refine h9.run pins s σ H D I ?_
  unfold evS at h
  refine stE R h fun d μ1 w F1 ι1 H1 s1 R1 r1 h1 => stE R1 h1 fun ov μ2 z F2 ι2 H2 s2 R2 r2 h2 => stE R2 h2 fun iv μ3 u F3 ι3 H3 s3 R3 r3 h3 => ?_
  have r1 := (Rq.step R2.w s3 (Rq.step R1.w s2 r1)).rp
  have r2 := (Rq.step R2.w s3 r2).rp
  cases ov with
  | ref n =>
    cases iv with
    | int j =>
      have := r3.int_inv
      subst this
      simp only at h3
      cases q : μ3[n]? with
      | none => rw [q] at h3; exact h3.elim
      | some obj =>
        rw [q] at h3
        cases obj with
        | lst ds =>
          simp only at h3
          cases q2 : setIx ds j d with
          | none => rw [q2] at h3; exact h3.elim
          | some es =>
            rw [q2] at h3
            cases r2 with
            | @ref _ a hr =>
              obtain ⟨ho, e1, ro⟩ := R3.m.at_ n _ _ q hr
              cases ro with
              | lst rs =>
                rename_i vs
                unfold setIx at q2
                obtain ⟨jj, q3, q4⟩ := Option.map_eq_some_iff.mp q2
                subst q4
                obtain ⟨R4, sv⟩ := R3.store (u := .lst (vs.set jj w)) (ob := .lst (ds.set jj d)) (List.getElem?_eq_some_iff.mp q).1 hr e1 trivial trivial (.lst (Rps.seti r1 jj rs))
                exact ⟨a, vs, j, jj, rfl, rfl, e1, by rw [← rs.length]; exact q3, h3 σ F3 ι3 _ sv R4⟩
        | _ => exact h3.elim
    | _ => exact h3.elim
  | _ => exact h3.elim

/-- reading a name that is a list of one's own -/
theorem pv_name (g : Gs G N sc k W X) {i : Nat} {x : Str} {p : Pos} (h1 : N[i]? = some x) (h2 : vis sc x = true) (h3 : okName x = true) : PE X (.Name x p) (tVar i) := pe_var (by rw [g.N]; exact h1) (g.toGd.vis h2) (okN1 h3) (okN2 h3)
theorem x_setix (fk : Fk T G pg) (hF : ∀ f, FnC T G pg fk cf k f) (g : Gs G N sc k W X) {i : Nat} {kk e : IE} {x : Str} {ix v : Expr} {p p2 : Pos} (h0 : N[i]? = some x) (h2 : vis sc x = true) (h3 : okName x = true) (h0s : noSlice ix = true) (h1 : noComp v = true) (he : mE T N sc e v = true) (hk : mE T N sc kk ix = true) :
    PS X (.Assign [.Subscript (.Name x p2) ix p] v pos) (tS G W pg cf (.setix i kk e)) := by
  refine ⟨fun pins s σ H D I h => ?_⟩
  obtain ⟨B, ss, μ, F, ι, R, h⟩ := h
  have h9 : PS X (.Assign [.Subscript (.Name x p2) ix p] v pos) (tAsg (tE G W pg cf false e) (gSub (tVar i) (tE G W pg cf false kk) rSetL)) :=
    ps_asg ((sE N pg cf T fk hF e g.toGd he).1 false) (ix_set h0s (pv_name g h0 h2 h3) ((sE N pg cf T fk hF kk g.toGd hk).1 false)) (by show swapsWith v (some (.Subscript (.Name x p2) ix p)) pos.line X.env = pure false; exact noComp_sw h1) (by cases v <;> rfl) rfl
  refine h9.run pins s σ H D I ?_
  unfold evS at h
  split at h
  · rename_i ds hds
    obtain ⟨a, vs, e2, nf, ni, e3, rs⟩ := R.sl i _ hds
    refine stE R h fun d μ1 w F1 ι1 H1 s1 R1 r1 h1 => ⟨.ref a, e2, stE R1 h1 fun iv μ2 z F2 ι2 H2 s2 R2 r2 h2 => ?_⟩
    have r1 := (Rq.step R1.w s2 r1).rp
    cases iv with
    | int j =>
      have := r2.int_inv
      subst this
      simp only at h2
      cases q2 : setIx ds j d with
      | none => rw [q2] at h2; exact h2.elim
      | some es =>
        rw [q2] at h2
        unfold setIx at q2
        obtain ⟨jj, q3, q4⟩ := Option.map_eq_some_iff.mp q2
        subst q4
        have s02 := s1.trans s2
        have rs2 := Rps.step R.w s02 rs
        obtain ⟨R4, sv⟩ := R2.wrown hds e2 (Rps.seti r1 jj rs2)
        exact ⟨a, vs, j, jj, rfl, rfl, s02.keep _ _ e3 ni, by rw [← rs.length]; exact q3, h2 σ F2 ι2 _ sv R4⟩
    | _ => exact h2.elim
  · exact h.elim

/-! ### self.f = v -/
theorem putF_put (fk : Fk T G pg) {f : Nat} (hf : G.va f = true) {d : _root_.T.D} {v : V} (rd : Rp G F ι H d v) : ∀ {as : List Nat} {ds : List _root_.T.D} {vs : List V}, as.length = vs.length → (∀ a ∈ as, G.va a = true) → Rps G F ι H ds vs →
    ∃ vs', putF (T.att f) v ((as.map G.at_).zip vs) = (((putAt f d as ds).1).map G.at_).zip vs' ∧ ((putAt f d as ds).1).length = vs'.length ∧ (∀ a ∈ (putAt f d as ds).1, G.va a = true) ∧ Rps G F ι H (putAt f d as ds).2 vs'
  | [], [], _, _, _, .nil => ⟨[v], by simp [putF, putAt, fk.att], rfl, by simp [putAt, hf], .cons rd .nil⟩
  | [], _ :: _, _, hl, _, .cons _ _ => nomatch hl
  | _ :: _, [], _, hl, _, .nil => nomatch hl
  | a :: as, e :: ds, w :: vs, hl, hv, .cons h r => by
    by_cases ea : a = f
    · subst ea
      refine ⟨v :: vs, ?_, ?_, ?_, ?_⟩
      · simp [putF, putAt, fk.att]
      · simpa [putAt] using hl
      · simpa [putAt] using hv
      · rw [show putAt a d (a :: as) (e :: ds) = (a :: as, d :: ds) from by simp [putAt]]
        exact .cons rd r
    · obtain ⟨vs', q1, q2, q3, q4⟩ := putF_put fk hf rd (by simpa using hl) (fun b hb => hv b (List.mem_cons_of_mem _ hb)) r
      have hne : G.at_ a ≠ T.att f := by
        rw [fk.att]
        exact fun z => ea (fk.inj a f (hv a List.mem_cons_self) hf z)
      have e0 : putAt f d (a :: as) (e :: ds) = (a :: (putAt f d as ds).1, e :: (putAt f d as ds).2) := by simp [putAt, ea]
      rw [e0]
      refine ⟨w :: vs', ?_, by simp [q2], fun b hb => ?_, .cons h q4⟩
      · simp only [List.map_cons, List.zip_cons_cons, putF, if_neg hne, q1]
      · rcases List.mem_cons.mp hb with rfl | hb
        · exact hv _ List.mem_cons_self
        · exact q3 b hb
theorem x_setfld (fk : Fk T G pg) (hF : ∀ f, FnC T G pg fk cf k f) (g : Gs G N sc k W X) {a e : IE} {f : Nat} {ob v : Expr} {p : Pos} (hf : T.va f = true) (h1 : noComp v = true) (he : mE T N sc e v = true) (ha : mE T N sc a ob = true) :
    PS X (.Assign [.Attribute ob (T.att f) p] v pos) (tS G W pg cf (.setfld a f e)) := by
  refine ⟨fun pins s σ H D I h => ?_⟩
  obtain ⟨B, ss, μ, F, ι, R, h⟩ := h
  refine (ps_fld ((sE N pg cf T fk hF a g.toGd ha).1 false) ((sE N pg cf T fk hF e g.toGd he).1 false) (noComp_sw h1)).run pins s σ H D I ?_
  unfold evS at h
  refine stE R h fun d μ1 w F1 ι1 H1 s1 R1 r1 h1 => stE R1 h1 fun ov μ2 z F2 ι2 H2 s2 R2 r2 h2 => ?_
  have r1 := (Rq.step R1.w s2 r1).rp
  have r2 := r2.rp
  cases ov with
  | ref n =>
    simp only at h2
    cases q : μ2[n]? with
    | none => rw [q] at h2; exact h2.elim
    | some obj =>
      rw [q] at h2
      cases obj with
      | ins c as ds =>
        simp only at h2
        split at h2
        · rename_i hlen
          cases r2 with
          | @ref _ aa hr =>
            obtain ⟨ho, e1, ro⟩ := R2.m.at_ n _ _ q hr
            cases ro with
            | ins rs hl hc hv =>
              rename_i vs dx
              have hf' : G.va f = true := by rw [fk.va]; exact hf
              obtain ⟨vs', q1, q2, q3, q4⟩ := putF_put fk hf' r1 hl hv rs
              obtain ⟨R4, sv⟩ := R2.store (u := .ins (G.ca c) dx (putF (T.att f) w ((as.map G.at_).zip vs))) (ob := .ins c (putAt f d as ds).1 (putAt f d as ds).2) (List.getElem?_eq_some_iff.mp q).1 hr e1 trivial trivial (by rw [q1]; exact .ins q4 q2 hc q3)
              exact ⟨aa, G.ca c, dx, _, rfl, e1, by rw [g.K]; exact fk.cls c hc, by rw [g.K]; exact fk.noa c f hc hf', by rw [List.length_zip, List.length_map, ← hl, Nat.min_self]; omega, h2 σ F2 ι2 _ sv R4⟩
        · exact h2.elim
      | _ => exact h2.elim
  | _ => exact h2.elim
end
end T
end

section
namespace T
open PySem PySem.Spec L2

section
variable {G : Glo} {N : List Str} {sc : Scope} {k : Nat} {W : WX} {X : Cx} {pg : Pg} {cf : CF} {o : Bool} {pos : Pos} {T : Tbl}
variable {F F' F'' F2 : Addr → Prop} {ι ι' ι'' : List Addr} {H H' H'' H0 : Hp} {B : Ent} {ss ss' : Slots} {μ : Store} {σ : St} {D : Ends}

theorem few1 {e : Expr} {cp : Pos} {env : Env} (h : plainA e = true) : ((backTo cp (starEach [e] env)).all (fun x => !x.1) && (backToKw cp (keywordEach [] env)).all (fun x => x.1.isSome)
      && decide (([e] : List Expr).length + ([] : List Keyword).length + (if ([] : List Keyword).isEmpty then 0 else 1) < 30)) = true := by
  rw [starEach_cons h]
  rfl
theorem base_name {x m : Str} {p : Pos} {env : Env} : attributeBase (.Name x p) m env (eval (.Name x p) env) = eval (.Name x p) env := base_plain rfl

/-! ### xs.append(e) -/
theorem x_app (fk : Fk T G pg) (hF : ∀ f, FnC T G pg fk cf k f) (g : Gs G N sc k W X) {i : Nat} {e : IE} {x : Str} {v : Expr} {p1 p2 cp : Pos} (h0 : N[i]? = some x) (h1 : vis sc x = true) (h2 : okName x = true) (hl : (p2.endLine == cp.line) = true) (hv : plainA v = true) (he : mE T N sc e v = true) :
    PS X (.Expr (.Call (.Attribute (.Name x p1) "append" p2) [v] [] cp) pos) (tS G W pg cf (.app i e)) := by
  refine ⟨fun pins s σ H D I h => ?_⟩
  obtain ⟨B, ss, μ, F, ι, R, h⟩ := h
  have h9 : PS X (.Expr (.Call (.Attribute (.Name x p1) "append" p2) [v] [] cp) pos) (tDrop (tBM X.K "list" rAppend (tVar i) (tCons (tE G W pg cf false e) tNil))) :=
    ps_expr (pe_bm PySem.F.plainAttrs_list PySem.F.slot_list_append PySem.F.type_list_append mt_append (pv_name g h0 h1 h2) (pa_cons ((sE N pg cf T fk hF e g.toGd he).1 false) pa_nil (starEach_cons hv)) base_name (few1 hv) hl (starEach_cons hv) rfl) rfl
  refine h9.run pins s σ H D I ?_
  unfold evS at h
  split at h
  · rename_i ds hds
    obtain ⟨a, vs, e2, nf, ni, e3, rs⟩ := R.sl i _ hds
    refine ⟨.ref a, e2, .inl ⟨rfl, vs, .inl (.inl e3)⟩, stE R h fun d μ1 w F1 ι1 H1 s1 R1 r1 h1 => ?_⟩
    split at h1
    · rename_i hlen
      obtain ⟨R4, sv⟩ := R1.wrown hds e2 (Rps.snoc (Rps.step R.w s1 rs) r1.rp)
      exact ⟨a, vs, w, rfl, rfl, s1.keep _ _ e3 ni, by rw [← rs.length]; exact hlen, h1 σ F1 ι1 _ sv R4⟩
    · exact h1.elim
  · exact h.elim
/-! ### xs.extend(e) -/
theorem x_ext (fk : Fk T G pg) (hF : ∀ f, FnC T G pg fk cf k f) (g : Gs G N sc k W X) {i : Nat} {e : IE} {x : Str} {v : Expr} {p1 p2 cp : Pos} (h0 : N[i]? = some x) (h1 : vis sc x = true) (h2 : okName x = true) (hl : (p2.endLine == cp.line) = true) (hv : plainA v = true) (he : mE T N sc e v = true) :
    PS X (.Expr (.Call (.Attribute (.Name x p1) "extend" p2) [v] [] cp) pos) (tS G W pg cf (.ext i e)) := by
  refine ⟨fun pins s σ H D I h => ?_⟩
  obtain ⟨B, ss, μ, F, ι, R, h⟩ := h
  have h9 : PS X (.Expr (.Call (.Attribute (.Name x p1) "extend" p2) [v] [] cp) pos) (tDrop (tBM X.K "list" rExtend (tVar i) (tCons (tE G W pg cf false e) tNil))) :=
    ps_expr (pe_bm PySem.F.plainAttrs_list PySem.F.slot_list_extend PySem.F.type_list_extend mt_extend (pv_name g h0 h1 h2) (pa_cons ((sE N pg cf T fk hF e g.toGd he).1 false) pa_nil (starEach_cons hv)) base_name (few1 hv) hl (starEach_cons hv) rfl) rfl
  refine h9.run pins s σ H D I ?_
  unfold evS at h
  split at h
  · rename_i ds hds
    obtain ⟨a, vs, e2, nf, ni, e3, rs⟩ := R.sl i _ hds
    refine ⟨.ref a, e2, .inl ⟨rfl, vs, .inl (.inl e3)⟩, stE R h fun d μ1 w F1 ι1 H1 s1 R1 r1 h1 => ?_⟩
    cases d with
    | lst es =>
      have r1 := r1.rp
      cases r1 with
      | lst f hb rr =>
        simp only at h1
        split at h1
        · rename_i hlen
          obtain ⟨R4, sv⟩ := R1.wrown hds e2 ((Rps.step R.w s1 rs).append rr)
          exact ⟨a, _, vs, _, rfl, rfl, s1.keep _ _ e3 ni, hb, by rw [← rs.length, ← rr.length]; exact hlen, h1 σ F1 ι1 _ sv R4⟩
        · exact h1.elim
    | _ => exact h1.elim
  · exact h.elim
/-! ### xs.append(ys.pop(e)) -/
theorem x_apppop (fk : Fk T G pg) (hF : ∀ f, FnC T G pg fk cf k f) (g : Gs G N sc k W X) {i j : Nat} {e : IE} {x y : Str} {v : Expr} {p1 p2 cp p3 p4 cp2 : Pos} (h0 : N[i]? = some x) (h1 : vis sc x = true) (h2 : okName x = true) (hl : (p2.endLine == cp.line) = true)
    (k0 : N[j]? = some y) (k1 : vis sc y = true) (k2 : okName y = true) (kl : (p4.endLine == cp2.line) = true) (hv : plainA v = true) (he : mE T N sc e v = true) :
    PS X (.Expr (.Call (.Attribute (.Name x p1) "append" p2) [.Call (.Attribute (.Name y p3) "pop" p4) [v] [] cp2] [] cp) pos) (tS G W pg cf (.apppop i j e)) := by
  refine ⟨fun pins s σ H D I h => ?_⟩
  obtain ⟨B, ss, μ, F, ι, R, h⟩ := h
  have hpop : PE X (.Call (.Attribute (.Name y p3) "pop" p4) [v] [] cp2) (tBM X.K "list" rPopAt (tVar j) (tCons (tE G W pg cf false e) tNil)) :=
    pe_bm PySem.F.plainAttrs_list PySem.F.slot_list_pop PySem.F.type_list_pop mt_popAt (pv_name g k0 k1 k2) (pa_cons ((sE N pg cf T fk hF e g.toGd he).1 false) pa_nil (starEach_cons hv)) base_name (few1 hv) kl (starEach_cons hv) rfl
  have h9 : PS X (.Expr (.Call (.Attribute (.Name x p1) "append" p2) [.Call (.Attribute (.Name y p3) "pop" p4) [v] [] cp2] [] cp) pos) (tDrop (tBM X.K "list" rAppend (tVar i) (tCons (tBM X.K "list" rPopAt (tVar j) (tCons (tE G W pg cf false e) tNil)) tNil))) :=
    ps_expr (pe_bm PySem.F.plainAttrs_list PySem.F.slot_list_append PySem.F.type_list_append mt_append (pv_name g h0 h1 h2) (pa_cons hpop pa_nil rfl) base_name (few1 rfl) hl rfl rfl) rfl
  refine h9.run pins s σ H D I ?_
  unfold evS at h
  split at h
  · rename_i ds es hds hes
    obtain ⟨a, vs, e2, nf, ni, e3, rs⟩ := R.sl i _ hds
    obtain ⟨b, us, f2, mf, mi, f3, rt⟩ := R.sl j _ hes
    refine ⟨.ref a, e2, .inl ⟨rfl, vs, .inl (.inl e3)⟩, .ref b, f2, .inl ⟨rfl, us, .inl (.inl f3)⟩, stE R h fun d μ1 w F1 ι1 H1 s1 R1 r1 h1 => ?_⟩
    cases d with
    | int q =>
      have := r1.int_inv
      subst this
      simp only at h1
      cases eq : popIx es q with
      | none => rw [eq] at h1; exact h1.elim
      | some pr =>
        obtain ⟨z, zs⟩ := pr
        rw [eq] at h1
        simp only at h1
        split at h1
        · rename_i hc
          obtain ⟨c1, c2, c3⟩ := hc
          unfold popIx at eq
          obtain ⟨jj, q1, q2⟩ := Option.bind_eq_some_iff.mp eq
          obtain ⟨zz, q3, q4⟩ := Option.map_eq_some_iff.mp q2
          cases q4
          have rt1 := Rps.step R.w s1 rt
          have rs1 := Rps.step R.w s1 rs
          obtain ⟨u, q5, ru⟩ := rt1.get q3
          have hsz := sizeLine_eq
          obtain ⟨n1, n2, n3, n4⟩ := ixN_seq q1
          have hb1 := s1.keep _ _ f3 mi
          have ha1 := s1.keep _ _ e3 ni
          have hab : a ≠ b := fun z => c2 (R.sep i j ds es a hds hes e2 (by rw [z]; exact f2))
          obtain ⟨R2, sv⟩ := R1.wrown hes f2 (Rps.erase jj rt1)
          have hds2 : (ss.set j (.own (es.eraseIdx jj)))[i]? = some (.own ds) := by rw [List.getElem?_set_ne (Ne.symm c2)]; exact hds
          obtain ⟨R3, sv2⟩ := R2.wrown (es := ds ++ [z]) (us := vs ++ [u]) hds2 e2 (Rps.snoc (Rps.stepv sv rs1) (Rp.stepv sv ru))
          refine ⟨b, us, q, jj, u, rfl, rfl, hb1, by omega, by omega, by rw [← rt.length]; exact n1, q5, ?_⟩
          exact ⟨a, vs, u, rfl, rfl, by rw [upd_ne hab]; exact ha1, by rw [← rs.length]; exact c1, h1 σ F1 ι1 _ (sv.trans sv2) R3⟩
        · exact h1.elim
    | _ => exact h1.elim
  · exact h.elim

/-! ### xs.append((y, zs.pop(e))) -/
theorem x_apppopT (fk : Fk T G pg) (hF : ∀ f, FnC T G pg fk cf k f) (g : Gs G N sc k W X) {i j m : Nat} {e : IE} {x y z : Str} {v : Expr} {jj0 : Nat} {p1 p2 cp p3 p4 p5 cp2 tp : Pos} (h0 : N[i]? = some x) (h1 : vis sc x = true) (h2 : okName x = true) (hl : (p2.endLine == cp.line) = true)
    (k0 : N[j]? = some y) (k1 : vis sc y = true) (k2 : okName y = true) (kl : (p4.endLine == cp2.line) = true) (m0 : N[m]? = some z) (m1 : vis sc z = true) (m2 : okName z = true) (hv : plainA v = true) (he : mE T N sc e v = true) :
    PS X (.Expr (.Call (.Attribute (.Name x p1) "append" p2) [.Tuple [.Name z p5, .Call (.Attribute (.Name y p3) "pop" p4) [v] [] cp2] jj0 tp] [] cp) pos) (tS G W pg cf (.apppopT i m j e)) := by
  refine ⟨fun pins s σ H D I h => ?_⟩
  obtain ⟨B, ss, μ, F, ι, R, h⟩ := h
  have hpop : PE X (.Call (.Attribute (.Name y p3) "pop" p4) [v] [] cp2) (tBM X.K "list" rPopAt (tVar j) (tCons (tE G W pg cf false e) tNil)) :=
    pe_bm PySem.F.plainAttrs_list PySem.F.slot_list_pop PySem.F.type_list_pop mt_popAt (pv_name g k0 k1 k2) (pa_cons ((sE N pg cf T fk hF e g.toGd he).1 false) pa_nil (starEach_cons hv)) base_name (few1 hv) kl (starEach_cons hv) rfl
  have htup := pe_tup (x1 := jj0) (pos := tp) (pa_cons (pv_name (p := p5) g m0 m1 m2) (pa_cons hpop pa_nil rfl) rfl)
  have h9 := ps_expr (pos := pos) (pe_bm PySem.F.plainAttrs_list PySem.F.slot_list_append PySem.F.type_list_append mt_append (pv_name (p := p1) g h0 h1 h2) (pa_cons htup pa_nil rfl) base_name (few1 rfl) hl rfl rfl) rfl
  refine h9.run pins s σ H D I ?_
  unfold evS at h
  split at h
  · rename_i ds es dy hds hes hdy
    obtain ⟨a, vs, e2, nf, ni, e3, rs⟩ := R.sl i _ hds
    obtain ⟨b, us, f2, mf, mi, f3, rt⟩ := R.sl j _ hes
    obtain ⟨vy, g2, rv⟩ : ∃ vy, σ[m]? = some (some vy) ∧ Rp G F ι H dy vy := by
      unfold rd at hdy
      split at hdy
      · rename_i d' hd'
        cases hdy
        exact R.sl m _ hd'
      · cases hdy
    refine ⟨.ref a, e2, .inl ⟨rfl, vs, .inl (.inl e3)⟩, vy, g2, .ref b, f2, .inl ⟨rfl, us, .inl (.inl f3)⟩, stE R h fun d μ1 w F1 ι1 H1 s1 R1 r1 h1 => ?_⟩
    cases d with
    | int q =>
      have := r1.int_inv
      subst this
      simp only at h1
      cases eq : popIx es q with
      | none => rw [eq] at h1; exact h1.elim
      | some pr =>
        obtain ⟨z, zs⟩ := pr
        rw [eq] at h1
        simp only at h1
        split at h1
        · rename_i hc
          obtain ⟨c1, c2, c3⟩ := hc
          unfold popIx at eq
          obtain ⟨jj, q1, q2⟩ := Option.bind_eq_some_iff.mp eq
          obtain ⟨zz, q3, q4⟩ := Option.map_eq_some_iff.mp q2
          cases q4
          have rt1 := Rps.step R.w s1 rt
          have rs1 := Rps.step R.w s1 rs
          have rv1 := Rp.step R.w s1 rv
          obtain ⟨u, q5, ru⟩ := rt1.get q3
          have hsz := sizeLine_eq
          obtain ⟨n1, n2, n3, n4⟩ := ixN_seq q1
          have hb1 := s1.keep _ _ f3 mi
          have ha1 := s1.keep _ _ e3 ni
          have hab : a ≠ b := fun z => c2 (R.sep i j ds es a hds hes e2 (by rw [z]; exact f2))
          obtain ⟨R2, sv⟩ := R1.wrown hes f2 (Rps.erase jj rt1)
          have hds2 : (ss.set j (.own (es.eraseIdx jj)))[i]? = some (.own ds) := by rw [List.getElem?_set_ne (Ne.symm c2)]; exact hds
          have rs2 := Rps.stepv sv rs1
          have rv2 := Rp.stepv sv rv1
          have ru2 := Rp.stepv sv ru
          refine ⟨b, us, q, jj, u, rfl, rfl, hb1, by omega, by omega, by rw [← rt.length]; exact n1, q5, by simp [sizeLine_eq], fun p hp => ?_⟩
          have hex := ext_upd (o := .tup [vy, u]) hp
          have R2' := R2.step (Stp.ext R2.w hex) (R2.w.ext hex) (R2.m.ext R2.w hex)
          have ha2 : upd H1 b (.lst (us.eraseIdx jj)) a = some (.lst vs) := by rw [upd_ne hab]; exact ha1
          have hst := Stp.ext R2.w hex
          have rt3 : Rp G F1 ι1 (upd (upd H1 b (.lst (us.eraseIdx jj))) p (.tup [vy, u])) (.tup [dy, z]) (.ref p) := .tup (.inl (.inl upd_same)) (.cons (Rp.step R2.w hst rv2) (.cons (Rp.step R2.w hst ru2) .nil))
          obtain ⟨R3, sv2⟩ := R2'.wrown (es := ds ++ [.tup [dy, z]]) (us := vs ++ [.ref p]) hds2 e2 (Rps.snoc (Rps.step R2.w hst rs2) rt3)
          exact ⟨a, vs, .ref p, rfl, rfl, hex _ _ ha2, by rw [← rs.length]; exact c1, h1 σ F1 ι1 _ (sv.trans ((Stp.stv R2.w hst).trans sv2)) R3⟩
        · exact h1.elim
    | _ => exact h1.elim
  · exact h.elim

/-! ### the plain ones -/
theorem x_expr (fk : Fk T G pg) (hF : ∀ f, FnC T G pg fk cf k f) (g : Gs G N sc k W X) {e : IE} {v : Expr} (h1 : noComp v = true) (he : mE T N sc e v = true) : PS X (.Expr v pos) (tS G W pg cf (.expr e)) := by
  refine ⟨fun pins s σ H D I h => ?_⟩
  obtain ⟨B, ss, μ, F, ι, R, h⟩ := h
  refine (ps_expr ((sE N pg cf T fk hF e g.toGd he).1 false) (noComp_sw h1)).run pins s σ H D I ?_
  unfold evS at h
  exact stE R h fun d μ1 w F1 ι1 H1 s1 R1 r1 h1 => h1 σ F1 ι1 H1 .refl R1
theorem x_ret (fk : Fk T G pg) (hF : ∀ f, FnC T G pg fk cf k f) (g : Gs G N sc k W X) {e : IE} {v : Expr} (he : mE T N sc e v = true) : PS X (.Return (some v) pos) (tS G W pg cf (.ret e)) := by
  refine ⟨fun pins s σ H D I h => ?_⟩
  obtain ⟨B, ss, μ, F, ι, R, h⟩ := h
  refine (ps_ret ((sE N pg cf T fk hF e g.toGd he).1 false)).run pins s σ H D I ?_
  unfold evS at h
  exact stE R h fun d μ1 w F1 ι1 H1 s1 R1 r1 h1 => h1 w F1 ι1 H1 R1.st R1.w R1.m r1.rp
theorem x_retO (g : Gs G N sc k W X) {i : Nat} {x : Str} {p : Pos} (h0 : N[i]? = some x) (h1 : vis sc x = true) (h2 : okName x = true) : PS X (.Return (some (.Name x p)) pos) (tS G W pg cf (.retO i)) := by
  refine ⟨fun pins s σ H D I h => ?_⟩
  obtain ⟨B, ss, μ, F, ι, R, h⟩ := h
  refine (ps_ret (pv_name g h0 h1 h2)).run pins s σ H D I ?_
  unfold evS at h
  split at h
  · rename_i ds hds
    obtain ⟨a, vs, e2, nf, ni, e3, rs⟩ := R.sl i _ hds
    obtain ⟨F', R', sv⟩ := R.frz hds
    have hi := (List.getElem?_eq_some_iff.mp hds).1
    obtain ⟨v, q1, q2⟩ := R'.sl i (.val (.lst ds)) (by rw [List.getElem?_set_self hi])
    exact ⟨v, q1, h v F' ι H R'.st R'.w R'.m q2⟩
  · exact h.elim
theorem x_retN : PS X (.Return none pos) (tS G W pg cf .retN) := by
  refine ⟨fun pins s σ H D I h => ?_⟩
  obtain ⟨B, ss, μ, F, ι, R, h⟩ := h
  exact ps_retN.run pins s σ H D I (h _ F ι H R.st R.w R.m .non)
theorem x_pass : PS X (.Pass pos) (tS G W pg cf .pass) := by
  refine ⟨fun pins s σ H D I h => ?_⟩
  obtain ⟨B, ss, μ, F, ι, R, h⟩ := h
  exact ps_pass.run pins s σ H D I (h _ F ι H .refl R)
theorem x_brk : PS X (.Break pos) (tS G W pg cf .brk) := by
  refine ⟨fun pins s σ H D I h => ?_⟩
  obtain ⟨B, ss, μ, F, ι, R, h⟩ := h
  exact ps_break.run pins s σ H D I (h _ F ι H .refl R)
theorem x_cont : PS X (.Continue pos) (tS G W pg cf .cont) := by
  refine ⟨fun pins s σ H D I h => ?_⟩
  obtain ⟨B, ss, μ, F, ι, R, h⟩ := h
  exact ps_continue.run pins s σ H D I (h _ F ι H .refl R)
theorem x_dead {st : Stmt} : PS X st (tS G W pg cf .dead) := by
  refine ⟨fun pins s σ H D I h => ?_⟩
  obtain ⟨B, ss, μ, F, ι, R, h⟩ := h
  exact h.elim

/-! ### if, for -/
theorem x_if (fk : Fk T G pg) (hF : ∀ f, FnC T G pg fk cf k f) (g : Gs G N sc k W X) {c : IE} {a b : IB} {t : Expr} {p q : List Stmt} (hc : mE T N sc c t = true) (ha : PSs X p (tB G W pg cf a)) (hb : PSs X q (tB G W pg cf b)) : PS X (.If t p q pos) (tS G W pg cf (.iff c a b)) := by
  refine ⟨fun pins s σ H D I h => ?_⟩
  obtain ⟨B, ss, μ, F, ι, R, h⟩ := h
  refine (ps_if (sE N pg cf T fk hF c g.toGd hc).2 ha hb).run pins s σ H D I ⟨B, ss, μ, F, ι, R, ?_⟩
  unfold evS at h
  have h := stX R h
  cases e : (evE pg cf true c ss μ).tst with
  | ok d μ1 =>
    rw [e] at h
    intro F1 ι1 H1 s1 w1 m1
    have R1 := R.step s1 w1 m1
    have h1 := h F1 ι1 H1 s1 w1 m1 s1 R1
    cases d with
    | true =>
      simp only [if_true] at h1 ⊢
      exact ⟨B, ss, μ1, F1, ι1, R1, h1⟩
    | false =>
      simp only [Bool.false_eq_true, if_false] at h1 ⊢
      exact ⟨B, ss, μ1, F1, ι1, R1, h1⟩
  | exn x μ1 => rw [e] at h; exact h
  | bad => rw [e] at h; exact h

theorem rel_grow (R : Rel G B ss μ F ι σ H) (x : ∀ b ob, H b = some ob → H' b = some ob) : Rel G B ss μ F ι σ H' := R.step (Stp.ext R.w x) (R.w.ext x) (R.m.ext R.w x)
theorem x_for (fk : Fk T G pg) (hF : ∀ f, FnC T G pg fk cf k f) (g : Gs G N sc k W X) {t : Tg} {it : IT} {b : IB} {tgE iter : Expr} {p : List Stmt} (h1 : mTg N (loc sc) t tgE = true) (h2 : noSetE iter = true) (h3 : itTgt it tgE = true) (h4 : mIt T N sc it iter = true) (hb : PSs X p (tB G W pg cf b)) :
    PS X (.For tgE iter p [] pos) (tS G W pg cf (.forr t it b)) := by
  refine ⟨fun pins s σ H D I h => ?_⟩
  obtain ⟨B, ss, μ, F, ι, R, h⟩ := h
  have h9 : PS X (.For tgE iter p [] pos) (tFor (tI G W pg cf false Stv it) (gT G t t.slots) (tB G W pg cf b)) :=
    ps_for g.own g.calm (sIt N pg cf T fk hF it stab_stv (fun _ _ _ => .refl) g.toGd h3 h4) (s_tg g.toGd (fun x hx => g.can hx) t tgE h1 (vs := t.slots) fun i hi => hi) hb (fun x => by cases iter <;> first | rfl | cases h2)
  refine h9.run pins s σ H D I ⟨B, ss, μ, F, ι, R, ?_⟩
  unfold evS at h
  have h := stX R h
  cases e : evIt pg cf false it ss μ with
  | exn x μ1 => rw [e] at h; exact h
  | bad => rw [e] at h; exact h
  | ok xs μ1 =>
    rw [e] at h
    intro F1 ι1 H1 s1 w1 m1 J hJ
    have R1 := R.step s1 w1 m1
    have h1 := h F1 ι1 H1 s1 w1 m1 s1 R1
    generalize hturn : (fun (x : _root_.T.D) (σ1 : Slots) (μ2 : Store) => match bindT t x σ1 with | some σ2 => evB pg cf b σ2 μ2 | none => SR.bad) = turn at h1
    refine ⟨fun i m σ2 H2 => m = xs.length - i ∧ i ≤ xs.length ∧ ∃ ss2 μ2 F2 ι2, Rel G B ss2 μ2 F2 ι2 σ2 H2 ∧ Stv F1 ι1 H1 F2 ι2 H2 ∧ rdS G W B F2 ι2 H2 D (forGo turn (xs.drop i) ss2 μ2), ⟨xs.length, by simp, Nat.zero_le _, ss, μ1, F1, ι1, R1, .refl, by rw [List.drop_zero]; exact h1⟩, ?_⟩
    rintro i m σ2 H2 ⟨rfl, hi, ss2, μ2, F2, ι2, R2, sv, h2⟩
    obtain ⟨go, stop⟩ := hJ F2 ι2 H2 sv i
    cases ex : xs[i]? with
    | none =>
      have e : xs.drop i = [] := List.drop_of_length_le (List.getElem?_eq_none_iff.mp ex)
      rw [e] at h2
      exact .inl ⟨stop ex, h2 σ2 F2 ι2 H2 .refl R2⟩
    | some d =>
      obtain ⟨g1, y1⟩ := go d ex
      have hlt : i < xs.length := (List.getElem?_eq_some_iff.mp ex).1
      have e : xs.drop i = d :: xs.drop (i + 1) := by
        rw [List.drop_eq_getElem_cons hlt]
        congr 1
        exact (List.getElem?_eq_some_iff.mp ex).2
      rw [e] at h2
      refine .inr ⟨g1, fun σ3 H3 => ∃ ss3 μ3 F3 ι3, Rel G B ss3 μ3 F3 ι3 σ3 H3 ∧ Stv F1 ι1 H1 F3 ι3 H3 ∧ rdS G W B F3 ι3 H3 D (forGo turn (xs.drop (i + 1)) ss3 μ3), fun σ' H' z => ⟨xs.length - (i + 1), by omega, rfl, hlt, z⟩, fun x H3 yl => ?_⟩
      obtain ⟨x3, _, r3⟩ := y1 x H3 yl
      have r3 := r3 R2.w
      have s3 := (Stp.ext R2.w x3).stv R2.w
      have R3 := rel_grow R2 x3
      have h3 : rdS G W B F2 ι2 H3 D (match turn d ss2 μ2 with
        | .next σ1 μ1 => forGo turn (xs.drop (i + 1)) σ1 μ1
        | .cont σ1 μ1 => forGo turn (xs.drop (i + 1)) σ1 μ1
        | .brk σ1 μ1 => .next σ1 μ1
        | r => r) := rdS.step s3 h2
      have et : turn d ss2 μ2 = match bindT t d ss2 with | some σ2 => evB pg cf b σ2 μ2 | none => SR.bad := by rw [← hturn]
      cases eb : bindT t d ss2 with
      | none =>
        rw [eb] at et
        simp only at et
        rw [et] at h3
        exact h3.elim
      | some ss4 =>
        rw [eb] at et
        simp only at et
        rw [et] at h3
        refine ⟨B, ss2, μ2, F2, ι2, d, ss4, R3, r3, eb, fun σ4 R4 _ => ⟨B, ss4, μ2, F2, ι2, R4, ?_⟩⟩
        cases er : evB pg cf b ss4 μ2 with
        | next ss5 μ5 =>
          rw [er] at h3
          exact fun σ5 F5 ι5 H5 s5 R5 => ⟨ss5, μ5, F5, ι5, R5, (sv.trans s3).trans s5, rdS.step s5 h3⟩
        | cont ss5 μ5 =>
          rw [er] at h3
          exact fun σ5 F5 ι5 H5 s5 R5 => ⟨ss5, μ5, F5, ι5, R5, (sv.trans s3).trans s5, rdS.step s5 h3⟩
        | brk ss5 μ5 =>
          rw [er] at h3
          exact fun σ5 F5 ι5 H5 s5 R5 => h3 σ5 F5 ι5 H5 s5 R5
        | ret d5 μ5 => rw [er] at h3; exact h3
        | exn x5 ss5 μ5 => rw [er] at h3; exact h3
        | bad => rw [er] at h3; exact h3
end
end T
end

section
namespace T
open PySem PySem.Spec L2

section
variable {G : Glo} {N : List Str} {sc : Scope} {k : Nat} {W : WX} {X : Cx} {pg : Pg} {cf : CF} {o : Bool} {pos : Pos} {T : Tbl}
variable {F F' F'' F2 : Addr → Prop} {ι ι' ι'' : List Addr} {H H' H'' H0 : Hp} {B : Ent} {ss ss' : Slots} {μ : Store} {σ : St} {D : Ends}

/-! ### raise C(e) -/
theorem x_rais (fk : Fk T G pg) (hF : ∀ f, FnC T G pg fk cf k f) (g : Gs G N sc k W X) {c : Nat} {e : IE} {x : Str} {v : Expr} {p1 p2 : Pos} (hv : T.xv c = true) (hx : T.xn c = x) (hg : glb sc x = true) (hn : okName x = true) (hp : plainA v = true) (he : mE T N sc e v = true) :
    PS X (.Raise (some (.Call (.Name x p1) [v] [] p2)) none pos) (tS G W pg cf (.rais c e)) := by
  refine ⟨fun pins s σ H D I h => ?_⟩
  obtain ⟨B, ss, μ, F, ι, R, h⟩ := h
  have xc := fk.xcx c hv
  have F1 : FnOk X.prog X.w X.K X.mg X.base (L2.CX X.prog X.w) 0 (fk.xf c) (fk.xfd c) [(fk.xd c).me, (fk.xd c).par] (spX (G.cx c) (fk.xd c).att) := by
    rw [g.P, g.K, g.mg]
    exact init_ok (fk.xok c hv) xc
  have hpass : Passes (L2.CX X.prog X.w) X (fun _ _ _ => False) := fun pins σ H s e s' I q => by
    obtain ⟨_, _, _, _, _, _, _, _, _, _, _, _, z⟩ := q
    exact z.elim
  have bd : Binds X.K (fk.xfd c) [(fk.xd c).me, (fk.xd c).par] [] := Binds.all fun us hl => fk.xbd c hv us hl
  have hr : Room (0 + 1) X.A := g.room.mono (by omega)
  have h9 : PS X (.Raise (some (.Call (.Name x p1) [v] [] p2)) none pos) (fun _ σ H => tMkO (G.cx c) (spX (G.cx c) (fk.xd c).att) [] (tCons (tE G W pg cf false e) tNil) σ H fun cls d H' => W cls d σ H') :=
    ps_raise g.calm g.tk (pmk_oex (by rw [g.K]; exact xc.o) (by rw [g.K]; exact xc.ini) (by rw [g.K]; exact xc.ty) F1 hr bd .nil hpass (g.gl hg) (by rw [g.mg, ← hx]; exact fk.xnm c hv) (pa_cons ((sE N pg cf T fk hF e g.toGd he).1 false) pa_nil (starEach_cons hp)) (okN1 hn) (starEach_cons hp) rfl)
  refine h9.run pins s σ H D I ?_
  unfold evS at h
  refine stE R h fun d μ1 w F1 ι1 H1 s1 R1 r1 h1 => ?_
  refine ⟨by simp, fun a ha => ⟨a, w, rfl, upd_same, fun dx hdx hne => ⟨rfl, dx, [((fk.xd c).att, w)], upd_same, ?_, ?_, ?_⟩⟩⟩
  · rw [upd_ne hne]
    exact upd_same
  · rw [upd_ne hne] at hdx
    exact hdx
  · rw [upd_ne hne] at hdx
    have eH : upd (del (upd (upd (upd H1 a (exo a (G.cx c) none)) dx (exd dx [((fk.xd c).att, w)])) a (exo a (G.cx c) (some dx))) a) dx (.xd [((fk.xd c).att, w)]) = upd H1 dx (.xd [((fk.xd c).att, w)]) := by
      funext b
      by_cases hb : b = dx
      · subst hb
        rw [upd_same, upd_same]
      · rw [upd_ne hb, upd_ne hb]
        by_cases hb2 : b = a
        · subst hb2
          rw [del_same, ha]
        · rw [del_ne hb2, upd_ne hb2, upd_ne hb, upd_ne hb2]
    rw [eH]
    have ex := ext_upd (H := H1) (p := dx) (o := .xd [((fk.xd c).att, w)]) hdx
    have st := Stp.ext R1.w ex
    exact h1 _ _ σ F1 ι1 _ (R1.step st (R1.w.ext ex) (R1.m.ext R1.w ex)) ⟨rfl, by rw [fk.xvv]; exact hv, dx, w, d, rfl, rfl, by rw [fk.xtt, ← fk.xat c hv]; exact upd_same, Rp.step R1.w st r1.rp⟩

/-! ### what an except suite tells -/
/-- the error and what is known of it: c its class's number, nm its name's slot -/
structure SuX (G : Glo) (sl : Option Nat) (c : Nat) (a : Addr) (cls : Value) (d : Option Addr) (σ : St) (H : Hp) (F : Addr → Prop) (ι : List Addr) (x : Exn) : Prop where
  w : Wld F ι H
  rx : RpX G F ι H x cls d
  c : x.c = c
  nm : ∀ i, sl = some i → σ[i]? = some (some (.ref a))
def tHE (G : Glo) (sl : Option Nat) (c : Nat) (h : HE) (a : Addr) (cls : Value) (d : Option Addr) : TE := fun σ H Q => ∃ F ι x dv, SuX G sl c a cls d σ H F ι x ∧ h.ev x.ds = some dv ∧ ∀ v, Rp G F ι H dv v → Q v H
def tHEs (G : Glo) (sl : Option Nat) (c : Nat) (hs : List HE) (a : Addr) (cls : Value) (d : Option Addr) : TA := fun σ H Q => ∃ F ι x dvs, SuX G sl c a cls d σ H F ι x ∧ HE.evs x.ds hs = some dvs ∧ ∀ vs, Rps G F ι H dvs vs → Q vs H
def tHR (G : Glo) (sl : Option Nat) (c : Nat) (h : HR) (a : Addr) (cls : Value) (d : Option Addr) : TE := fun σ H Q => ∃ F ι x dv, SuX G sl c a cls d σ H F ι x ∧ h.ev x.ds = some dv ∧
  ∀ v F' H', Stp F ι H F' ι H' → Wld F' ι H' → (∀ μ, RelM G F μ ι H → RelM G F' μ ι H') → Rp G F' ι H' dv v → Q v H'

theorem he_ev (fk : Fk T G pg) (g : Gs G N sc k W X) {c : Nat} (hv : T.xv c = true) {sl : Option Nat} {nm : Option Str} (hnm : mNm N sc sl nm = true) {h : HE} {e : Expr} (hm : mHE nm (T.xt c) h e = true) {a : Addr} {ob : Obj} {cls : Value} {d : Option Addr} {pn : List (Addr × Obj)} (hz : Zc cls d ob) (hd : ∃ vs, ob.data = .fields vs) :
    PE (X.suite a ((a, ob) :: pn)) e (tHE G sl c h a cls d) := by
  unfold mHE at hm
  split at hm
  · refine ⟨fun pins s σ H Q I h => ?_⟩
    obtain ⟨F, ι, x, dv, _, e, q⟩ := h
    cases e
    exact pe_non.run pins s σ H Q I (q _ .non)
  · rename_i b c' _ _
    have hb : b = c' := by simpa using hm
    subst hb
    refine ⟨fun pins s σ H Q I h => ?_⟩
    obtain ⟨F, ι, x, dv, _, e, q⟩ := h
    cases e
    exact pe_bl.run pins s σ H Q I (q _ (.bl b))
  · rename_i x y _ _
    have hb : x = y := of_decide_eq_true hm
    subst hb
    refine ⟨fun pins s σ H Q I h => ?_⟩
    obtain ⟨F, ι, x, dv, _, e, q⟩ := h
    cases e
    exact pe_str.run pins s σ H Q I (q _ (.str _))
  · rename_i n p1 at_ p2
    simp only [Bool.and_eq_true, decide_eq_true_eq] at hm
    obtain ⟨rfl, rfl, hn⟩ := hm
    cases sl with
    | none => cases hnm
    | some i =>
      unfold mNm at hnm
      simp only [Bool.and_eq_true, decide_eq_true_eq] at hnm
      obtain ⟨hi, hl⟩ := hnm
      have lx := g.lcl hl
      refine ⟨fun pins s σ H Q I h => ?_⟩
      obtain ⟨F, ι, x, dv, su, e, q⟩ := h
      have xc := fk.xcx c hv
      refine (pe_xf (C := G.cx c) (te := tVar i) (by show XfC X.K _; rw [g.K]; exact fk.xrd c hv) (by show PySem.W.findIn X.K _ _ = _; rw [g.K, ← fk.xat c hv]; exact xc.noat) hz hd (pe_var (by show X.N[i]? = _; rw [g.N]; exact hi) (.inl lx) (okN1 hn) (okN2 hn)) rfl).run pins s σ H Q I ?_
      obtain ⟨hc, _, ad, v, dd, e1, e2, e3, e4⟩ := su.rx
      have e : x.ds.head? = some dv := e
      rw [e2] at e
      cases e
      exact ⟨.ref a, su.nm i rfl, rfl, by rw [hc, su.c], ad, _, v, e1, e3, by rw [su.c, fk.xtt]; simp [List.lookup], q v e4⟩
  · cases hm
theorem he_evs (fk : Fk T G pg) (g : Gs G N sc k W X) {c : Nat} (hv : T.xv c = true) {sl : Option Nat} {nm : Option Str} (hnm : mNm N sc sl nm = true) {a : Addr} {ob : Obj} {cls : Value} {d : Option Addr} {pn : List (Addr × Obj)} (hz : Zc cls d ob) (hd : ∃ vs, ob.data = .fields vs) :
    ∀ {hs : List HE} {es : List Expr}, mHEs nm (T.xt c) hs es = true → L2.PA (X.suite a ((a, ob) :: pn)) es (tHEs G sl c hs a cls d)
  | [], [], _ => by
    refine ⟨fun p pins s σ H Q I h => ?_⟩
    obtain ⟨F, ι, x, dv, su, e, q⟩ := h
    cases e
    exact pa_nil.run p pins s σ H Q I (q _ .nil)
  | h :: hs, e :: es, hm => by
    unfold mHEs at hm
    simp only [Bool.and_eq_true] at hm
    obtain ⟨hp, h1, h2⟩ := hm
    refine ⟨fun p pins s σ H Q I hh => ?_⟩
    obtain ⟨F, ι, x, dvs, su, ev, q⟩ := hh
    refine (pa_cons (he_ev fk g hv hnm h1 (pn := pn) hz hd) (he_evs fk g hv hnm hz hd h2) (starEach_cons hp)).run p pins s σ H Q I ?_
    unfold HE.evs at ev
    cases e1 : h.ev x.ds with
    | none => rw [e1] at ev; cases ev
    | some d1 =>
      cases e2 : HE.evs x.ds hs with
      | none => rw [e1, e2] at ev; cases ev
      | some l1 =>
        rw [e1, e2] at ev
        cases ev
        exact ⟨F, ι, x, d1, su, e1, fun v r => ⟨F, ι, x, l1, su, e2, fun vs rs => q _ (.cons r rs)⟩⟩
  | [], _ :: _, hm => by unfold mHEs at hm; cases hm
  | _ :: _, [], hm => by unfold mHEs at hm; cases hm
theorem evs_len {ds : List _root_.T.D} : ∀ {hs : List HE} {l : List _root_.T.D}, HE.evs ds hs = some l → l.length = hs.length
  | [], l, h => by cases h; rfl
  | h :: hs, l, e => by
    unfold HE.evs at e
    cases e1 : h.ev ds with
    | none => rw [e1] at e; cases e
    | some d1 =>
      cases e2 : HE.evs ds hs with
      | none => rw [e1, e2] at e; cases e
      | some l1 =>
        rw [e1, e2] at e
        cases e
        simp [evs_len e2]
theorem mHEs_len {nm : Option Str} {att : Str} : ∀ {hs : List HE} {es : List Expr}, mHEs nm att hs es = true → hs.length = es.length
  | [], [], _ => rfl
  | h :: hs, e :: es, hm => by
    unfold mHEs at hm
    simp only [Bool.and_eq_true] at hm
    simp [mHEs_len hm.2.2]
  | [], _ :: _, hm => by unfold mHEs at hm; cases hm
  | _ :: _, [], hm => by unfold mHEs at hm; cases hm
theorem hr_ev (fk : Fk T G pg) (g : Gs G N sc k W X) {c : Nat} (hv : T.xv c = true) {sl : Option Nat} {nm : Option Str} (hnm : mNm N sc sl nm = true) {h : HR} {e : Expr} (hm : mHR nm (T.xt c) h e = true) {a : Addr} {ob : Obj} {cls : Value} {d : Option Addr} {pn : List (Addr × Obj)} (hz : Zc cls d ob) (hd : ∃ vs, ob.data = .fields vs) :
    PE (X.suite a ((a, ob) :: pn)) e (tHR G sl c h a cls d) := by
  unfold mHR at hm
  split at hm
  · refine ⟨fun pins s σ H Q I h => ?_⟩
    obtain ⟨F, ι, x, dv, su, e, q⟩ := h
    exact (he_ev fk g hv hnm hm (pn := pn) hz hd).run pins s σ H Q I ⟨F, ι, x, dv, su, e, fun v r => q v F H .refl su.w (fun _ m => m) r⟩
  · rename_i hs xs _ _
    simp only [Bool.and_eq_true, decide_eq_true_eq] at hm
    refine ⟨fun pins s σ H Q I h => ?_⟩
    obtain ⟨F, ι, x, dv, su, e, q⟩ := h
    have e : (HE.evs x.ds hs).map _root_.T.D.tup = some dv := e
    cases e1 : HE.evs x.ds hs with
    | none => rw [e1] at e; cases e
    | some l =>
      rw [e1] at e
      cases e
      refine (pe_tup (he_evs fk g hv hnm (pn := pn) hz hd hm.2)).run pins s σ H Q I ⟨F, ι, x, l, su, e1, fun vs rs => ⟨?_, fun p hp => ?_⟩⟩
      · rw [← rs.length, evs_len e1, mHEs_len hm.2, sizeLine_eq]
        omega
      · have ex := ext_upd (H := H) (p := p) (o := .tup vs) hp
        have st := Stp.ext su.w ex
        exact q _ F _ st (su.w.ext ex) (fun _ m => m.ext su.w ex) (.tup (.inl (.inl upd_same)) (Rps.step su.w st rs))
  · rename_i hs xs _
    simp only [Bool.and_eq_true, decide_eq_true_eq] at hm
    refine ⟨fun pins s σ H Q I h => ?_⟩
    obtain ⟨F, ι, x, dv, su, e, q⟩ := h
    have e : (HE.evs x.ds hs).map _root_.T.D.lst = some dv := e
    cases e1 : HE.evs x.ds hs with
    | none => rw [e1] at e; cases e
    | some l =>
      rw [e1] at e
      cases e
      refine (pe_lst (he_evs fk g hv hnm (pn := pn) hz hd hm.2)).run pins s σ H Q I ⟨F, ι, x, l, su, e1, fun vs rs => ⟨?_, fun p hp => ?_⟩⟩
      · rw [← rs.length, evs_len e1, mHEs_len hm.2, sizeLine_eq]
        omega
      · have ex := ext_upd (H := H) (p := p) (o := .lst vs) hp
        have st := Stp.ext su.w ex
        have w1 := su.w.ext ex
        have up : ∀ b, F b → F b ∨ b = p := fun b h => .inl h
        have hpi : p ∉ ι := fun z => by
          obtain ⟨ob, eo, _⟩ := su.w.mu p z
          rw [hp] at eo
          cases eo
        refine q _ (fun b => F b ∨ b = p) _ ⟨up, fun b z => ?_, st.pre, st.keep, st.dom⟩ ⟨w1.nd, w1.mu, fun b hb z => ?_, fun b z => ?_⟩ (fun _ m => (m.ext su.w ex).mono up) (.lst (.inr rfl) upd_same ((Rps.step su.w st rs).mono up))
        · rcases z with z | z
          · exact .inl z
          · subst z; exact .inr hp
        · rcases z with z | z
          · exact w1.dis b hb z
          · subst z; exact hpi hb
        · rcases z with z | z
          · exact w1.dom b z
          · subst z; rw [upd_same]; simp
  · cases hm

/-! ### try -/
def tSu (G : Glo) (h : Hd) (a : Addr) (cls : Value) (d : Option Addr) : TS := fun D σ H => tHR G h.sl h.c h.r a cls d σ H D.rt
def clOf (G : Glo) (h : Hd) : Cl := ⟨.ref (G.cx h.c), h.sl, tSu G h⟩
theorem hd_ok (fk : Fk T G pg) (g : Gs G N sc k W X) {hs : List Hd} : ∀ {xs : List ExceptHandler}, mHds T N sc hs xs = true → ClOk X xs (hs.map (clOf G)) := by
  induction hs with
  | nil =>
    intro xs hm
    cases xs with
    | nil => exact .nil
    | cons _ _ => unfold mHds at hm; cases hm
  | cons h hs ih =>
    intro xs hm
    cases xs with
    | nil => unfold mHds at hm; cases hm
    | cons x xs =>
      unfold mHds at hm
      obtain ⟨h1, h2⟩ := Bool.and_eq_true_iff.mp hm
      unfold mHd at h1
      split at h1
      · rename_i y yp nm e ep hp
        simp only [Bool.and_eq_true, decide_eq_true_eq] at h1
        obtain ⟨⟨hv, hx, hg, hn⟩, hnm, hr⟩ := h1
        refine .cons (k := clOf G h) ⟨g.gl hg, okN1 hn, .inl ?_⟩ ?_ (fun a ob cls d pn hz hd => ?_) (ih h2)
        · rw [g.mg, ← hx]
          exact fk.xnm _ hv
        · show NmOk X nm h.sl
          cases hsl : h.sl with
          | none =>
            cases nm with
            | none => trivial
            | some n => rw [hsl] at hnm; cases hnm
          | some i =>
            cases nm with
            | none => rw [hsl] at hnm; cases hnm
            | some n =>
              rw [hsl] at hnm
              unfold mNm at hnm
              simp only [Bool.and_eq_true, decide_eq_true_eq] at hnm
              exact ⟨by rw [g.N]; exact hnm.1, g.lcl hnm.2⟩
        · refine ⟨fun pins s σ H D I hh => ?_⟩
          exact (pss_cons (ps_ret (hr_ev fk g hv hnm hr (pn := pn) hz hd)) pss_nil).run pins s σ H D I hh
      · cases h1
/-- behind the body -/
def triR (hs : List Hd) (x : Exn) (ss1 : Slots) (μ1 : Store) : SR := match pickH hs x.c with
  | some h => (match h.r.ev x.ds with
    | some d => .ret d μ1
    | none => .bad)
  | none => .exn x ss1 μ1
theorem wCl_run (fk : Fk T G pg) {hs0 : List Hd} {n : Nat} (hn : N.length = n) {x : Exn} {ss1 : Slots} {μ1 : Store} {cls : Value} {dd : Option Addr} {σ' : St} (hl : ∀ q : Hd, ∀ i, q.sl = some i → q ∈ hs0 → i < n) (R' : Rel G B ss1 μ1 F' ι' σ' H') (rx : RpX G F' ι' H' x cls dd) : ∀ {hs : List Hd}, (∀ q ∈ hs, q ∈ hs0 ∧ T.xv q.c = true) →
    rdS G W B F ι H D (triR hs x ss1 μ1) → wCl n G.K W D (hs.map (clOf G)) cls dd σ' H'
  | [], _, h => h cls dd σ' F' ι' H' R' rx
  | q :: hs, hv, h => by
    obtain ⟨hq0, hq1⟩ := hv q List.mem_cons_self
    refine ⟨x.c == q.c, ?_, fun hb a ha hlen => ?_, fun hb => wCl_run fk hn hl R' rx (fun z hz => hv z (List.mem_cons_of_mem _ hz)) ?_⟩
    · rw [rx.cl]
      have := rx.xv
      rw [fk.xvv] at this
      exact fk.xis _ _ this hq1
    · unfold triR pickH at h
      rw [hb, if_pos rfl] at h
      simp only at h
      cases e : q.r.ev x.ds with
      | none => rw [e] at h; exact h.elim
      | some dv =>
        rw [e] at h
        refine ⟨F', ι', x, dv, ⟨R'.w, rx, by simpa using hb, fun i hi => ?_⟩, e, fun v F2 H2 st w2 m2 rv => h v F2 ι' H2 (R'.st.trans st) w2 (m2 _ R'.m) rv⟩
        unfold Cl.put
        show (match q.sl with | some i => σ'.set i (some (.ref a)) | none => σ')[i]? = _
        rw [hi]
        exact List.getElem?_set_self (by rw [hlen]; exact hl q i hi hq0)
    · unfold triR pickH at h
      rw [hb] at h
      exact h
theorem mHds_of : ∀ {hs : List Hd} {l : List ExceptHandler}, mHds T N sc hs l = true → ∀ q ∈ hs, T.xv q.c = true ∧ ∀ i, q.sl = some i → i < N.length
  | [], _, _, q, hq => by cases hq
  | q :: hs, [], hm, _, _ => by unfold mHds at hm; cases hm
  | q :: hs, y :: l, hm, q', hq' => by
    unfold mHds at hm
    obtain ⟨z1, z2⟩ := Bool.and_eq_true_iff.mp hm
    rcases List.mem_cons.mp hq' with rfl | hq'
    · unfold mHd at z1
      split at z1
      · simp only [Bool.and_eq_true] at z1
        refine ⟨z1.1.1, fun i hi => ?_⟩
        have z3 := z1.2.1
        rw [hi] at z3
        unfold mNm at z3
        split at z3
        · cases ‹some i = none›
        · rename_i e1
          cases e1
          simp only [Bool.and_eq_true, decide_eq_true_eq] at z3
          exact (List.getElem?_eq_some_iff.mp z3.1).1
        · cases z3
      · cases z1
    · exact mHds_of z2 q' hq'
theorem x_tri (fk : Fk T G pg) (g : Gs G N sc k W X) {b : IB} {hs : List Hd} {p : List Stmt} {hds : List ExceptHandler} (hne : hds.isEmpty = false) (hm : mHds T N sc hs hds = true) (hb : ∀ {W' : WX} {X' : Cx}, Gs G N sc k W' X' → PSs X' p (tB G W' pg cf b)) :
    PS X (.Try p hds [] [] pos) (tS G W pg cf (.tri b hs)) := by
  cases hds with
  | nil => cases hne
  | cons h0 hr =>
  have h9 := ps_tryC (pos := pos) (body := p) (tb := fun W' => tB G W' pg cf b) g.stk g.frm g.nd g.tk (fun W' pn xe tk pw => hb (X' := X.tr pn xe) ⟨⟨g.P, g.w, g.K, g.mg, g.base, g.calm, g.N, g.nd, g.sc, g.room, g.gu, tk⟩, pw, g.fn, g.kind, g.stk, g.frm⟩) (hd_ok fk g hm)
  refine ⟨fun pins s σ H D I h => ?_⟩
  obtain ⟨B, ss, μ, F, ι, R, h⟩ := h
  refine h9.run pins s σ H D I ⟨B, ss, μ, F, ι, R, ?_⟩
  unfold evS at h
  cases e : evB pg cf b ss μ with
  | next ss1 μ1 => rw [e] at h; exact h
  | ret d μ1 => rw [e] at h; exact h
  | brk ss1 μ1 => rw [e] at h; exact h
  | cont ss1 μ1 => rw [e] at h; exact h
  | bad => rw [e] at h; exact h
  | exn x ss1 μ1 =>
    rw [e] at h
    intro cls dd σ' F' ι' H' R' rx
    have h : rdS G W B F ι H D (triR hs x ss1 μ1) := h
    have hvs := mHds_of hm
    rw [g.K, g.N]
    exact wCl_run (hs0 := hs) fk rfl (fun q i hi hq => (hvs q hq).2 i hi) R' rx (fun q hq => ⟨hq, (hvs q hq).1⟩) h
end
end T
end

section
namespace T
open PySem PySem.Spec L2

section
variable {G : Glo} {N : List Str} {sc : Scope} {k : Nat} {W : WX} {X : Cx} {pg : Pg} {cf : CF} {o : Bool} {pos : Pos} {T : Tbl}
variable {F F' F'' F2 : Addr → Prop} {ι ι' ι'' : List Addr} {H H' H'' H0 : Hp} {B : Ent} {ss ss' : Slots} {μ : Store} {σ : St} {D : Ends}

theorem b_nil : PSs X [] (tB G W pg cf .nil) := by
  refine ⟨fun pins s σ H D I h => ?_⟩
  obtain ⟨B, ss, μ, F, ι, R, h⟩ := h
  exact pss_nil.run pins s σ H D I (h σ F ι H .refl R)
theorem b_cons {s : IS} {r : IB} {x : Stmt} {xr : List Stmt} (hs : PS X x (tS G W pg cf s)) (hr : PSs X xr (tB G W pg cf r)) : PSs X (x :: xr) (tB G W pg cf (.cons s r)) := by
  refine ⟨fun pins st σ H D I h => ?_⟩
  obtain ⟨B, ss, μ, F, ι, R, h⟩ := h
  refine (pss_cons hs hr).run pins st σ H D I ⟨B, ss, μ, F, ι, R, ?_⟩
  have h : rdS G W B F ι H D ((evS pg cf s ss μ).bind fun σ1 μ1 => evB pg cf r σ1 μ1) := h
  cases e : evS pg cf s ss μ with
  | next ss1 μ1 =>
    rw [e] at h
    exact fun σ' F' ι' H' sv R' => ⟨B, ss1, μ1, F', ι', R', rdS.step sv h⟩
  | ret d μ1 => rw [e] at h; exact h
  | brk ss1 μ1 => rw [e] at h; exact h
  | cont ss1 μ1 => rw [e] at h; exact h
  | exn x ss1 μ1 => rw [e] at h; exact h
  | bad => rw [e] at h; exact h
theorem b_frz {i : Nat} {r : IB} {xs : List Stmt} (hr : PSs X xs (tB G W pg cf r)) : PSs X xs (tB G W pg cf (.cons (.frz i) r)) := by
  refine ⟨fun pins st σ H D I h => ?_⟩
  obtain ⟨B, ss, μ, F, ι, R, h⟩ := h
  have h : rdS G W B F ι H D ((evS pg cf (.frz i) ss μ).bind fun σ1 μ1 => evB pg cf r σ1 μ1) := h
  unfold evS at h
  split at h
  · rename_i ds hds
    obtain ⟨F', R', sv⟩ := R.frz hds
    exact hr.run pins st σ H D I ⟨B, _, μ, F', ι, R', rdS.step sv h⟩
  · exact hr.run pins st σ H D I ⟨B, ss, μ, F, ι, R, h⟩
theorem b_kill {i : Nat} {r : IB} {xs : List Stmt} (hr : PSs X xs (tB G W pg cf r)) : PSs X xs (tB G W pg cf (.cons (.kill i) r)) := by
  refine ⟨fun pins st σ H D I h => ?_⟩
  obtain ⟨B, ss, μ, F, ι, R, h⟩ := h
  have h : rdS G W B F ι H D ((evS pg cf (.kill i) ss μ).bind fun σ1 μ1 => evB pg cf r σ1 μ1) := h
  unfold evS at h
  exact hr.run pins st σ H D I ⟨B, _, μ, F, ι, R.kill i, h⟩

variable (N pg cf T) in
mutual
theorem sS (fk : Fk T G pg) (hF : ∀ f, FnC T G pg fk cf k f) : ∀ (s : IS) {sc : Scope} {W : WX} {X : Cx} {x : Stmt}, Gs G N sc k W X → mS T N sc s x = true → PS X x (tS G W pg cf s)
  | .set t e, sc, W, X, x, g, h => by
    unfold mS at h
    split at h
    · simp only [Bool.and_eq_true] at h
      obtain ⟨⟨h1, h2, h3⟩, h4⟩ := h
      exact x_set fk hF g h1 h2 h3 h4
    · cases h
  | .par i j a b, sc, W, X, x, g, h => by
    unfold mS at h
    split at h
    · rw [Bool.and_eq_true, Bool.and_eq_true, Bool.and_eq_true, Bool.and_eq_true, Bool.and_eq_true, Bool.and_eq_true, Bool.and_eq_true, decide_eq_true_eq, decide_eq_true_eq, decide_eq_true_eq] at h
      obtain ⟨⟨⟨⟨⟨h1, h2⟩, h3⟩, h4⟩, h7, h8⟩, h9, h10⟩ := h
      rcases Bool.or_eq_true_iff.mp h4 with h4 | h4
      · obtain ⟨q1, q2⟩ := Bool.and_eq_true_iff.mp h4
        obtain ⟨q2, q3⟩ := Bool.and_eq_true_iff.mp q2
        exact x_par fk hF g h1 h2 h3 q1 q2 q3 h7 h8 h9 h10
      · obtain ⟨q1, q2⟩ := Bool.and_eq_true_iff.mp h4
        obtain ⟨q2, q3⟩ := Bool.and_eq_true_iff.mp q2
        exact x_parC fk hF g h1 h2 h3 q1 q2 (by rw [Bool.not_eq_true'] at q3; exact q3) h7 h8 h9 h10
    · cases h
  | .own i l, sc, W, X, x, g, h => by
    unfold mS at h
    split at h
    · simp only [Bool.and_eq_true, decide_eq_true_eq] at h
      obtain ⟨⟨⟨h1, h2⟩, h3⟩, h4⟩ := h
      exact x_own fk hF g h1 h2 h3 h4
    · cases h
  | .setixS a k0 e, sc, W, X, x, g, h => by
    unfold mS at h
    split at h
    · simp only [Bool.and_eq_true] at h
      obtain ⟨⟨h1, h2⟩, h3, h4, h5⟩ := h
      exact x_setixS fk hF g h2 h1 h3 h4 h5
    · cases h
  | .setix i k0 e, sc, W, X, x, g, h => by
    unfold mS at h
    split at h
    · simp only [Bool.and_eq_true, decide_eq_true_eq] at h
      obtain ⟨⟨⟨h1, h2⟩, ⟨h3, h4⟩, h5⟩, h6, h7⟩ := h
      exact x_setix fk hF g h3 h4 h5 h2 h1 h6 h7
    · cases h
  | .setfld a f e, sc, W, X, x, g, h => by
    unfold mS at h
    split at h
    · simp only [Bool.and_eq_true, decide_eq_true_eq] at h
      obtain ⟨⟨⟨rfl, h1⟩, h2⟩, h3, h4⟩ := h
      exact x_setfld fk hF g h1 h2 h3 h4
    · cases h
  | .app i e, sc, W, X, x, g, h => by
    unfold mS at h
    split at h
    · simp only [Bool.and_eq_true, decide_eq_true_eq] at h
      obtain ⟨⟨⟨⟨rfl, h1⟩, ⟨h2, h3⟩, h4⟩, h5⟩, h6⟩ := h
      exact x_app fk hF g h2 h3 h4 h1 h5 h6
    · cases h
  | .apppop i j e, sc, W, X, x, g, h => by
    unfold mS at h
    split at h
    · simp only [Bool.and_eq_true, decide_eq_true_eq] at h
      obtain ⟨⟨⟨⟨⟨⟨⟨rfl, h1⟩, ⟨h2, h3⟩, h4⟩, rfl⟩, h5⟩, ⟨h6, h7⟩, h8⟩, h9⟩, h10⟩ := h
      exact x_apppop fk hF g h2 h3 h4 h1 h6 h7 h8 h5 h9 h10
    · cases h
  | .apppopT i q j e, sc, W, X, x, g, h => by
    unfold mS at h
    split at h
    · simp only [Bool.and_eq_true, decide_eq_true_eq] at h
      obtain ⟨⟨⟨⟨⟨⟨⟨⟨rfl, h1⟩, ⟨h2, h3⟩, h4⟩, rfl⟩, h5⟩, ⟨h6, h7⟩, h8⟩, ⟨m0, m1⟩, m2⟩, h9⟩, h10⟩ := h
      exact x_apppopT fk hF g h2 h3 h4 h1 h6 h7 h8 h5 m0 m1 m2 h9 h10
    · cases h
  | .expr e, sc, W, X, x, g, h => by
    unfold mS at h
    split at h
    · simp only [Bool.and_eq_true] at h
      exact x_expr fk hF g h.1 h.2
    · cases h
  | .ret e, sc, W, X, x, g, h => by
    unfold mS at h
    split at h
    · exact x_ret fk hF g h
    · cases h
  | .retO i, sc, W, X, x, g, h => by
    unfold mS at h
    split at h
    · simp only [Bool.and_eq_true, decide_eq_true_eq] at h
      exact x_retO g h.1.1 h.1.2 h.2
    · cases h
  | .retN, sc, W, X, x, g, h => by
    unfold mS at h
    split at h
    · exact x_retN
    · cases h
  | .iff c a b, sc, W, X, x, g, h => by
    unfold mS at h
    split at h
    · simp only [Bool.and_eq_true] at h
      obtain ⟨h1, h2, h3⟩ := h
      exact x_if fk hF g h1 (sB fk hF a g h2) (sB fk hF b g h3)
    · cases h
  | .forr t it b, sc, W, X, x, g, h => by
    unfold mS at h
    split at h
    · simp only [Bool.and_eq_true] at h
      obtain ⟨⟨⟨h1, h2⟩, h3, h4⟩, h5⟩ := h
      exact x_for fk hF g h1 h2 h3 h4 (sB fk hF b g h5)
    · cases h
  | .pass, sc, W, X, x, g, h => by
    unfold mS at h
    split at h
    · exact x_pass
    · cases h
  | .brk, sc, W, X, x, g, h => by
    unfold mS at h
    split at h
    · exact x_brk
    · cases h
  | .cont, sc, W, X, x, g, h => by
    unfold mS at h
    split at h
    · exact x_cont
    · cases h
  | .dead, sc, W, X, x, g, h => x_dead
  | .aug _ _ _, sc, W, X, x, g, h => by unfold mS at h; cases h
  | .ext i e, sc, W, X, x, g, h => by
    unfold mS at h
    split at h
    · simp only [Bool.and_eq_true, decide_eq_true_eq] at h
      obtain ⟨⟨⟨⟨rfl, h1⟩, ⟨h2, h3⟩, h4⟩, h5⟩, h6⟩ := h
      exact x_ext fk hF g h2 h3 h4 h1 h5 h6
    · cases h
  | .setpop _ _ _, sc, W, X, x, g, h => by unfold mS at h; cases h
  | .appS _ _, sc, W, X, x, g, h => by unfold mS at h; cases h
  | .whil _ _ _, sc, W, X, x, g, h => by unfold mS at h; cases h
  | .rais c e, sc, W, X, x, g, h => by
    unfold mS at h
    split at h
    · simp only [Bool.and_eq_true, decide_eq_true_eq] at h
      obtain ⟨⟨h1, h2, h3, h4⟩, h5, h6⟩ := h
      exact x_rais fk hF g h1 h2 h3 h4 h5 h6
    · cases h
  | .tri b hs, sc, W, X, x, g, h => by
    unfold mS at h
    split at h
    · simp only [Bool.and_eq_true, Bool.not_eq_true'] at h
      obtain ⟨h1, h2, h3⟩ := h
      exact x_tri fk g h1 h2 fun g2 => sB fk hF b g2 h3
    · cases h
  | .frz _, sc, W, X, x, g, h => by unfold mS at h; cases h
  | .kill _, sc, W, X, x, g, h => by unfold mS at h; cases h
theorem sB (fk : Fk T G pg) (hF : ∀ f, FnC T G pg fk cf k f) : ∀ (b : IB) {sc : Scope} {W : WX} {X : Cx} {xs : List Stmt}, Gs G N sc k W X → mB T N sc b xs = true → PSs X xs (tB G W pg cf b)
  | .nil, sc, W, X, xs, g, h => by
    unfold mB at h
    cases xs with
    | nil => exact b_nil
    | cons _ _ => cases h
  | .cons s r, sc, W, X, xs, g, h => by
    cases s with
    | frz i =>
      unfold mB at h
      exact b_frz (sB fk hF r g h)
    | kill i =>
      unfold mB at h
      exact b_kill (sB fk hF r g h)
    | _ =>
      unfold mB at h
      cases xs with
      | nil => cases h
      | cons x xr =>
        obtain ⟨h1, h2⟩ := Bool.and_eq_true_iff.mp h
        exact b_cons (sS fk hF _ g h1) (sB fk hF r g h2)
end
end
end T
end

section
namespace T
open PySem PySem.Spec L2

section
variable {G : Glo} {N : List Str} {sc : Scope} {k : Nat} {W : WX} {X : Cx} {pg : Pg} {cf : CF} {o : Bool} {pos : Pos} {T : Tbl}
variable {F F' F'' F2 : Addr → Prop} {ι ι' ι'' : List Addr} {H H' H'' H0 : Hp} {B : Ent} {ss ss' : Slots} {μ : Store} {σ : St} {D : Ends}

/-- a def of the text, its names, its body matched -/
structure FnF (T : Tbl) (G : Glo) (pg : Pg) (fk : Fk T G pg) (f : Nat) (fi : FI) : Prop where
  np : fi.np = T.np f
  ex : ∃ (name qual : Str) (params : Arguments) (body : List Stmt) (scope : Scope) (dV kV doc pm cdv ct oc : Value) (an od : Option Addr) (osl : Array (Option Value)) (N : List Str),
    fk.fd f = PySem.W.fnOf name qual params body scope dV kV doc pm an cdv ct ∧ G.K.lookup (fk.fa f) = some ⟨oc, od, .func (fk.fd f), osl⟩ ∧ PySem.W.codeIn G.K cdv qual = true ∧ FnScope N (fk.ps f) scope ∧ N.length = fi.n ∧ mB T N scope fi.body body = true

theorem rel_start {ds : List _root_.T.D} {vs : List V} {n : Nat} (w : Wld F ι H) (m : RelM G F μ ι H) (rs : Rps G F ι H ds vs) : Rel G ⟨F, ι, H⟩ (ds.map .val ++ List.replicate n .emp) μ F ι (vs.map some ++ List.replicate n none) H := by
  have key : ∀ (i : Nat) (x : Sl), (ds.map Sl.val ++ List.replicate n Sl.emp)[i]? = some x → x = .emp ∨ ∃ d v, x = .val d ∧ (vs.map some ++ List.replicate n none)[i]? = some (some v) ∧ Rp G F ι H d v := by
    intro i x e
    by_cases hi : i < ds.length
    · rw [List.getElem?_append_left (by simpa using hi), List.getElem?_map] at e
      obtain ⟨d, e1, e2⟩ := Option.map_eq_some_iff.mp e
      obtain ⟨v, e3, r⟩ := rs.get e1
      refine .inr ⟨d, v, e2.symm, ?_, r⟩
      rw [List.getElem?_append_left (by simpa [← rs.length] using hi), List.getElem?_map, e3]
      rfl
    · rw [List.getElem?_append_right (by simpa using Nat.le_of_not_lt hi), List.getElem?_replicate] at e
      split at e
      · cases e; exact .inl rfl
      · cases e
  refine ⟨w, m, .refl, by simp [rs.length], fun i x e => ?_, fun i ds a e1 e2 => ?_, fun i j ds es a e1 e2 e3 e4 => ?_⟩
  · rcases key i x e with rfl | ⟨d, v, rfl, e1, r⟩
    · trivial
    · exact ⟨v, e1, r⟩
  · rcases key i _ e1 with z | ⟨d, v, z, _⟩ <;> cases z
  · rcases key i _ e1 with z | ⟨d, v, z, _⟩ <;> cases z

theorem fn_step {fk : Fk T G pg} (hF : ∀ f, FnC T G pg fk (callI pg k) k f) (hf : ∀ f fi, pg.fn f = some fi → FnF T G pg fk f fi) (f : Nat) : FnC T G pg fk (callI pg (k + 1)) (k + 1) f := by
  have hcall : ∀ ds μ, callI pg (k + 1) f ds μ = match pg.fn f with | some fi => runF pg (callI pg k) fi ds μ | none => .bad := fun _ _ => rfl
  cases e : pg.fn f with
  | none =>
    refine ⟨fun ds μ hn => absurd (by rw [hcall, e]) hn, fun A outer s H args us vs ds μ F ι Q E hr hg e0 hb r w m rs h => ?_⟩
    rw [hcall, e] at h
    exact h.elim
  | some fi =>
    have ff := hf f fi e
    have hlen : ∀ ds μ, callI pg (k + 1) f ds μ ≠ .bad → ds.length = T.np f := fun ds μ hn => by
      rw [hcall, e] at hn
      have hn : runF pg (callI pg k) fi ds μ ≠ .bad := hn
      unfold runF at hn
      by_cases h : ds.length = fi.np
      · rw [h, ff.np]
      · rw [if_neg h] at hn
        exact absurd rfl hn
    refine ⟨hlen, fun A outer s H args us vs ds μ F ι Q E hr hg e0 hb r w m rs h => ?_⟩
    have hl := hlen ds μ (rdC_ne h)
    rw [hcall, e] at h
    obtain ⟨name, qual, params, body, scope, dV, kV, doc, pm, cdv, ct, oc, an, od, osl, N, efd, lk, hcd, S, hN, hm⟩ := ff.ex
    rw [efd] at lk hb
    have KX : G.K.In s.heap := e0.mod.kin.keeps fun b o e => (e0.bs b o e).1
    have lim : s.heap.NoLimit := e0.mod.nolimit.keeps fun b o e => (e0.bs b o e).1
    have hkind : ∀ y ∈ (fk.ps f).zip us, scope.names.lookup y.1 = some .local ∨ (scope.names.lookup y.1 = some .cell ∧ ((cellsFrom (s.heap.objs.size + 1) scope.names []).lookup y.1).isSome = true) := fun ⟨n, v⟩ hy => by
      rcases S.par n (List.of_mem_zip hy).1 with q | q
      · exact .inl q
      · exact .inr ⟨q, PySem.W.cellsFrom_some _ _ _ (.inl q)⟩
    refine codeAny_call_function (Room.depth hr) (KX _ _ lk) rfl S.co S.gen rfl (PySem.W.codeRec_of KX hcd) (hb _ _ _ _ ?_)
    refine wpAny_newFunctionEnv_cells S.kind hkind fun env he s1 x => ?_
    subst he
    refine ⟨lim.keeps x.toInCall.keep, codeAny_func ?_⟩
    have hvl : vs.length = (fk.ps f).length := by rw [← rs.length, hl, fk.psl]
    have I : Inv (cxOf (L2.CX G.P G.w) G.P G.w G.K G.mg G.base N qual scope (fk.fa f) cdv A outer s H E) [] (start N vs) H s1 := inv_start S hr.hd e0 hvl r x
    have tk : Takes (cxOf (L2.CX G.P G.w) G.P G.w G.K G.mg G.base N qual scope (fk.fa f) cdv A outer s H E) (fun cls d _ H' => E cls d H') := takes_of (E := E) rfl rfl rfl rfl
    have hr2 : Room (2 * k + 1) (A.deeper (PyProof.Rows.envOfC qual scope s.heap.objs.size (fk.fa f) cdv)) := Room.deeper (k := 2 * k + 1) hr _
    have g : Gs G N scope k (fun cls d _ H' => E cls d H') (cxOf (L2.CX G.P G.w) G.P G.w G.K G.mg G.base N qual scope (fk.fa f) cdv A outer s H E) :=
      ⟨⟨rfl, rfl, rfl, rfl, rfl, rfl, rfl, S.nd, rfl, hr2, hg, tk⟩, passes_of rfl, fun _ => rfl, S.kind, rfl, rfl⟩
    have ht := sB N pg (callI pg k) T fk hF fi.body g hm
    have hpl : fi.np = ds.length := by rw [ff.np, hl]
    have hq : tB G (fun cls d _ H' => E cls d H') pg (callI pg k) fi.body { nx := fun _ H' => Q .non H', rt := Q } (start N vs) H := by
      refine ⟨⟨F, ι, H⟩, ds.map .val ++ List.replicate (fi.n - fi.np) .emp, μ, F, ι, ?_, ?_⟩
      · unfold L2.start
        rw [hN, hpl, rs.length]
        exact rel_start w m rs
      · simp only at h
        unfold runF at h
        rw [if_pos hpl.symm] at h
        cases eb : evB pg (callI pg k) fi.body (ds.map .val ++ List.replicate (fi.n - fi.np) .emp) μ with
        | next ss1 μ1 =>
          rw [eb] at h
          exact fun σ' F' ι' H' sv R' => h .non F' ι' H' R'.st R'.w R'.m .non
        | ret d μ1 =>
          rw [eb] at h
          exact fun v F' ι' H' s' w' m' r' => h v F' ι' H' s' w' m' r'
        | exn xx ss1 μ1 =>
          rw [eb] at h
          exact fun cls dd σ' F' ι' H' R' rx => h cls dd F' ι' H' R'.st R'.w R'.m rx
        | brk _ _ => rw [eb] at h; exact h.elim
        | cont _ _ => rw [eb] at h; exact h.elim
        | bad => rw [eb] at h; exact h.elim
    refine wpAny_mono (ht.run [] s1 (start N vs) H _ I hq) (fun fl s' hs => ?_) fun e s' hs => hs
    have fin : ∀ {σ' : St} {H' : Hp} {v : V} {u : Value}, Inv (cxOf (L2.CX G.P G.w) G.P G.w G.K G.mg G.base N qual scope (fk.fa f) cdv A outer s H E) [] σ' H' s' → RelV v u → Q v H' → CE outer G.P G.w H s Q u s' :=
      fun {σ' H' v u} J rv q => ⟨v, H', J.os, J.bare, J.base, J.hok, rv, q⟩
    cases fl with
    | ret u =>
      obtain ⟨v, σ', H', J, rv, q⟩ := hs
      exact fin J rv q
    | next =>
      obtain ⟨σ', H', J, q⟩ := hs
      exact fin (v := V.non) (u := Value.none) J rfl q
    | brk =>
      obtain ⟨_, _, _, q⟩ := hs
      exact False.elim q
    | cont =>
      obtain ⟨_, _, _, q⟩ := hs
      exact False.elim q
theorem fn_all {fk : Fk T G pg} (hf : ∀ f fi, pg.fn f = some fi → FnF T G pg fk f fi) : ∀ k f, FnC T G pg fk (callI pg k) k f
  | 0, f => ⟨fun ds μ hn => absurd rfl hn, fun A outer s H args us vs ds μ F ι Q E hr hg e0 hb r w m rs h => h.elim⟩
  | k + 1, f => fn_step (fn_all hf k) hf f
end
end T
end

section
namespace T
open PySem PySem.Spec PyProof.Rows L2

/-! ### a law's end: the script, known to the caller, is only read -/
theorem law_callG {P : Program} {w : World} {K : PySem.W.Frag} {mg mb : Str → Option Value} {fa a : Addr} {s₁ : Shared} {vs : List Value} {ns : List Int}
    (KX : K.In s₁.heap) (hns : s₁.heap.Ns mainGlobals mg) (hb : s₁.heap.Ns builtinsNs mb) (hbb : ∀ x : Str, x ≠ "__name__" → mb x = bootBuiltins x) (hlim : s₁.heap.NoLimit) (hg : s₁.gens = #[])
    (ha : s₁.heap.get? a = some { cls := .type "list", data := .seq vs.toArray }) (hi : IntsAre vs ns) (hl : ns.length ≤ sizeLine)
    (F : ∀ (base : Heap) (H : Hp), K.In base → base.Ns mainGlobals mg → Only H → SqL K H a (ns.map V.int) → Env0 P w K mg base callerA [] s₁ H → codeAny (model P w) callerA (.call (.ref fa) ⟨[.ref a], []⟩) (CR (L2.CX P w) [] P w H s₁ (fun v _ => v = .bl true) fun _ _ _ => False) s₁) :
    codeAny (model P w) callerA (.call (.ref fa) ⟨[.ref a], []⟩) (fun r s' => r = .ok (.ret (.bool true)) ∧ OldK s₁.heap s'.heap ∧ s'.os = s₁.os ∧ AllBare s'.gens) s₁ := by
  have rv := vals_ints hi
  have lenV := hi.length
  -- from an abstract heap in which nothing but the script may be tracked
  have core : ∀ H : Hp, Only H → SqL K H a (ns.map V.int) → HOk P w H s₁.heap → (∀ b, H b ≠ none → b = a) → (H a ≠ none → K.lookup a = none) →
      codeAny (model P w) callerA (.call (.ref fa) ⟨[.ref a], []⟩) (fun r s' => r = .ok (.ret (.bool true)) ∧ OldK s₁.heap s'.heap ∧ s'.os = s₁.os ∧ AllBare s'.gens) s₁ := by
    intro H hO hS hok hA hK
    have base_of : ∀ {b : Addr} {o : Obj}, s₁.heap.get? b = some o → H b = none → (hidT s₁.heap H).get? b = some o := fun e n => hidT_get e n
    have noA : ∀ {b : Addr} {o : Obj} {es : Array DictEntry} {ep : Nat}, s₁.heap.get? b = some o → o.data = .dict es ep → H b = none := fun {b o es ep} e d => by
      cases q : H b with
      | none => rfl
      | some u =>
        have e' : b = a := hA b (by rw [q]; simp)
        subst e'
        rw [ha] at e; cases e
        have d' : Data.seq vs.toArray _ = Data.dict es ep := d
        cases d'
    have nsK : ∀ {b : Addr} {m : Str → Option Value}, s₁.heap.Ns b m → (hidT s₁.heap H).Ns b m := fun {b m} ⟨o, es, ep, e, d, r⟩ => ⟨o, es, ep, base_of e (noA e d), d, r⟩
    have hKb : K.In (hidT s₁.heap H) := fun b o e => base_of (KX b o e) (by
      cases q : H b with
      | none => rfl
      | some u =>
        have e' : b = a := hA b (by rw [q]; simp)
        subst e'
        rw [hK (by rw [q]; simp)] at e; cases e)
    have hM : Mod K mg (hidT s₁.heap H) := ⟨hKb, nsK hns, ⟨mb, nsK hb, hbb⟩, let ⟨mc, h1, h2⟩ := hlim; ⟨mc, nsK h1, h2⟩⟩
    have e0 : Env0 P w K mg (hidT s₁.heap H) callerA [] s₁ H := ⟨rfl, hM, fun b o e => of_hidT e, Nat.le_of_eq (hidT_size _ _), trivial, fun b hb => absurd (show b ∈ ([] : List Addr) from hb) (by simp), hok, .of_eq hg⟩
    refine codeAny_mono (F _ H hKb (nsK hns) hO hS e0) fun r s' h => ?_
    cases r with
    | error e =>
      obtain ⟨_, _, _, _, _, _, _, _, _, _, _, _, z⟩ := h
      exact z.elim
    | ok fl =>
      cases fl with
      | next => exact False.elim h
      | brk => exact False.elim h
      | cont => exact False.elim h
      | ret u =>
        obtain ⟨v, H', os, bare, un, hok', r', q⟩ := h
        have q' : v = .bl true := q
        subst q'
        obtain rfl : u = Value.bool true := r'
        refine ⟨rfl, OldK.of_keep fun b o e => ?_, os, bare⟩
        cases q : H b with
        | none => exact un.keep b o e q (by intro z; exact absurd (show b ∈ ([] : List Addr) from z) (by simp)) (by simp)
        | some u =>
          rcases hO b with z | ⟨ob, xs, z⟩
          · rw [q] at z; cases z
          · have z2 := un.frzs b ob _ z
            obtain ⟨e1, _⟩ := hok b _ z
            obtain ⟨e2, _⟩ := hok' b _ z2
            rw [e] at e1; cases e1
            exact e2
  cases hk : K.lookup a with
  | some o =>
    -- the script is one of the module's own objects
    have e := KX a o hk
    rw [ha] at e
    cases e
    refine core (fun _ => none) (fun _ => .inl rfl) (.inr ⟨_, vs.toArray, _, hk, rfl, rfl, rfl, by rw [List.size_toArray, lenV]; exact hl, by simpa using rv⟩) (fun b u z => by have z' : (none : Option HO) = some u := z; cases z') (fun b z => absurd rfl z) fun z => absurd rfl z
  | none =>
    refine core (fun b => if b = a then some (.frz { cls := .type "list", data := .seq vs.toArray } (.lst (ns.map V.int))) else none) (fun b => ?_) (.inl (.inr ⟨{ cls := .type "list", data := .seq vs.toArray }, if_pos rfl⟩)) (fun b u z => ?_) (fun b z => ?_) fun _ => hk
    · by_cases hb : b = a
      · exact .inr ⟨_, _, if_pos hb⟩
      · exact .inl (if_neg hb)
    · by_cases hb : b = a
      · have z' := (if_pos hb).symm.trans z
        cases z'
        subst hb
        exact ⟨ha, by rw [List.length_map]; exact hl, vs, _, rv, ha⟩
      · have z' := (if_neg hb).symm.trans z
        cases z'
    · by_cases hb : b = a
      · exact hb
      · exact absurd (if_neg hb) z

/-- the law's def, by its interpreted text -/
theorem law_end {T : Tbl} {G : Glo} {pg : Pg} {fk : Fk T G pg} (hf : ∀ f fi, pg.fn f = some fi → FnF T G pg fk f fi) {L k : Nat} {s₁ : Shared} {ns : List Int} {a : Addr} {μ' : Store} {x : Str}
    (hps : fk.ps L = [x]) (hpo : T.po L = true) (hr : Room (2 * k) callerA) (H0 : Hp) (hO : Only H0) (hS : SqL G.K H0 a (ns.map V.int)) (e0 : Env0 G.P G.w G.K G.mg G.base callerA [] s₁ H0) (hrun : callI pg k L [.ro (ns.map .int)] [] = .ok (.bl true) μ') :
    codeAny (model G.P G.w) callerA (.call (.ref (fk.fa L)) ⟨[.ref a], []⟩) (CR (L2.CX G.P G.w) [] G.P G.w H0 s₁ (fun v _ => v = .bl true) fun _ _ _ => False) s₁ := by
  have hF := fn_all hf k L
  have ro : RoL G.K H0 a (ns.map V.int) := by
    rcases hS with h | h
    · rcases h with h | h
      · rcases hO a with z | ⟨o, xs, z⟩
        · rw [h] at z; cases z
        · rw [h] at z; cases z
      · exact .inl h
    · exact .inr h
  have rs : ∀ ns : List Int, Rps G (fun _ => False) [] H0 (ns.map .int) (ns.map V.int) := fun ns => by
    induction ns with
    | nil => exact .nil
    | cons n ns ih => exact .cons (.int n) ih
  refine hF.run callerA [] s₁ H0 ⟨[.ref a], []⟩ [.ref a] [.ref a] [.ro (ns.map .int)] [] (fun _ => False) [] _ _ hr rfl e0 ?_ (.cons rfl .nil) ⟨List.nodup_nil, fun a h => (by simp at h), fun a h => (by simp at h), fun a h => h.elim⟩ ⟨rfl, fun n o a h => (by simp at h)⟩ (.cons (.ro ro (rs ns)) .nil) ?_
  · exact .of_eq (fk.bnd L hpo [.ref a] (by rw [hps]; rfl))
  · rw [hrun]
    intro v F' ι' H' s w m r
    cases r
    rfl
end T
end

section
namespace T
open PySem PySem.Spec PyProof.Rows L2

/-! ### the head's Hook, with one answer more -/
def asT (g : Addr → Option Obj) (n : Nat) : List Addr := He.asD g n ++ [sysModules, cStatics]
abbrev AlT : Type := He.AlD × (List He.FnW × Bool)
def obF (fn : List He.DefD) (xs : List XD) (ex : PySem.W.Frag → Bool) (K : PySem.W.Frag) : AlT := (He.obsD [] fn K, xs.map (XD.fw K), ex K)
def hookT (n : Nat) (fn : List He.DefD) (xs : List XD) (ex : PySem.W.Frag → Bool) : PySem.W.Hook where
  α := AlT
  obs := fun s => obF fn xs ex (He.frG s.heap.get? (asT s.heap.get? n))
  val := fun _ => (He.valD fn, xs.map XD.val, true)
  says := fun _ h => ∃ K : PySem.W.Frag, K.In h ∧ He.SaysD [] fn K ∧ xs.map (XD.fw K) = xs.map XD.val ∧ ex K = true
  of := fun _ s e => ⟨He.frG s.heap.get? (asT s.heap.get? n), He.frG_in, congrArg Prod.fst e, congrArg (fun z => z.2.1) e, congrArg (fun z => z.2.2) e⟩
  keeps := fun _ _ _ ⟨K, hK, c⟩ k => ⟨K, PySem.W.Frag.In.keeps hK k, c⟩
def obsT (n : Nat) (fn : List He.DefD) (xs : List XD) (ex : PySem.W.Frag → Bool) (g : Addr → Option Obj) : AlT := obF fn xs ex (He.frG g (asT g n))
theorem obsT_eq {n : Nat} {fn : List He.DefD} {xs : List XD} {ex : PySem.W.Frag → Bool} {g : Addr → Option Obj} {s : Shared} (h : ∀ a, g a = s.heap.get? a) : obsT n fn xs ex g = (hookT n fn xs ex).obs s := by
  have e : g = s.heap.get? := funext h
  rw [e] <;> rfl

/-! ### a program's tables -/
structure Row where
  d : He.DefD
  N : List Str
  ps : List Str
  fi : FI
  /-- no defaults -/
  po : Bool
structure Tab where
  rows : List Row
  r0 : Row
  cnm : List Str
  att : List Str
  gi : List (Str × Int)
  gs : List (Str × Str)
  /-- functions called by a global name -/
  isf : List Nat
  /-- classes; those that are made, by which __init__ -/
  cs : List Nat
  mks : List (Nat × Nat)
  eqs : List (Nat × Nat)
  /-- error classes; the file of the text -/
  xs : List (Nat × XD)
  file : Str
  /-- calls by keywords or with defaults; method names, methods -/
  pats : List (Nat × Nat × List Str × List PA)
  mnm : List Str
  mth : List ((Nat × Nat) × Nat)
def Tab.xl (t : Tab) : List XD := t.xs.map (·.2)
def Tab.xn (t : Tab) (c : Nat) : Str := match t.xs.lookup c with
  | some x => x.cls
  | none => ""
def Tab.xt (t : Tab) (c : Nat) : Str := match t.xs.lookup c with
  | some x => x.att
  | none => ""
def Tab.row (t : Tab) (f : Nat) : Row := t.rows.getD f t.r0
def Tab.tbl (t : Tab) : Tbl where
  fnm := fun f => (t.row f).d.name
  cnm := fun c => t.cnm.getD c ""
  att := fun a => t.att.getD a ""
  mnm := fun m => t.mnm.getD m ""
  po := fun f => (t.row f).po
  vm := fun m => decide (m < t.mnm.length)
  gi := t.gi
  gs := t.gs
  np := fun f => (t.row f).ps.length
  va := fun a => decide (a < t.att.length)
  vc := fun c => t.cs.contains c
  isf := fun f => t.isf.contains f
  mkc := fun c => (t.mks.map (·.1)).contains c
  pat := t.pats
  init := fun c => (t.mks.lookup c).getD 0
  xv := fun c => (t.xs.lookup c).isSome
  xn := t.xn
  xt := t.xt
def Tab.pg (t : Tab) : Pg where
  fn := fun f => (t.rows[f]?).map (·.fi)
  init := fun c => (t.mks.lookup c).getD 0
  eq := fun c => t.eqs.lookup c
  meth := fun c m => t.mth.lookup (c, m)
def blNames : List Str := ["len", "tuple", "all", "any", "sum", "max", "min", "abs", "int", "str", "repr", "range", "enumerate", "zip", "set", "sorted", "list", "isinstance", "bool", "dict"]
def tyNames : List String := ["int", "bool", "str", "tuple", "list", "dict"]
def tyNames2 : List String := ["NoneType", "int", "bool", "str", "tuple", "list", "dict"]
def fdOf (K : PySem.W.Frag) (a : Addr) (d : FuncData) : FuncData := match K.lookup a with
  | some ⟨_, _, .func fd, _⟩ => fd
  | _ => d
/-- what the written part is asked for, of a class -/
def Tab.exC (t : Tab) (K : PySem.W.Frag) (c : Nat) : Bool :=
  let x := t.cnm.getD c ""
  (He.Fa.glo x).ok K && ((He.Fa.cls x).ok K && ((t.att.all fun f => (He.Fa.noat x f).ok K) && ((tyNames.all fun n => decide (PySem.W.kitOne K (.ref (He.ga K x)) (.type n) = some false)) &&
    ((tyNames2.all fun n => decide (PySem.W.kitOne K (.type n) (.ref (He.ga K x)) = some false)) && ((tyNames2.all fun n => PySem.W.notFirst K (He.ga K x) (.type n)) &&
      (decide (PySem.W.findIn K (.ref (He.ga K x)) "__class__" = some (some (.builtin "object.__class__"))) && (decide (PySem.W.mroIn K (He.ga K x) (.type "object") = some true) && decide (PySem.W.subIn K (.ref (He.ga K x)) (.type "object") = some true))))))))
def Tab.exCC (t : Tab) (K : PySem.W.Frag) (c d : Nat) : Bool :=
  let x := t.cnm.getD c ""
  let y := t.cnm.getD d ""
  decide (PySem.W.kitOne K (.ref (He.ga K x)) (.ref (He.ga K y)) = some (c == d)) && PySem.W.notFirst K (He.ga K x) (.ref (He.ga K y))
def Tab.exEq (t : Tab) (K : PySem.W.Frag) (p : Nat × Nat) : Bool :=
  let x := t.cnm.getD p.1 ""
  decide (PySem.W.findIn K (.ref (He.ga K x)) "__eq__" = some (some (.ref (He.fAd K (t.row p.2).d.at_)))) && (PySem.W.isFn K (.ref (He.fAd K (t.row p.2).d.at_)) && decide (PySem.W.findIn K (.ref (He.ga K x)) "__ne__" = some (some (.builtin "object.__ne__"))))
def Tab.exMe (t : Tab) (K : PySem.W.Frag) (p : (Nat × Nat) × Nat) : Bool :=
  decide (PySem.W.findIn K (.ref (He.ga K (t.cnm.getD p.1.1 ""))) (t.mnm.getD p.1.2 "") = some (some (.ref (He.fAd K (t.row p.2).d.at_)))) && PySem.W.isFn K (.ref (He.fAd K (t.row p.2).d.at_))
def smOk (K : PySem.W.Frag) : Bool := match K.lookup sysModules with
  | some o => decide (o.cls = .type "dict")
  | none => false
def Tab.ex (t : Tab) (K : PySem.W.Frag) : Bool :=
  smOk K && ((t.xl.all fun x => x.kB t.file K) && ((t.xs.all fun p => t.xs.all fun q => decide (PySem.W.exmOne K (.ref (He.ga K p.2.cls)) (.ref (He.ga K q.2.cls)) = some (p.1 == q.1))) && (
  (t.gi.all fun p => (He.Fa.int p.1 p.2).ok K) && ((t.gs.all fun p => (He.Fa.str p.1 p.2).ok K) && ((blNames.all fun x => (He.Fa.free x).ok K) && ((t.cs.all fun c => t.exC K c) && ((t.cs.all fun c => t.cs.all fun d => t.exCC K c d) &&
    ((t.eqs.all fun p => t.exEq K p) && ((t.mth.all fun p => t.exMe K p) && ((t.mks.all fun p => (He.Fa.mkr (t.cnm.getD p.1 "")).ok K) && ((t.isf.all fun f => (He.Fa.glo (t.row f).d.name).ok K) &&
      (decide (PySem.W.specialIn K (.builtin "object.__class__") "__get__" = some (some (.builtin "getset_descriptor.__get__"))) && decide (PySem.W.takesIn K (.builtin "object.__class__") = some true)))))))))))))
/-- what is asked of the tables alone -/
def Tab.ok (t : Tab) : Bool :=
  (t.mks.all fun p => t.cs.contains p.1 && decide ((t.mks.lookup p.1).map (fun f => (t.row f).d.at_) = some (t.cnm.getD p.1 "", some ("__init__" : Str)))) && ((t.isf.all fun f => decide ((t.row f).d.at_ = ((t.row f).d.name, none))) &&
    ((t.eqs.all fun p => (t.row p.2).po) && ((t.mth.all fun p => (t.row p.2).po) && ((t.att.all fun a => t.mnm.all fun m => decide (a ≠ m)) && ((List.range t.att.length).all (fun i => (List.range t.att.length).all fun j => decide (t.att.getD i "" = t.att.getD j "" → i = j)) && ((t.rows.all fun r => decide (r.fi.np = r.ps.length) && ((!r.po || r.d.dfl.isEmpty) && mB t.tbl r.N r.d.scope r.fi.body r.d.body) && decide (r.N.length = r.fi.n))))))))
structure Row.ok (r : Row) : Prop where
  sc : FnScope r.N r.ps r.d.scope
  bd : r.po = true → ∀ (kV doc pm : Value) (an : Option Addr) (cdv ct : Value) (us : List Value), us.length = r.ps.length → bindArgs (PySem.W.fnOf r.d.name r.d.qual r.d.params r.d.body r.d.scope .none kV doc pm an cdv ct) ⟨us, []⟩ = pure (r.ps.zip us)

def dvOf : Option Int → He.Dv
  | none => .non
  | some i => .int i
theorem dvOf_v {K : PySem.W.Frag} (i : Option Int) : (dvOf i).v K = litV i := by cases i <;> rfl
/-- a call with n values and keywords ks: how it binds; ms: the keyword-only parameters that lack -/
structure KwOk (r : Row) (n : Nat) (ks : List Str) (p : List PA) : Prop where
  dfl : r.d.dfl = []
  bd : ((∀ q ∈ p, ∃ j, q = PA.ar j) ∧ ∀ (kV doc pm : Value) (an : Option Addr) (cdv ct : Value) (us ws : List Value), us.length = n → ws.length = ks.length → bindArgs (PySem.W.fnOf r.d.name r.d.qual r.d.params r.d.body r.d.scope .none kV doc pm an cdv ct) ⟨us, ks.zip ws⟩ = pure (r.ps.zip (selP .none p (us ++ ws) []))) ∨
    (r.d.kwd ≠ [] ∧ ∃ ms : List (Str × Option Int), (∀ q ∈ ms, (q.1, dvOf q.2) ∈ r.d.kwd) ∧ (∀ j i, PA.df j i ∈ p → (ms.map (·.2))[j]? = some i) ∧
      ∀ (A : Addr) (doc pm : Value) (an : Option Addr) (cdv ct : Value) (us mv ws : List Value), us.length = n → mv.length = ms.length → ws.length = ks.length →
        KwChain A ((ms.map (·.1)).zip mv) (bindArgs (PySem.W.fnOf r.d.name r.d.qual r.d.params r.d.body r.d.scope .none (.ref A) doc pm an cdv ct) ⟨us, ks.zip ws⟩) (r.ps.zip (selP .none p (us ++ ws) mv)))

def Tab.glo (t : Tab) (P : Program) (w : World) (K : PySem.W.Frag) (mg : Str → Option Value) (base : Heap) : Glo := ⟨P, w, K, mg, base, fun c => He.ga K (t.cnm.getD c ""), t.tbl.att, t.tbl.vc, t.tbl.va, t.tbl.xv, fun c => He.ga K (t.xn c), t.tbl.xt⟩
section
variable {t : Tab} {P : Program} {w : World} {K : PySem.W.Frag} {mg : Str → Option Value} {base h : Heap}
theorem Tab.row_mem (h0 : t.r0 ∈ t.rows) (f : Nat) : t.row f ∈ t.rows := by
  unfold Tab.row
  rw [List.getD_eq_getElem?_getD]
  cases e : t.rows[f]? with
  | none => exact h0
  | some r => exact List.mem_of_getElem? e
theorem Tab.funD (c : He.SaysD [] (t.rows.map (·.d)) K) {r : Row} (hr : r ∈ t.rows) : ∃ (oc : Value) (od : Option Addr) (dV kV doc pm : Value) (an : Option Addr) (cdv ct : Value) (osl : Array (Option Value)),
    K.lookup (He.fAd K r.d.at_) = some ⟨oc, od, .func (PySem.W.fnOf r.d.name r.d.qual r.d.params r.d.body r.d.scope dV kV doc pm an cdv ct), osl⟩ ∧ PySem.W.codeIn K cdv r.d.qual = true ∧ PySem.W.keepIn K (.ref (He.fAd K r.d.at_)) = true ∧ DflV K dV (r.d.dvs K) ∧ KwdV K kV (r.d.kws K) := by
  obtain ⟨i, hi⟩ := List.mem_iff_getElem?.mp hr
  obtain ⟨fd, F⟩ := c.def_ i (d := r.d) (by rw [List.getElem?_map, hi]; rfl)
  obtain ⟨oc, od, dV, kV, doc, pm, an, cdv, ct, osl, rfl, lk, hcd, hD, hK⟩ := F.ex
  exact ⟨oc, od, dV, kV, doc, pm, an, cdv, ct, osl, lk, hcd, F.kp, hD, hK⟩
theorem dfl_none {d : He.DefD} (hd : d.dfl = []) {dV : Value} (h : DflV K dV (d.dvs K)) : dV = .none := by
  have e : d.dvs K = [] := by unfold He.DefD.dvs; rw [hd]; rfl
  rcases h with ⟨_, rfl⟩ | ⟨e', _⟩
  · rfl
  · exact absurd e e'
theorem KwOk.kwb {r : Row} {n : Nat} {ks : List Str} {p : List PA} (ok : KwOk r n ks p) {dV kV doc pm : Value} {an : Option Addr} {cdv ct : Value} (h : DflV K dV (r.d.dvs K)) (h2 : KwdV K kV (r.d.kws K)) :
    KwB K (PySem.W.fnOf r.d.name r.d.qual r.d.params r.d.body r.d.scope dV kV doc pm an cdv ct) r.ps n ks p := by
  obtain rfl := dfl_none ok.dfl h
  rcases ok.bd with ⟨e, hb⟩ | ⟨e, ms, m1, m2, hb⟩
  · refine ⟨[], fun j i hm => ?_, fun s us ws _ h1 h2 => .of_eq (hb kV doc pm an cdv ct us ws h1 h2)⟩
    obtain ⟨_, q⟩ := e _ hm
    cases q
  · rcases h2 with e' | ⟨A, rfl, hq⟩
    · exact absurd (List.map_eq_nil_iff.mp e') e
    · obtain ⟨mv, hl, rv, hks⟩ := kwd_vals (K := K) (D := A) (ms := ms.map fun q => (q.1, litV q.2)) fun q hm => by
        obtain ⟨z, hz, rfl⟩ := List.mem_map.mp hm
        refine hq _ ?_
        unfold He.DefD.kws
        exact List.mem_map.mpr ⟨_, m1 z hz, by rw [dvOf_v]⟩
      rw [List.length_map] at hl
      rw [List.map_map] at rv
      refine ⟨mv, fun j i hm => ?_, fun s us ws kin h1 h2 => ?_⟩
      · refine rv.get ?_
        have q := m2 j i hm
        rw [List.getElem?_map] at q ⊢
        obtain ⟨z, e1, e2⟩ := Option.map_eq_some_iff.mp q
        rw [e1]
        exact congrArg (fun t => some (litV t)) e2
      · refine BindsTo.of_looks fun M => KwChain.looks kin (fun q hqm => hks q ?_) (hb A doc pm an cdv ct us mv ws h1 hl h2)
        rw [List.map_map]
        exact hqm
theorem fdOf_lk {a : Addr} {oc : Value} {od : Option Addr} {fd d0 : FuncData} {osl : Array (Option Value)} (lk : K.lookup a = some ⟨oc, od, .func fd, osl⟩) : fdOf K a d0 = fd := by
  unfold fdOf
  rw [lk]
theorem all_of {α : Type} {l : List α} {p : α → Bool} (h : l.all p = true) {x : α} (hx : x ∈ l) : p x = true := List.all_eq_true.mp h x hx
theorem lookup_mem {α β : Type} [BEq α] [LawfulBEq α] : ∀ {l : List (α × β)} {a : α} {b : β}, l.lookup a = some b → (a, b) ∈ l
  | (c, d) :: l, a, b, h => by
    rw [List.lookup_cons] at h
    cases e : a == c with
    | true => rw [e] at h; cases h; rw [beq_iff_eq] at e; subst e; exact List.mem_cons_self
    | false => rw [e] at h; exact List.mem_cons_of_mem _ (lookup_mem h)

def Tab.xdD (t : Tab) : XD := ⟨"", "", t.r0.d.params, [], t.r0.d.scope, "", "", ""⟩
theorem Tab.fkP (hok : t.ok = true) (hx : ∀ x ∈ t.xl, x.Ok ∧ x.Bd) (hfile : P.main.file = t.file) (htop : (P.main.scope.names.lookup ("super" : Str)).isSome = false) (ev : t.xl.map (XD.fw K) = t.xl.map XD.val) (hrow : ∀ r ∈ t.rows, r.ok) (hkw : ∀ q ∈ t.pats, KwOk (t.row q.1) q.2.1 q.2.2.1 q.2.2.2) (h0 : t.r0 ∈ t.rows) (X : K.In h) (Gn : h.Ns mainGlobals mg) (c : He.SaysD [] (t.rows.map (·.d)) K) (hex : t.ex K = true) (d0 : FuncData) : ∃ fk : Fk t.tbl (t.glo P w K mg base) t.pg, fk.fa = (fun f => He.fAd K (t.row f).d.at_) ∧ fk.fd = (fun f => fdOf K (He.fAd K (t.row f).d.at_) d0) ∧ fk.ps = (fun f => (t.row f).ps) := by
  unfold Tab.ex at hex
  simp only [Bool.and_eq_true, decide_eq_true_eq] at hex
  obtain ⟨e0, x1, x2, e1, e2, e3, e4, e5, e6, em, e7, e8, e9, e10⟩ := hex
  unfold Tab.ok at hok
  simp only [Bool.and_eq_true, decide_eq_true_eq] at hok
  obtain ⟨k1, k2, n1, n2, n3, k3, k4⟩ := hok
  have dfl : ∀ r ∈ t.rows, r.po = true → r.d.dfl = [] := fun r hr hpo => by
    have := all_of k4 hr
    simp only [Bool.and_eq_true, decide_eq_true_eq] at this
    have q := this.1.2.1
    rw [hpo] at q
    exact List.isEmpty_iff.mp q
  have xget : ∀ c, t.tbl.xv c = true → ∃ x, (c, x) ∈ t.xs ∧ x ∈ t.xl ∧ t.xn c = x.cls ∧ t.xt c = x.att ∧ (t.xs.lookup c).getD t.xdD = x := fun c hv => by
    have hv : (t.xs.lookup c).isSome = true := hv
    cases e : t.xs.lookup c with
    | none => rw [e] at hv; cases hv
    | some x =>
      have hm := lookup_mem e
      refine ⟨x, hm, List.mem_map_of_mem (f := Prod.snd) hm, ?_, ?_, rfl⟩
      · unfold Tab.xn; rw [e]
      · unfold Tab.xt; rw [e]
  have xfw : ∀ x ∈ t.xl, x.fw K = x.val := fun x hxm => by
    obtain ⟨i, hi⟩ := List.mem_iff_getElem?.mp hxm
    have := congrArg (fun l : List He.FnW => l[i]?) ev
    simpa [List.getElem?_map, hi] using this
  have xcx : ∀ x : XD, x ∈ t.xl → ∃ fd, Xc P K mg x (He.ga K x.cls) (He.ma K (He.ga K x.cls) "__init__") fd ∧ (∀ us : List Value, us.length = 2 → bindArgs fd ⟨us, []⟩ = pure ([x.me, x.par].zip us)) ∧ mg x.cls = some (.ref (He.ga K x.cls)) ∧ XfC K (He.ga K x.cls) := fun x hxm =>
    XD.xc (hx x hxm).2 hfile htop X Gn (xfw x hxm) (all_of x1 hxm)
  have cc : ∀ cl, t.tbl.vc cl = true → t.exC K cl = true := fun cl hv => all_of e4 (by simpa [Tab.tbl] using hv)
  have ccc : ∀ cl dl, t.tbl.vc cl = true → t.tbl.vc dl = true → t.exCC K cl dl = true := fun cl dl h1 h2 => all_of (all_of e5 (by simpa [Tab.tbl] using h1)) (by simpa [Tab.tbl] using h2)
  refine ⟨{
    fa := fun f => He.fAd K (t.row f).d.at_
    fd := fun f => fdOf K (He.fAd K (t.row f).d.at_) d0
    xd := fun c => (t.xs.lookup c).getD t.xdD
    xf := fun c => He.ma K (He.ga K (t.xn c)) "__init__"
    xfd := fun c => fdOf K (He.ma K (He.ga K (t.xn c)) "__init__") d0
    xcx := fun c hv => ?_
    xok := fun c hv => ?_
    xbd := fun c hv us hl => ?_
    xnm := fun c hv => ?_
    xat := fun c hv => ?_
    xtt := rfl
    xvv := rfl
    xrd := fun c hv => ?_
    xis := fun c e h1 h2 => ?_
    ps := fun f => (t.row f).ps
    sm := by
      show ∃ o, K.lookup sysModules = some o ∧ o.cls = .type "dict"
      unfold smOk at e0
      split at e0
      · exact ⟨_, by assumption, of_decide_eq_true e0⟩
      · cases e0
    gi := fun x i hm => He.int_ok X Gn (all_of e1 hm)
    gs := fun x z hm => He.str_ok X Gn (all_of e2 hm)
    bl := fun x hx => He.free_ok X Gn (all_of e3 hx)
    att := rfl
    va := rfl
    vc := rfl
    cls := fun cl hv => ?_
    gc := fun cl hv => ?_
    isT := fun cl hv n hn => ?_
    isC := fun cl hv n hn => ?_
    isCC := fun cl dl h1 h2 => ?_
    insA := fun cl hv => ?_
    insM := fun cl hv => ?_
    insG := e9
    insT := e10
    mkk := fun cl hm => ?_
    mkv := fun cl hm => ?_
    eqK := fun cl f he => ?_
    nfT := fun cl hv n hn => ?_
    nfC := fun cl dl h1 h2 => ?_
    soK := fun cl hv => ?_
    mgf := fun f hf => ?_
    kpf := fun f hf => ?_
    bnd := fun f hpo us hl => ?_
    eqP := fun c f he => all_of n1 (lookup_mem he)
    ini := fun c => rfl
    kwb := fun f n ks p hm => ?_
    mth := fun cl m f he => ?_
    mna := fun m a hv ha => ?_
    psl := fun f => rfl
    np := fun f fi he => ?_
    noa := fun cl f hv ha => ?_
    inj := fun f g hf hg he => ?_ }, rfl, rfl, rfl⟩
  · have := cc cl hv
    unfold Tab.exC at this
    simp only [Bool.and_eq_true, decide_eq_true_eq] at this
    exact He.cls_ok this.2.1
  · have := cc cl hv
    unfold Tab.exC at this
    simp only [Bool.and_eq_true, decide_eq_true_eq] at this
    exact He.glo_ok X Gn this.1
  · have := cc cl hv
    unfold Tab.exC at this
    simp only [Bool.and_eq_true, decide_eq_true_eq] at this
    exact of_decide_eq_true (all_of this.2.2.2.1 hn)
  · have := cc cl hv
    unfold Tab.exC at this
    simp only [Bool.and_eq_true, decide_eq_true_eq] at this
    refine of_decide_eq_true (all_of this.2.2.2.2.1 (x := n) ?_)
    unfold tyNames2
    exact hn
  · have := ccc cl dl h1 h2
    unfold Tab.exCC at this
    simp only [Bool.and_eq_true, decide_eq_true_eq] at this
    exact this.1
  · have := cc cl hv
    unfold Tab.exC at this
    simp only [Bool.and_eq_true, decide_eq_true_eq] at this
    exact this.2.2.2.2.2.2.1
  · have := cc cl hv
    unfold Tab.exC at this
    simp only [Bool.and_eq_true, decide_eq_true_eq] at this
    exact this.2.2.2.2.2.2.2.1
  · have q := all_of e6 (lookup_mem he)
    unfold Tab.exEq at q
    simp only [Bool.and_eq_true, decide_eq_true_eq] at q
    exact ⟨q.1, q.2.1, q.2.2⟩
  · have := cc cl hv
    unfold Tab.exC at this
    simp only [Bool.and_eq_true, decide_eq_true_eq] at this
    refine all_of this.2.2.2.2.2.1 (x := n) ?_
    unfold tyNames2
    exact hn
  · have := ccc cl dl h1 h2
    unfold Tab.exCC at this
    simp only [Bool.and_eq_true, decide_eq_true_eq] at this
    exact this.2
  · have := cc cl hv
    unfold Tab.exC at this
    simp only [Bool.and_eq_true, decide_eq_true_eq] at this
    exact this.2.2.2.2.2.2.2.2
  · have hm' : cl ∈ t.mks.map (·.1) := by simpa [Tab.tbl] using hm
    obtain ⟨p, hp, rfl⟩ := List.mem_map.mp hm'
    have q := all_of k1 hp
    simp only [Bool.and_eq_true, decide_eq_true_eq] at q
    have mk := He.mkr_ok (all_of e7 hp)
    have ea : He.fAd K (t.row ((t.mks.lookup p.1).getD 0)).d.at_ = He.ma K (He.ga K (t.cnm.getD p.1 "")) "__init__" := by
      cases el : t.mks.lookup p.1 with
      | none => rw [el] at q; exact absurd q.2 (by simp)
      | some f =>
        rw [el] at q
        have this : (t.row f).d.at_ = (t.cnm.getD p.1 "", some ("__init__" : Str)) := Option.some.inj q.2
        rw [Option.getD_some, this]
        rfl
    show Mk K (He.ga K (t.cnm.getD p.1 "")) (He.fAd K (t.row ((t.mks.lookup p.1).getD 0)).d.at_)
    rw [ea]
    exact mk
  · have hm' : cl ∈ t.mks.map (·.1) := by simpa [Tab.tbl] using hm
    obtain ⟨p, hp, rfl⟩ := List.mem_map.mp hm'
    have q := all_of k1 hp
    simp only [Bool.and_eq_true, decide_eq_true_eq] at q
    exact q.1
  · have hf' : f ∈ t.isf := by simpa [Tab.tbl] using hf
    have q := of_decide_eq_true (all_of k2 hf')
    have := He.glo_ok X Gn (all_of e8 hf')
    show mg (t.row f).d.name = some (.ref (He.fAd K (t.row f).d.at_))
    rw [q]
    exact this
  · obtain ⟨_, _, _, _, _, _, _, _, _, _, _, _, kp, _⟩ := Tab.funD c (Tab.row_mem h0 f)
    exact kp
  · obtain ⟨oc, od, dV, kV, doc, pm, an, cdv, ct, osl, lk, hcd, kp, hD, hK⟩ := Tab.funD c (Tab.row_mem h0 f)
    show bindArgs (fdOf K (He.fAd K (t.row f).d.at_) d0) ⟨us, []⟩ = pure ((t.row f).ps.zip us)
    rw [fdOf_lk lk]
    obtain rfl := dfl_none (dfl _ (Tab.row_mem h0 f) hpo) hD
    exact (hrow _ (Tab.row_mem h0 f)).bd hpo kV doc pm an cdv ct us hl
  · obtain ⟨oc, od, dV, kV, doc, pm, an, cdv, ct, osl, lk, hcd, kp, hD, hK⟩ := Tab.funD c (Tab.row_mem h0 f)
    show KwB K (fdOf K (He.fAd K (t.row f).d.at_) d0) (t.row f).ps n ks p
    rw [fdOf_lk lk]
    exact (hkw (f, n, ks, p) hm).kwb hD hK
  · have q := all_of em (lookup_mem he)
    unfold Tab.exMe at q
    simp only [Bool.and_eq_true, decide_eq_true_eq] at q
    obtain ⟨_, _, _, _, _, _, _, _, _, _, _, _, kp, _⟩ := Tab.funD c (Tab.row_mem h0 f)
    exact ⟨⟨q.1, q.2, kp⟩, all_of n2 (lookup_mem he)⟩
  · have ha' : a < t.att.length := of_decide_eq_true ha
    have hv' : m < t.mnm.length := of_decide_eq_true hv
    have hma : t.att.getD a "" ∈ t.att := by
      rw [List.getD_eq_getElem?_getD, List.getElem?_eq_getElem ha']
      exact List.getElem_mem _
    have hmm : t.mnm.getD m "" ∈ t.mnm := by
      rw [List.getD_eq_getElem?_getD, List.getElem?_eq_getElem hv']
      exact List.getElem_mem _
    exact of_decide_eq_true (all_of (all_of n3 hma) hmm)
  · have he : (t.rows[f]?).map (·.fi) = some fi := he
    obtain ⟨r, e, rfl⟩ := Option.map_eq_some_iff.mp he
    have q := all_of k4 (List.mem_of_getElem? e)
    simp only [Bool.and_eq_true, decide_eq_true_eq] at q
    show r.fi.np = (t.row f).ps.length
    unfold Tab.row
    rw [List.getD_eq_getElem?_getD, e]
    exact q.1.1
  · have := cc cl hv
    unfold Tab.exC at this
    simp only [Bool.and_eq_true, decide_eq_true_eq] at this
    have ha' : f < t.att.length := of_decide_eq_true ha
    have hm : t.att.getD f "" ∈ t.att := by
      rw [List.getD_eq_getElem?_getD, List.getElem?_eq_getElem ha']
      exact List.getElem_mem _
    exact He.noat_ok (all_of this.2.2.1 hm)
  · have hf' : f < t.att.length := of_decide_eq_true hf
    have hg' : g < t.att.length := of_decide_eq_true hg
    exact of_decide_eq_true (all_of (all_of k3 (List.mem_range.mpr hf')) (List.mem_range.mpr hg')) he
  · obtain ⟨x, g1, g2, g3, g4, g5⟩ := xget c hv
    obtain ⟨fd, y, yb, _⟩ := xcx x g2
    obtain ⟨nm, cda, cc2, dV, kV, doc, pm, ct, oc, an, od, osl, _, lk, _⟩ := y.fn
    show Xc P K mg ((t.xs.lookup c).getD t.xdD) (He.ga K (t.xn c)) (He.ma K (He.ga K (t.xn c)) "__init__") (fdOf K (He.ma K (He.ga K (t.xn c)) "__init__") d0)
    rw [g5, g3, fdOf_lk lk]
    exact y
  · obtain ⟨x, g1, g2, g3, g4, g5⟩ := xget c hv
    show ((t.xs.lookup c).getD t.xdD).Ok
    rw [g5]
    exact (hx x g2).1
  · obtain ⟨x, g1, g2, g3, g4, g5⟩ := xget c hv
    obtain ⟨fd, y, yb, _⟩ := xcx x g2
    obtain ⟨nm, cda, cc2, dV, kV, doc, pm, ct, oc, an, od, osl, _, lk, _⟩ := y.fn
    show bindArgs (fdOf K (He.ma K (He.ga K (t.xn c)) "__init__") d0) ⟨us, []⟩ = pure ([((t.xs.lookup c).getD t.xdD).me, ((t.xs.lookup c).getD t.xdD).par].zip us)
    rw [g5, g3, fdOf_lk lk]
    exact yb us hl
  · obtain ⟨x, g1, g2, g3, g4, g5⟩ := xget c hv
    obtain ⟨fd, y, yb, ym, _⟩ := xcx x g2
    show mg (t.xn c) = some (.ref (He.ga K (t.xn c)))
    rw [g3]
    exact ym
  · obtain ⟨x, g1, g2, g3, g4, g5⟩ := xget c hv
    show ((t.xs.lookup c).getD t.xdD).att = t.xt c
    rw [g5, g4]
  · obtain ⟨x, g1, g2, g3, g4, g5⟩ := xget c hv
    obtain ⟨fd, y, yb, ym, yr⟩ := xcx x g2
    show XfC K (He.ga K (t.xn c))
    rw [g3]
    exact yr
  · obtain ⟨x, g1, g2, g3, g4, g5⟩ := xget c h1
    obtain ⟨y, f1, f2, f3, f4, f5⟩ := xget e h2
    show PySem.W.exmOne K (.ref (He.ga K (t.xn c))) (.ref (He.ga K (t.xn e))) = some (c == e)
    rw [g3, f3]
    exact of_decide_eq_true (all_of (all_of x2 g1) f1)

theorem Tab.fnF (hok : t.ok = true) (hrow : ∀ r ∈ t.rows, r.ok) (c : He.SaysD [] (t.rows.map (·.d)) K) {d0 : FuncData} {fk : Fk t.tbl (t.glo P w K mg base) t.pg} (ea : fk.fa = (fun f => He.fAd K (t.row f).d.at_)) (ed : fk.fd = (fun f => fdOf K (He.fAd K (t.row f).d.at_) d0)) (ep : fk.ps = (fun f => (t.row f).ps)) :
    ∀ f fi, t.pg.fn f = some fi → FnF t.tbl (t.glo P w K mg base) t.pg fk f fi := by
  intro f fi he
  unfold Tab.ok at hok
  simp only [Bool.and_eq_true, decide_eq_true_eq] at hok
  obtain ⟨k1, k2, n1, n2, n3, k3, k4⟩ := hok
  have he : (t.rows[f]?).map (·.fi) = some fi := he
  obtain ⟨r, e, rfl⟩ := Option.map_eq_some_iff.mp he
  have hr := List.mem_of_getElem? e
  have er : t.row f = r := by
    unfold Tab.row
    rw [List.getD_eq_getElem?_getD, e]
    rfl
  have q := all_of k4 hr
  simp only [Bool.and_eq_true, decide_eq_true_eq] at q
  obtain ⟨⟨q1, q2, q3⟩, q4⟩ := q
  obtain ⟨oc, od, dV, kV, doc, pm, an, cdv, ct, osl, lk, hcd, kp, _⟩ := Tab.funD c hr
  refine ⟨?_, r.d.name, r.d.qual, r.d.params, r.d.body, r.d.scope, dV, kV, doc, pm, cdv, ct, oc, an, od, osl, r.N, ?_, ?_, hcd, ?_, q4, q3⟩
  · rw [q1]
    show _ = (t.row f).ps.length
    rw [er]
  · rw [ed]
    show fdOf K (He.fAd K (t.row f).d.at_) d0 = _
    rw [er]
    exact fdOf_lk lk
  · rw [ea, ed]
    show K.lookup (He.fAd K (t.row f).d.at_) = some ⟨oc, od, .func (fdOf K (He.fAd K (t.row f).d.at_) d0), osl⟩
    rw [er, fdOf_lk lk]
    exact lk
  · rw [ep]
    show FnScope r.N (t.row f).ps r.d.scope
    rw [er]
    exact (hrow r hr).sc

/-- THE RULE: a law by its interpreted text -/
theorem Tab.walk {l : PySem.W.OpenLaw} {n k L : Nat} {q : Program} {loose : List Str} {XP : (Str → Option Value) → Heap → Prop} {YP : World → Heap → Prop} {d : DefRec} {x : Str}
    (hn : l.most = some n) (hn2 : n ≤ sizeLine) (hdf : d.params.defaults = []) (hr : Room (2 * k) callerA) (hY : ∀ w h, YP w h → ∃ K : PySem.W.Frag, K.In h ∧ He.SaysD [] (t.rows.map (·.d)) K ∧ t.xl.map (XD.fw K) = t.xl.map XD.val ∧ t.ex K = true) (hx : ∀ x ∈ t.xl, x.Ok ∧ x.Bd) (hfile : l.prog.main.file = t.file) (htop : (l.prog.main.scope.names.lookup ("super" : Str)).isSome = false)
    (hok : t.ok = true) (hrow : ∀ r ∈ t.rows, r.ok) (hkw : ∀ q ∈ t.pats, KwOk (t.row q.1) q.2.1 q.2.2.1 q.2.2.2) (h0 : t.r0 ∈ t.rows) (hL : L ∈ t.isf) (hpo : (t.row L).po = true) (hname : (t.row L).d.name = d.name) (hps : (t.row L).ps = [x])
    (hrun : ∀ ns : List Int, ns.length ≤ n → ∃ μ', callI t.pg k L [.ro (ns.map .int)] [] = .ok (.bl true) μ') :
    PySem.W.WalkO q loose XP YP l.row.toRowW d [] (fun f vs => PySem.call f vs) := by
  refine Att.attach_call hn hdf fun w s₀ s₁ mg mb fa o pm cd doc a vs ns G Y ho hd hcd hmg hobj hints hlen hg => ?_
  obtain ⟨K, KX, c, ev, hex⟩ := hY w _ Y
  have d0 : FuncData := PySem.W.fnOf "" "" d.params [] d.scope .none .none .none .none none .none .none
  refine law_callG KX G.T.g G.T.b G.T.builtins G.T.nolimit hg hobj hints (Nat.le_trans hlen hn2) fun base H hKb hnsb hO hS e0 => ?_
  obtain ⟨fk, ea, ed, ep⟩ := Tab.fkP (P := l.prog) (w := w) (base := base) hok hx hfile htop ev hrow hkw h0 hKb hnsb c hex d0
  have hf := Tab.fnF (P := l.prog) (w := w) (mg := mg) (base := base) hok hrow c ea ed ep
  have efa : fk.fa L = fa := by
    have h1 := fk.mgf L (by simpa [Tab.tbl] using hL)
    have h1 : mg (t.row L).d.name = some (.ref (fk.fa L)) := h1
    rw [hname, hmg] at h1
    cases h1
    rfl
  obtain ⟨μ', hrun⟩ := hrun ns hlen
  have := law_end (G := t.glo l.prog w K mg base) hf (L := L) (x := x) (by rw [ep]; exact hps) hpo hr H hO hS e0 hrun
  rw [efa] at this
  exact this
end
end T
end

section
namespace T
open PySem PySem.Spec L2
/-! ### rewriting: the interpreter at known values -/
section
variable {α β : Type} {a : α} {x : Exn} {μ : Store}
@[simp] theorem ok_bind {f : α → Store → Res β} : (Res.ok a μ).bind f = f a μ := rfl
@[simp] theorem bad_bind {f : α → Store → Res β} : (Res.bad : Res α).bind f = .bad := rfl
@[simp] theorem of_some : Res.of (some a) μ = .ok a μ := rfl
@[simp] theorem of_none : Res.of (none : Option α) μ = .bad := rfl
@[simp] theorem ok_st {σ : Slots} {f : α → Store → SR} : (Res.ok a μ).st σ f = f a μ := rfl
@[simp] theorem next_bind {σ : Slots} {f : Slots → Store → SR} : (SR.next σ μ).bind f = f σ μ := rfl
@[simp] theorem ret_bind {d : D} {f : Slots → Store → SR} : (SR.ret d μ).bind f = .ret d μ := rfl
@[simp] theorem ofS_some {σ : Slots} : SR.ofS (some σ) μ = .next σ μ := rfl
@[simp] theorem ok_tst {d : D} : (Res.ok d μ).tst = Res.of (truthyD μ d) μ := rfl
@[simp] theorem ok_nox : (Res.ok a μ).nox = .ok a μ := rfl
end
section
variable {μ : Store} {i j : Int} {b : Bool} {d e : D} {n : Nat} {ds : List D} {σ : Slots}
@[simp] theorem tr_bl : truthyD μ (.bl b) = some b := rfl
@[simp] theorem tr_int : truthyD μ (.int i) = some (i != 0) := rfl
@[simp] theorem cmp_lt : cmpD μ .Lt (.int i) (.int j) = some (decide (i < j)) := rfl
@[simp] theorem cmp_le : cmpD μ .LtE (.int i) (.int j) = some (decide (i ≤ j)) := rfl
@[simp] theorem cmp_gt : cmpD μ .Gt (.int i) (.int j) = some (decide (j < i)) := rfl
@[simp] theorem cmp_ge : cmpD μ .GtE (.int i) (.int j) = some (decide (j ≤ i)) := rfl
@[simp] theorem cmp_eqi : cmpD μ .Eq (.int i) (.int j) = some (decide (i = j)) := rfl
@[simp] theorem cmp_eqb {c : Bool} : cmpD μ .Eq (.bl b) (.bl c) = some (b == c) := rfl
@[simp] theorem cmp_neb {c : Bool} : cmpD μ .NotEq (.bl b) (.bl c) = some (!(b == c)) := rfl
@[simp] theorem cmp_eqs {x y : Str} : cmpD μ .Eq (.str x) (.str y) = some (decide (x = y)) := rfl
@[simp] theorem bin_add : binD .Add (.int i) (.int j) = some (.int (i + j)) := rfl
@[simp] theorem bin_sub : binD .Sub (.int i) (.int j) = some (.int (i - j)) := rfl
theorem bin_mul (h : mulOk i j = true) : binD .Mult (.int i) (.int j) = some (.int (i * j)) := by show (if mulOk i j = true then _ else _) = _; rw [if_pos h]
theorem bin_mod (h : j ≠ 0) : binD .Mod (.int i) (.int j) = some (.int (i.fmod j)) := by show (if j ≠ 0 then _ else _) = _; rw [if_pos h]
theorem bin_div (h : divOk i j = true) : binD .FloorDiv (.int i) (.int j) = some (.int (i.fdiv j)) := by show (if divOk i j = true then _ else _) = _; rw [if_pos h]
theorem bin_pow (h : powOk i j = true) : binD .Pow (.int i) (.int j) = some (.int (i ^ j.toNat)) := by show (if powOk i j = true then _ else _) = _; rw [if_pos h]
theorem bin_tup {es : List D} (h : ds.length + es.length ≤ sizeLine) : binD .Add (.tup ds) (.tup es) = some (.tup (ds ++ es)) := by show (if _ then _ else _) = _; rw [if_pos h]
@[simp] theorem ix_ref : ixD μ (.ref n) (.int i) = match lview μ (.ref n) with | some ds => atI ds i | none => none := rfl
@[simp] theorem ix_tup : ixD μ (.tup ds) (.int i) = atI ds i := rfl
@[simp] theorem ix_lst : ixD μ (.lst ds) (.int i) = atI ds i := rfl
@[simp] theorem ix_ro : ixD μ (.ro ds) (.int i) = atI ds i := rfl
theorem lv_ref (h : μ[n]? = some (.lst ds)) : lview μ (.ref n) = some ds := by show (match μ[n]? with | some (.lst ds) => some ds | _ => none) = _; rw [h]
@[simp] theorem bi_int : biD μ .int [.int i] = some (.int i) := rfl
@[simp] theorem bi_intb : biD μ .int [.bl b] = some (.int (if b then 1 else 0)) := rfl
@[simp] theorem bi_abs : biD μ .abs [.int i] = some (.int (if i < 0 then -i else i)) := rfl
@[simp] theorem bi_lent : biD μ .len [.tup ds] = some (.int ds.length) := rfl
@[simp] theorem bi_lenl : biD μ .len [.lst ds] = some (.int ds.length) := rfl
@[simp] theorem bi_lenr : biD μ .len [.ro ds] = some (.int ds.length) := rfl
@[simp] theorem bi_tupl : biD μ .tuple [.lst ds] = some (.tup ds) := rfl
@[simp] theorem bi_tupt : biD μ .tuple [.tup ds] = some (.tup ds) := rfl
@[simp] theorem bi_max2 : biD μ .max2 [.int i, .int j] = some (.int (if j > i then j else i)) := rfl
@[simp] theorem bi_min2 : biD μ .min2 [.int i, .int j] = some (.int (if j < i then j else i)) := rfl
@[simp] theorem at_3_0 {x y z : D} : atI [x, y, z] 0 = some x := rfl
@[simp] theorem at_3_1 {x y z : D} : atI [x, y, z] 1 = some y := rfl
@[simp] theorem at_3_2 {x y z : D} : atI [x, y, z] 2 = some z := rfl
@[simp] theorem set_3_0 {x y z : D} : setIx [x, y, z] 0 d = some [d, y, z] := rfl
@[simp] theorem set_3_2 {x y z : D} : setIx [x, y, z] 2 d = some [x, y, d] := rfl
theorem bindT_v {i : Nat} (h : i < σ.length) : bindT (.v i) d σ = some (σ.set i (.val d)) := by show (if i < σ.length then _ else _) = _; rw [if_pos h]
end
theorem runF_ret {pg : Pg} {cf : CF} {n np : Nat} {b : IB} {ds : List D} {μ μ' : Store} {σ : Slots} {d : D} (h : ds.length = np) (hs : ds.map .val ++ List.replicate (n - np) .emp = σ) (e : evB pg cf b σ μ = .ret d μ') : runF pg cf ⟨n, np, b⟩ ds μ = .ok d μ' := by
  subst hs
  unfold runF
  rw [if_pos h, e]
theorem runF_next {pg : Pg} {cf : CF} {n np : Nat} {b : IB} {ds : List D} {μ μ' : Store} {σ σ' : Slots} (h : ds.length = np) (hs : ds.map .val ++ List.replicate (n - np) .emp = σ) (e : evB pg cf b σ μ = .next σ' μ') : runF pg cf ⟨n, np, b⟩ ds μ = .ok .non μ' := by
  subst hs
  unfold runF
  rw [if_pos h, e]
end T
end

section
namespace T
open PySem PySem.Spec L2
/-! ### texts of data tell the data -/
/-- the two texts part, whatever stop follows -/
def apart : List Nat → List Nat → Bool
  | [], [] => false
  | [], c :: _ => c != 44 && c != 41 && c != 93
  | c :: _, [] => c != 44 && c != 41 && c != 93
  | c :: a, d :: b => c != d || apart a b
def Stop (u : List Nat) : Prop := ∃ c r, u = c :: r ∧ (c = 44 ∨ c = 41 ∨ c = 93)
theorem apart_ne : ∀ (a b u v : List Nat), apart a b = true → Stop u → Stop v → a ++ u ≠ b ++ v
  | [], [], _, _, h, _, _ => by simp [apart] at h
  | [], c :: b, u, v, h, ⟨x, r, e, o⟩, _ => by
    subst e
    simp only [apart, Bool.and_eq_true, bne_iff_ne, ne_eq] at h
    intro e
    rw [List.nil_append, List.cons_append] at e
    injection e with e1 e2
    omega
  | c :: a, [], u, v, h, _, ⟨x, r, e, o⟩ => by
    subst e
    simp only [apart, Bool.and_eq_true, bne_iff_ne, ne_eq] at h
    intro e
    rw [List.nil_append, List.cons_append] at e
    injection e with e1 e2
    omega
  | c :: a, d :: b, u, v, h, hu, hv => by
    intro e
    rw [List.cons_append, List.cons_append] at e
    injection e with e1 e2
    simp only [apart, Bool.or_eq_true, bne_iff_ne, ne_eq] at h
    rcases h with h | h
    · exact h e1
    · exact apart_ne a b u v h hu hv e2
def cp (x : PyData) : List Nat := x.shown.cps.toList
def atEq : PyData → PyData → Bool
  | .none, .none => true
  | .bool a, .bool b => a == b
  | .int i, .int j => i == j
  | .str x, .str y => x == y
  | _, _ => false
theorem atEq_eq : ∀ x y : PyData, atEq x y = true → x = y
  | .none, y, h => by cases y <;> simp_all [atEq]
  | .bool _, y, h => by cases y <;> simp_all [atEq]
  | .int _, y, h => by cases y <;> simp_all [atEq]
  | .str _, y, h => by cases y <;> simp_all [atEq]
  | .list _, y, h => by cases y <;> simp_all [atEq]
  | .tuple _, y, h => by cases y <;> simp_all [atEq]
  | .dict _, y, h => by cases y <;> simp_all [atEq]
/-- a text's first sign is no bracket -/
def plainHd : List Nat → Bool
  | [] => false
  | c :: _ => c != 44 && c != 41 && c != 93 && c != 40 && c != 91
/-- what a set of atoms has to keep -/
def okA (A : List PyData) : Bool := A.all fun x => plainHd (cp x) && A.all fun y => atEq x y || apart (cp x) (cp y)

/-- data of these atoms, tuples and lists -/
inductive Gen (A : List PyData) : PyData → Prop
  | at {x : PyData} (h : x ∈ A) : Gen A x
  | tup {xs : List PyData} (h : ∀ x ∈ xs, Gen A x) : Gen A (.tuple xs)
  | lst {xs : List PyData} (h : ∀ x ∈ xs, Gen A x) : Gen A (.list xs)

/-- the items behind the first one -/
def restT : List PyData → List Nat
  | [] => []
  | x :: xs => 44 :: 32 :: (cp x ++ restT xs)
theorem cps_append (a b : Str) : (a ++ b).cps.toList = a.cps.toList ++ b.cps.toList := by
  show (a.cps ++ b.cps).toList = _
  simp
theorem join_rest : ∀ (x : PyData) (xs : List PyData), (Str.join ", " (PyData.shownAll (x :: xs))).cps.toList = cp x ++ restT xs
  | x, [] => by
    simp only [PyData.shownAll, Str.join, restT, List.append_nil]
    rfl
  | x, y :: ys => by
    have ih := join_rest y ys
    simp only [PyData.shownAll] at ih ⊢
    simp only [Str.join]
    rw [cps_append, cps_append, ih]
    simp only [restT]
    show cp x ++ [44, 32] ++ (cp y ++ restT ys) = _
    simp
theorem shownAll_length : ∀ xs : List PyData, (PyData.shownAll xs).length = xs.length
  | [] => by simp [PyData.shownAll]
  | x :: xs => by simp [PyData.shownAll, shownAll_length xs]
theorem cp_tup0 : cp (.tuple []) = [40, 41] := by decide +kernel
theorem cp_tup1 (x : PyData) : cp (.tuple [x]) = 40 :: (cp x ++ [44, 41]) := by
  unfold cp
  simp only [PyData.shown]
  unfold tupleText
  rw [cps_append, cps_append, join_rest]
  simp only [PyData.shownAll, restT, List.append_nil, List.length_cons, List.length_nil]
  rfl
theorem cp_tup2 (x y : PyData) (xs : List PyData) : cp (.tuple (x :: y :: xs)) = 40 :: (cp x ++ (restT (y :: xs) ++ [41])) := by
  unfold cp
  simp only [PyData.shown]
  unfold tupleText
  rw [cps_append, cps_append, join_rest]
  have : ((PyData.shownAll (x :: y :: xs)).length == 1) = false := by simp [PyData.shownAll]
  rw [this]
  show [40] ++ (x.shown.cps.toList ++ restT (y :: xs)) ++ [41] = _
  simp
theorem textFrom_cps : ∀ (k : Nat) (acc : Str) (xs : List PyData), 0 < k → (textFrom k acc (PyData.shownAll xs)).cps.toList = acc.cps.toList ++ restT xs
  | k, acc, [], _ => by simp [PyData.shownAll, textFrom, restT]
  | k, acc, x :: xs, h => by
    simp only [PyData.shownAll, textFrom]
    rw [textFrom_cps (k + 1) _ xs (Nat.succ_pos k), cps_append, cps_append, if_pos h]
    simp only [restT]
    show acc.cps.toList ++ [44, 32] ++ cp x ++ _ = _
    simp
theorem cp_lst0 : cp (.list []) = [91, 93] := by decide +kernel
theorem cp_lst1 (x : PyData) (xs : List PyData) : cp (.list (x :: xs)) = 91 :: (cp x ++ (restT xs ++ [93])) := by
  unfold cp
  simp only [PyData.shown]
  unfold listText
  simp only [PyData.shownAll, textFrom]
  rw [cps_append, textFrom_cps 1 _ xs (by decide), cps_append, cps_append]
  show [91] ++ [] ++ cp x ++ restT xs ++ [93] = _
  simp [cp]
theorem rest_stop (xs : List PyData) {u : List Nat} (h : Stop u) : Stop (restT xs ++ u) := by
  cases xs with
  | nil => exact h
  | cons x xs => exact ⟨44, _, rfl, .inl rfl⟩
theorem stop41 (u : List Nat) : Stop (41 :: u) := ⟨41, u, rfl, .inr (.inl rfl)⟩
theorem stop44 (u : List Nat) : Stop (44 :: u) := ⟨44, u, rfl, .inl rfl⟩
theorem stop93 (u : List Nat) : Stop (93 :: u) := ⟨93, u, rfl, .inr (.inr rfl)⟩
/-- one's text is told from any other's -/
def Told (A : List PyData) (x : PyData) : Prop := ∀ y, Gen A y → ∀ u v, Stop u → Stop v → cp x ++ u = cp y ++ v → x = y ∧ u = v
theorem gen_hd {A : List PyData} (h : okA A = true) {x : PyData} (g : Gen A x) : ∃ c r, cp x = c :: r ∧ c ≠ 41 ∧ c ≠ 44 ∧ c ≠ 93 := by
  cases g with
  | «at» hx =>
    have := List.all_eq_true.mp h x hx
    have := (Bool.and_eq_true_iff.mp this).1
    cases e : cp x with
    | nil => rw [e] at this; simp [plainHd] at this
    | cons c r => rw [e] at this; simp [plainHd] at this; exact ⟨c, r, rfl, this.1.1.1.2, this.1.1.1.1, this.1.1.2⟩
  | @tup xs hx =>
    rcases xs with _ | ⟨x, _ | ⟨y, xs⟩⟩
    · exact ⟨40, _, cp_tup0, by decide, by decide, by decide⟩
    · exact ⟨40, _, cp_tup1 _, by decide, by decide, by decide⟩
    · exact ⟨40, _, cp_tup2 _ _ _, by decide, by decide, by decide⟩
  | @lst xs hx =>
    rcases xs with _ | ⟨x, xs⟩
    · exact ⟨91, _, cp_lst0, by decide, by decide, by decide⟩
    · exact ⟨91, _, cp_lst1 _ _, by decide, by decide, by decide⟩
theorem rest_told {A : List PyData} {c : Nat} (hc : c = 41 ∨ c = 93) : ∀ (xs ys : List PyData), (∀ x ∈ xs, Told A x) → (∀ y ∈ ys, Gen A y) → ∀ u v, restT xs ++ c :: u = restT ys ++ c :: v → xs = ys ∧ u = v
  | [], [], _, _, u, v, e => by simpa [restT] using e
  | [], y :: ys, _, _, u, v, e => by
    simp only [restT, List.nil_append, List.cons_append] at e
    injection e with e1 e2
    omega
  | x :: xs, [], _, _, u, v, e => by
    simp only [restT, List.nil_append, List.cons_append] at e
    injection e with e1 e2
    omega
  | x :: xs, y :: ys, hx, hy, u, v, e => by
    simp only [restT, List.cons_append, List.append_assoc] at e
    injection e with e1 e2
    injection e2 with e2 e3
    have sc : ∀ w, Stop (c :: w) := fun w => by
      rcases hc with rfl | rfl
      · exact stop41 w
      · exact stop93 w
    obtain ⟨r1, r2⟩ := hx x List.mem_cons_self y (hy y List.mem_cons_self) _ _ (rest_stop xs (sc _)) (rest_stop ys (sc _)) e3
    obtain ⟨r3, r4⟩ := rest_told hc xs ys (fun z hz => hx z (List.mem_cons_of_mem _ hz)) (fun z hz => hy z (List.mem_cons_of_mem _ hz)) u v r2
    exact ⟨by rw [r1, r3], r4⟩
theorem cp_tup_eq : ∀ xs : List PyData, ∃ r, cp (.tuple xs) = 40 :: r
  | [] => ⟨_, cp_tup0⟩
  | [x] => ⟨_, cp_tup1 x⟩
  | x :: y :: r => ⟨_, cp_tup2 x y r⟩
theorem cp_lst_eq : ∀ xs : List PyData, ∃ r, cp (.list xs) = 91 :: r
  | [] => ⟨_, cp_lst0⟩
  | x :: r => ⟨_, cp_lst1 x r⟩
theorem at_hd {A : List PyData} (h : okA A = true) {x : PyData} (hx : x ∈ A) : ∃ c r, cp x = c :: r ∧ c ≠ 41 ∧ c ≠ 44 ∧ c ≠ 93 ∧ c ≠ 40 ∧ c ≠ 91 := by
  have := List.all_eq_true.mp h x hx
  have := (Bool.and_eq_true_iff.mp this).1
  cases e : cp x with
  | nil => rw [e] at this; simp [plainHd] at this
  | cons c r => rw [e] at this; simp [plainHd] at this; exact ⟨c, r, rfl, this.1.1.1.2, this.1.1.1.1, this.1.1.2, this.1.2, this.2⟩
theorem told_all {A : List PyData} (h : okA A = true) {x : PyData} (g : Gen A x) : Told A x := by
  induction g with
  | @«at» x hx =>
    intro y gy u v su sv e
    obtain ⟨c, r, e1, _, _, _, c4, c5⟩ := at_hd h hx
    cases gy with
    | «at» hy =>
      have h1 := List.all_eq_true.mp h x hx
      have h2 := List.all_eq_true.mp (Bool.and_eq_true_iff.mp h1).2 y hy
      rcases Bool.or_eq_true_iff.mp h2 with h2 | h2
      · have := atEq_eq _ _ h2
        subst this
        exact ⟨rfl, List.append_cancel_left e⟩
      · exact absurd e (apart_ne _ _ _ _ h2 su sv)
    | @tup ys hy =>
      obtain ⟨r', e2⟩ := cp_tup_eq ys
      rw [e1, e2] at e
      injection e with e3
      exact absurd e3 c4
    | @lst ys hy =>
      obtain ⟨r', e2⟩ := cp_lst_eq ys
      rw [e1, e2] at e
      injection e with e3
      exact absurd e3 c5
  | @tup xs hx ih =>
    intro y gy u v su sv e
    cases gy with
    | «at» hy =>
      obtain ⟨c, r, e1, _, _, _, c4, c5⟩ := at_hd h hy
      obtain ⟨r', e2⟩ := cp_tup_eq xs
      rw [e1, e2] at e
      injection e with e3
      exact absurd e3.symm c4
    | @lst ys hy =>
      obtain ⟨r', e2⟩ := cp_tup_eq xs
      obtain ⟨r, e1⟩ := cp_lst_eq ys
      rw [e1, e2] at e
      injection e with e3
      omega
    | @tup ys hy =>
      rcases xs with _ | ⟨x, _ | ⟨x', xs⟩⟩ <;> rcases ys with _ | ⟨y, _ | ⟨y', ys⟩⟩
      · rw [cp_tup0] at e
        exact ⟨rfl, by simpa using e⟩
      · rw [cp_tup0, cp_tup1] at e
        obtain ⟨c, r, e1, c1, _⟩ := gen_hd h (hy y (by simp))
        rw [e1] at e
        simp at e
        exact absurd e.1.symm c1
      · rw [cp_tup0, cp_tup2] at e
        obtain ⟨c, r, e1, c1, _⟩ := gen_hd h (hy y (by simp))
        rw [e1] at e
        simp at e
        exact absurd e.1.symm c1
      · rw [cp_tup0, cp_tup1] at e
        obtain ⟨c, r, e1, c1, _⟩ := gen_hd h (hx x (by simp))
        rw [e1] at e
        simp at e
        exact absurd e.1 c1
      · rw [cp_tup1, cp_tup1] at e
        simp only [List.cons_append, List.append_assoc] at e
        injection e with _ e
        obtain ⟨r1, r2⟩ := ih x (by simp) y (hy y (by simp)) _ _ (stop44 _) (stop44 _) e
        exact ⟨by rw [r1], by simpa using r2⟩
      · rw [cp_tup1, cp_tup2] at e
        simp only [List.cons_append, List.append_assoc, restT] at e
        injection e with _ e
        obtain ⟨r1, r2⟩ := ih x (by simp) y (hy y (by simp)) _ _ (stop44 _) (stop44 _) e
        simp at r2
      · rw [cp_tup0, cp_tup2] at e
        obtain ⟨c, r, e1, c1, _⟩ := gen_hd h (hx x (by simp))
        rw [e1] at e
        simp at e
        exact absurd e.1 c1
      · rw [cp_tup1, cp_tup2] at e
        simp only [List.cons_append, List.append_assoc, restT] at e
        injection e with _ e
        obtain ⟨r1, r2⟩ := ih x (by simp) y (hy y (by simp)) _ _ (stop44 _) (stop44 _) e
        simp at r2
      · rw [cp_tup2, cp_tup2] at e
        simp only [List.cons_append, List.append_assoc, List.nil_append] at e
        injection e with _ e
        obtain ⟨r1, r2⟩ := ih x (by simp) y (hy y (by simp)) _ _ (rest_stop _ (stop41 _)) (rest_stop _ (stop41 _)) e
        obtain ⟨r3, r4⟩ := rest_told (.inl rfl) (x' :: xs) (y' :: ys) (fun z hz => ih z (List.mem_cons_of_mem _ hz)) (fun z hz => hy z (List.mem_cons_of_mem _ hz)) u v r2
        exact ⟨by rw [r1, r3], r4⟩
  | @lst xs hx ih =>
    intro y gy u v su sv e
    cases gy with
    | «at» hy =>
      obtain ⟨c, r, e1, _, _, _, c4, c5⟩ := at_hd h hy
      obtain ⟨r', e2⟩ := cp_lst_eq xs
      rw [e1, e2] at e
      injection e with e3
      exact absurd e3.symm c5
    | @tup ys hy =>
      obtain ⟨r', e2⟩ := cp_lst_eq xs
      obtain ⟨r, e1⟩ := cp_tup_eq ys
      rw [e1, e2] at e
      injection e with e3
      omega
    | @lst ys hy =>
      rcases xs with _ | ⟨x, xs⟩ <;> rcases ys with _ | ⟨y, ys⟩
      · rw [cp_lst0] at e
        exact ⟨rfl, by simpa using e⟩
      · rw [cp_lst0, cp_lst1] at e
        obtain ⟨c, r, e1, _, _, c1⟩ := gen_hd h (hy y (by simp))
        rw [e1] at e
        simp at e
        exact absurd e.1.symm c1
      · rw [cp_lst0, cp_lst1] at e
        obtain ⟨c, r, e1, _, _, c1⟩ := gen_hd h (hx x (by simp))
        rw [e1] at e
        simp at e
        exact absurd e.1 c1
      · rw [cp_lst1, cp_lst1] at e
        simp only [List.cons_append, List.append_assoc, List.nil_append] at e
        injection e with _ e
        obtain ⟨r1, r2⟩ := ih x (by simp) y (hy y (by simp)) _ _ (rest_stop _ (stop93 _)) (rest_stop _ (stop93 _)) e
        obtain ⟨r3, r4⟩ := rest_told (.inr rfl) xs ys (fun z hz => ih z (List.mem_cons_of_mem _ hz)) (fun z hz => hy z (List.mem_cons_of_mem _ hz)) u v r2
        exact ⟨by rw [r1, r3], r4⟩
/-- the texts are alike just if the data are -/
theorem shown_inj {A : List PyData} (h : okA A = true) {x y : PyData} (gx : Gen A x) (gy : Gen A y) (e : x.shown = y.shown) : x = y :=
  (told_all h gx y gy [41] [41] (stop41 _) (stop41 _) (by rw [show cp x = cp y from by unfold cp; rw [e]])).1

/-! ### == of such data -/
def noBl : PyData → Bool
  | .none => true
  | .int _ => true
  | .str _ => true
  | _ => false
theorem eqvAll_iff : ∀ (xs ys : List PyData), (∀ x ∈ xs, ∀ y ∈ ys, PyData.eqv x y = true ↔ x = y) → (PyData.eqvAll xs ys = true ↔ xs = ys)
  | [], [], _ => by simp [PyData.eqvAll]
  | [], y :: ys, _ => by simp [PyData.eqvAll]
  | x :: xs, [], _ => by simp [PyData.eqvAll]
  | x :: xs, y :: ys, h => by
    have ih := eqvAll_iff xs ys fun a ha b hb => h a (List.mem_cons_of_mem _ ha) b (List.mem_cons_of_mem _ hb)
    simp only [PyData.eqvAll, Bool.and_eq_true, ih, h x List.mem_cons_self y List.mem_cons_self, List.cons.injEq]
theorem eqv_iff {A : List PyData} (h : A.all noBl = true) {x : PyData} (gx : Gen A x) : ∀ y, Gen A y → (PyData.eqv x y = true ↔ x = y) := by
  induction gx with
  | @«at» x hx =>
    intro y gy
    have hn := List.all_eq_true.mp h x hx
    cases gy with
    | «at» hy =>
      have hm := List.all_eq_true.mp h y hy
      cases x <;> simp [noBl] at hn <;> cases y <;> simp [noBl] at hm <;> simp [PyData.eqv]
    | tup hy => cases x <;> simp [noBl] at hn <;> simp [PyData.eqv]
    | lst hy => cases x <;> simp [noBl] at hn <;> simp [PyData.eqv]
  | @tup xs hx ih =>
    intro y gy
    cases gy with
    | «at» hy =>
      have hm := List.all_eq_true.mp h y hy
      cases y <;> simp [noBl] at hm <;> simp [PyData.eqv]
    | @tup ys hy =>
      have := eqvAll_iff xs ys fun a ha b hb => ih a ha b (hy b hb)
      simp only [PyData.eqv, this, PyData.tuple.injEq]
    | lst hy => simp [PyData.eqv]
  | @lst xs hx ih =>
    intro y gy
    cases gy with
    | «at» hy =>
      have hm := List.all_eq_true.mp h y hy
      cases y <;> simp [noBl] at hm <;> simp [PyData.eqv]
    | @lst ys hy =>
      have := eqvAll_iff xs ys fun a ha b hb => ih a ha b (hy b hb)
      simp only [PyData.eqv, this, PyData.list.injEq]
    | tup hy => simp [PyData.eqv]
theorem eqv_gen {A : List PyData} (h : A.all noBl = true) {x y : PyData} (gx : Gen A x) (gy : Gen A y) : PyData.eqv x y = decide (x.shown = y.shown) ∨ okA A = false := by
  cases e : okA A with
  | false => exact .inr rfl
  | true =>
    left
    rw [Bool.eq_iff_iff, eqv_iff h gx y gy, decide_eq_true_eq]
    exact ⟨fun e => by rw [e], shown_inj e gx gy⟩
end T
end

section
namespace T.Lib
open PySem PySem.Spec L2 T
/-! ### helpers that the laws share, by fixed numbers -/
def b1 : IB := (.cons (.iff (.cmp .Gt (.ix (.v 0) (.int 0)) (.int 0)) (.cons (.set (.v 2) (.bin .Mod (.bi .int (.cons (.ix (.v 0) (.int 0)) .nil)) (.v 1))) (.cons (.setixS (.v 0) (.int 0) (.bin .FloorDiv (.ix (.v 0) (.int 0)) (.v 1))) (.cons (.ret (.v 2)) .nil))) .nil) (.cons (.setixS (.v 0) (.int 2) (.bin .Add (.ix (.v 0) (.int 2)) (.int 1))) (.cons (.set (.v 3) (.ix (.lst .fz (.disp (.cons (.int 2147483647) (.cons (.int 2147483629) (.cons (.int 2147483587) (.cons (.int 2147483579) (.cons (.int 2147483563) .nil))))))) (.bin .Mod (.bi .int (.cons (.ix (.v 0) (.int 2)) .nil)) (.int 5)))) (.cons (.set (.v 4) (.bin .Mod (.bi .int (.cons (.bin .Pow (.bin .Add (.bin .Add (.ix (.v 0) (.int 1)) (.bin .Mult (.bin .Mult (.int 99991) (.ix (.v 0) (.int 2))) (.ix (.v 0) (.int 2)))) (.int 61)) (.int 3)) .nil)) (.v 3))) (.cons (.set (.v 4) (.bin .Mod (.bi .int (.cons (.bin .Mult (.v 4) (.bin .Add (.bin .Mod (.bi .int (.cons (.v 4) .nil)) (.int 10007)) (.bin .Mult (.int 83) (.ix (.v 0) (.int 2))))) .nil)) (.int 2305843009213693907))) (.cons (.ret (.bin .Mod (.bi .int (.cons (.bin .FloorDiv (.v 4) (.int 89)) .nil)) (.v 1))) .nil))))))
def b2 : IB := (.cons (.ret (.ix (.v 1) (.call 1 (.cons (.v 0) (.cons (.bi .len (.cons (.v 1) .nil)) .nil))))) .nil)
def b3 : IB := (.cons (.set (.v 2) (.ite (.cmp .Lt (.v 1) (.bi .len (.cons (.v 0) .nil))) (.ix (.v 0) (.v 1)) (.bin .Add (.bin .Mult (.int 19) (.v 1)) (.int 5)))) (.cons (.set (.v 3) (.bin .Mult (.bin .Mod (.bi .int (.cons (.bi .abs (.cons (.v 2) .nil)) .nil)) (.bin .Pow (.bin .Pow (.int 10) (.int 60)) (.int 5))) (.bi .int (.cons (.cmp .GtE (.bi .abs (.cons (.v 2) .nil)) (.bin .Pow (.int 10) (.int 18))) .nil)))) (.cons (.ret (.lst .sh (.disp (.cons (.v 3) (.cons (.bin .Mod (.bi .int (.cons (.bin .Add (.bin .Add (.bin .Mult (.bin .Mod (.bi .int (.cons (.v 2) .nil)) (.int 2305843009213693951)) (.int 77017)) (.bin .Mult (.bin .Mult (.int 9049) (.v 1)) (.v 1))) (.int 83)) .nil)) (.int 2305843009213693921)) (.cons (.int 0) .nil)))))) .nil)))
def b4 : IB := (.cons (.par 2 3 (.l (.disp (.cons (.str "a") (.cons (.str "b") (.cons (.str "c") (.cons (.str "ab") (.cons (.str "abcdefgh") (.cons (.str "x") (.cons (.str "row") (.cons (.str "z") .nil)))))))))) (.l (.disp .nil))) (.cons (.forr (.v 4) (.range1 (.v 1)) (.cons (.set (.v 5) (.call 1 (.cons (.v 0) (.cons (.bi .len (.cons (.v 2) .nil)) .nil)))) (.cons (.apppop 3 2 (.v 5)) .nil))) (.cons (.ret (.bi .tuple (.cons (.v 3) .nil))) .nil)))
def b5 : IB := (.cons (.ret (.call 2 (.cons (.v 0) (.cons (.lst .fz (.disp (.cons (.int 1) (.cons (.int 2) (.cons .non (.cons (.int 1) (.cons (.str "x") (.cons (.int 2) (.cons (.str "a") (.cons (.neg (.int 3)) (.cons (.int 0) (.cons (.int 999) (.cons (.neg (.int 999)) (.cons (.str "abcdefgh") .nil)))))))))))))) .nil)))) .nil)
def b6 : IB := (.cons (.own 3 (.disp .nil)) (.cons (.forr (.v 4) (.range1 (.v 2)) (.cons (.app 3 (.bi .tuple (.cons (.lst .fz (.comp (.call 5 (.cons (.v 0) .nil)) (.v 5) (.range1 (.v 1)) .nil)) .nil))) .nil)) (.cons (.ret (.bi .tuple (.cons (.v 3) .nil))) .nil)))
def b7 : IB := (.cons (.iff (.nt (.call 9 (.cons (.v 1) .nil))) (.cons (.rais 0 (.v 1)) .nil) .nil) (.cons (.iff (.nt (.isi (.v 2) .tuple)) (.cons (.rais 1 (.v 2)) .nil) .nil) (.cons (.iff (.cmp .Gt (.bi .len (.cons (.v 2) .nil)) (.gi "MOST_ROWS" 6)) (.cons (.rais 3 (.gi "MOST_ROWS" 6)) .nil) .nil) (.cons (.forr (.v 3) (.seq (.v 2)) (.cons (.iff (.nt (.call 10 (.cons (.v 3) (.cons (.bi .len (.cons (.v 1) .nil)) .nil)))) (.cons (.rais 2 (.v 3)) .nil) .nil) .nil)) (.cons (.setfld (.v 0) 0 (.v 1)) (.cons (.setfld (.v 0) 1 (.v 2)) .nil))))))
def b8 : IB := (.cons (.ret (.bo .And (.cons (.isi (.v 1) (.cls 0)) (.cons (.cmp .Eq (.fld (.v 0) 0) (.fld (.v 1) 0)) (.cons (.cmp .Eq (.fld (.v 0) 1) (.fld (.v 1) 1)) .nil))))) .nil)
def b9 : IB := (.cons (.iff (.bo .Or (.cons (.nt (.isi (.v 0) .tuple)) (.cons (.nt (.chain .LtE .LtE (.int 1) (.bi .len (.cons (.v 0) .nil)) (.gi "MOST_COLUMNS" 3))) .nil))) (.cons (.ret (.bl false)) .nil) .nil) (.cons (.ret (.bo .And (.cons (.bi .all (.cons (.lst .fz (.comp (.call 11 (.cons (.v 1) .nil)) (.v 1) (.seq (.v 0)) .nil)) .nil)) (.cons (.cmp .Eq (.bi .lenset (.cons (.v 0) .nil)) (.bi .len (.cons (.v 0) .nil))) .nil)))) .nil))
def b10 : IB := (.cons (.ret (.bo .And (.cons (.isi (.v 0) .tuple) (.cons (.cmp .Eq (.bi .len (.cons (.v 0) .nil)) (.v 1)) (.cons (.bi .all (.cons (.lst .fz (.comp (.call 12 (.cons (.v 2) .nil)) (.v 2) (.seq (.v 0)) .nil)) .nil)) .nil))))) .nil)
def b11 : IB := (.cons (.ret (.bo .And (.cons (.isi (.v 0) .str) (.cons (.chain .LtE .LtE (.int 1) (.bi .len (.cons (.v 0) .nil)) (.gi "MOST_LETTERS" 8)) (.cons (.bi .all (.cons (.lst .fz (.comp (.cmp .In (.v 1) (.gs "SMALL" "abcdefghijklmnopqrstuvwxyz")) (.v 1) (.seq (.v 0)) .nil)) .nil)) .nil))))) .nil)
def b12 : IB := (.cons (.ret (.bo .Or (.cons (.isN (.v 0)) (.cons (.call 13 (.cons (.v 0) (.cons (.neg (.gi "GREATEST" 999)) (.cons (.gi "GREATEST" 999) .nil)))) (.cons (.call 11 (.cons (.v 0) .nil)) .nil))))) .nil)
def b13 : IB := (.cons (.ret (.bo .And (.cons (.call 14 (.cons (.v 0) .nil)) (.cons (.chain .LtE .LtE (.v 1) (.v 0) (.v 2)) .nil)))) .nil)
def b14 : IB := (.cons (.ret (.bo .And (.cons (.isi (.v 0) .int) (.cons (.nt (.isi (.v 0) .bool)) .nil)))) .nil)
/-- they stand in a table of functions -/
structure Hs (pg : Pg) : Prop where
  f1 : pg.fn 1 = some ⟨5, 2, b1⟩
  f2 : pg.fn 2 = some ⟨2, 2, b2⟩
  f3 : pg.fn 3 = some ⟨4, 2, b3⟩
  f4 : pg.fn 4 = some ⟨6, 2, b4⟩
  f5 : pg.fn 5 = some ⟨1, 1, b5⟩
  f6 : pg.fn 6 = some ⟨6, 3, b6⟩
  f7 : pg.fn 7 = some ⟨4, 3, b7⟩
  f8 : pg.fn 8 = some ⟨2, 2, b8⟩
  f9 : pg.fn 9 = some ⟨2, 1, b9⟩
  f10 : pg.fn 10 = some ⟨3, 2, b10⟩
  f11 : pg.fn 11 = some ⟨2, 1, b11⟩
  f12 : pg.fn 12 = some ⟨1, 1, b12⟩
  f13 : pg.fn 13 = some ⟨3, 3, b13⟩
  f14 : pg.fn 14 = some ⟨1, 1, b14⟩
  i0 : pg.init 0 = 7
  e0 : pg.eq 0 = some 8
theorem callI_fn {pg : Pg} {k f : Nat} {fi : FI} {ds : List D} {μ : Store} (h : pg.fn f = some fi) : callI pg (k + 1) f ds μ = runF pg (callI pg k) fi ds μ := by
  unfold callI
  rw [h]
end T.Lib
end

section
namespace T.Lib
open PySem PySem.Spec L2 T

theorem c_int {pg : Pg} (HS : Hs pg) (k : Nat) (i : Int) (μ : Store) : callI pg (k + 1) 14 [.int i] μ = .ok (.bl true) μ := by rw [callI_fn HS.f14]; rfl
theorem c_int_non {pg : Pg} (HS : Hs pg) (k : Nat) (μ : Store) : callI pg (k + 1) 14 [.non] μ = .ok (.bl false) μ := by rw [callI_fn HS.f14]; rfl
theorem c_int_str {pg : Pg} (HS : Hs pg) (k : Nat) (x : Str) (μ : Store) : callI pg (k + 1) 14 [.str x] μ = .ok (.bl false) μ := by rw [callI_fn HS.f14]; rfl
theorem c_within {pg : Pg} (HS : Hs pg) (k : Nat) (i a b : Int) (μ : Store) : callI pg (k + 2) 13 [.int i, .int a, .int b] μ = .ok (.bl (decide (a ≤ i) && decide (i ≤ b))) μ := by
  have h : callI pg (k + 2) 13 [.int i, .int a, .int b] μ = runF pg (callI pg (k + 1)) ⟨3, 3, b13⟩ [.int i, .int a, .int b] μ := callI_fn HS.f13
  rw [h]
  simp [runF, b13, evB, evS, evE, evEs, evBo, rd, rdO, c_int HS]
  cases decide (a ≤ i) <;> simp
theorem c_draw_some {pg : Pg} (HS : Hs pg) (k : Nat) (n : Nat) (μ : Store) (a b c m : Int) (hμ : μ[n]? = some (.lst [.int a, .int b, .int c])) (ha : 0 < a) (hm : 0 < m) (hm2 : m < 1000000) :
    callI pg (k + 1) 1 [.ref n, .int m] μ = .ok (.int (a.fmod m)) (μ.set n (.lst [.int (a.fdiv m), .int b, .int c])) := by
  have h : callI pg (k + 1) 1 [.ref n, .int m] μ = runF pg (callI pg k) ⟨5, 2, b1⟩ [.ref n, .int m] μ := callI_fn HS.f1
  rw [h]
  have d1 : divOk a m = true := by unfold divOk; simp; omega
  simp [runF, b1, evB, evS, evE, evEs, evBo, rd, rdO, lv_ref hμ, ha, bin_mod (i := a) (j := m) (by omega), bin_div d1, bindT, List.replicate, hμ]

theorem prime_at (i : Int) (h0 : 0 ≤ i) (h1 : i < 5) : ∃ p : Int, atI [D.int 2147483647, .int 2147483629, .int 2147483587, .int 2147483579, .int 2147483563] i = some (.int p) ∧ 2147483563 ≤ p ∧ p ≤ 2147483647 := by
  have : i = 0 ∨ i = 1 ∨ i = 2 ∨ i = 3 ∨ i = 4 := by omega
  rcases this with rfl | rfl | rfl | rfl | rfl
  · exact ⟨_, rfl, by decide, by decide⟩
  · exact ⟨_, rfl, by decide, by decide⟩
  · exact ⟨_, rfl, by decide, by decide⟩
  · exact ⟨_, rfl, by decide, by decide⟩
  · exact ⟨_, rfl, by decide, by decide⟩
theorem fmod_bd (x m : Int) (hm : 0 < m) : 0 ≤ x.fmod m ∧ x.fmod m < m := ⟨Int.fmod_nonneg_of_pos x hm, Int.fmod_lt_of_pos x hm⟩
theorem pow3Ok (a : Int) (h0 : 61 ≤ a) (h1 : a < 2 ^ 64) : powOk a 3 = true := by
  unfold powOk
  have : Builtin.Int.intTooBig (((Builtin.Int.intBits a : Nat) : Int) * 3) = false := by
    have hl : a.natAbs.log2 < 64 := (Nat.log2_lt (by omega)).mpr (by omega)
    have hb : Builtin.Int.intBits a ≤ 64 := by
      unfold Builtin.Int.intBits
      split <;> omega
    unfold Builtin.Int.intTooBig
    have hL : PySem.bitsLine = 134217728 := by decide
    rw [hL]
    simp
    omega
  simp [this]
  omega
theorem mulOk_l (i j : Int) (h : -(2 ^ 64) < i ∧ i < 2 ^ 64) : mulOk i j = true := by
  unfold mulOk
  simp only [Bool.or_eq_true, decide_eq_true_eq]
  exact .inl (.inl h)
theorem mulOk_r (i j : Int) (h : -(2 ^ 64) < j ∧ j < 2 ^ 64) : mulOk i j = true := by
  unfold mulOk
  simp only [Bool.or_eq_true, decide_eq_true_eq]
  exact .inl (.inr h)
theorem c_draw_none {pg : Pg} (HS : Hs pg) (k : Nat) (n : Nat) (μ : Store) (a b c m : Int) (hμ : μ[n]? = some (.lst [.int a, .int b, .int c])) (ha : a ≤ 0) (hb : 0 ≤ b ∧ b < 2 ^ 62) (hc : 0 ≤ c ∧ c < 1000000) (hm : 0 < m) (hm2 : m < 1000000) :
    ∃ r, 0 ≤ r ∧ r < m ∧ callI pg (k + 1) 1 [.ref n, .int m] μ = .ok (.int r) (μ.set n (.lst [.int a, .int b, .int (c + 1)])) := by
  have h : callI pg (k + 1) 1 [.ref n, .int m] μ = runF pg (callI pg k) ⟨5, 2, b1⟩ [.ref n, .int m] μ := callI_fn HS.f1
  have hn : n < μ.length := (List.getElem?_eq_some_iff.mp hμ).1
  have hμ2 : (μ.set n (.lst [.int a, .int b, .int (c + 1)]))[n]? = some (.lst [.int a, .int b, .int (c + 1)]) := List.getElem?_set_self hn
  have ha' : ¬ 0 < a := by omega
  obtain ⟨p, hp, p1, p2⟩ := prime_at ((c + 1).fmod 5) (fmod_bd _ _ (by decide)).1 (fmod_bd _ _ (by decide)).2
  have mc : 0 ≤ (99991 * (c + 1)) * (c + 1) ∧ (99991 * (c + 1)) * (c + 1) < 2 ^ 62 := by
    refine ⟨Int.mul_nonneg (by omega) (by omega), ?_⟩
    have : (99991 * (c + 1)) * (c + 1) ≤ (99991 * 1000000) * 1000000 := Int.mul_le_mul (by omega) (by omega) (by omega) (by decide)
    omega
  have m1 : mulOk 99991 (c + 1) = true := mulOk_l _ _ (by decide)
  have m2 : mulOk (99991 * (c + 1)) (c + 1) = true := mulOk_r _ _ (by omega)
  have q1 := pow3Ok (b + 99991 * (c + 1) * (c + 1) + 61) (by omega) (by omega)
  generalize hx : (b + 99991 * (c + 1) * (c + 1) + 61) = x at q1
  obtain ⟨y0, y1⟩ := fmod_bd (x ^ 3) p (by omega)
  have m3 : mulOk 83 (c + 1) = true := mulOk_l _ _ (by decide)
  generalize hy : (x ^ 3).fmod p = y at y0 y1
  have m4 : mulOk y (y.fmod 10007 + 83 * (c + 1)) = true := mulOk_l _ _ (by omega)
  generalize hz : (y * (y.fmod 10007 + 83 * (c + 1))).fmod 2305843009213693907 = z
  have d1 : divOk z 89 = true := by unfold divOk; simp
  obtain ⟨r0, r1⟩ := fmod_bd (z.fdiv 89) m hm
  refine ⟨_, r0, r1, ?_⟩
  rw [h]
  simp [runF, b1, evB, evS, evE, evEs, evL, evBo, rd, rdO, lv_ref hμ, lv_ref hμ2, ha', bindT, List.replicate, hμ, hμ2, bin_mod, bin_mul m1, bin_mul m2, bin_mul m3, bin_mul m4, hp, hx, bin_pow q1, bin_mod (i := x ^ 3) (j := p) (by omega), hy, hz, bin_div d1, bin_mod (i := z.fdiv 89) (j := m) (by omega)]

/-! ### pots -/
/-- a pot: what was drawn, the mix, how often -/
def Pot (μ : Store) (n c : Nat) : Prop := ∃ (a b : Int), μ[n]? = some (.lst [.int a, .int b, .int c]) ∧ 0 ≤ a ∧ 0 ≤ b ∧ b < 2 ^ 62
/-- the store but for the pot at n -/
def Same (n : Nat) (μ μ' : Store) : Prop := μ'.length = μ.length ∧ ∀ j, j ≠ n → μ'[j]? = μ[j]?
theorem Same.refl {n : Nat} {μ : Store} : Same n μ μ := ⟨rfl, fun _ _ => rfl⟩
theorem Same.trans {n : Nat} {μ μ' μ'' : Store} (h : Same n μ μ') (h' : Same n μ' μ'') : Same n μ μ'' := ⟨h'.1.trans h.1, fun j hj => (h'.2 j hj).trans (h.2 j hj)⟩
theorem same_set {n : Nat} {μ : Store} {o : Ob} : Same n μ (μ.set n o) := ⟨List.length_set, fun j hj => List.getElem?_set_ne (Ne.symm hj)⟩
/-- _law_draw -/
theorem c_draw {pg : Pg} (HS : Hs pg) (k : Nat) {n c : Nat} {μ : Store} {m : Int} (p : Pot μ n c) (hc : c < 999999) (hm : 0 < m) (hm2 : m < 1000000) :
    ∃ r μ' c', callI pg (k + 1) 1 [.ref n, .int m] μ = .ok (.int r) μ' ∧ 0 ≤ r ∧ r < m ∧ Pot μ' n c' ∧ c' ≤ c + 1 ∧ Same n μ μ' := by
  obtain ⟨a, b, hμ, ha, hb, hb2⟩ := p
  have hn : n < μ.length := (List.getElem?_eq_some_iff.mp hμ).1
  by_cases h : 0 < a
  · exact ⟨_, _, c, c_draw_some HS k n μ a b c m hμ h hm hm2, (fmod_bd a m hm).1, (fmod_bd a m hm).2, ⟨_, _, List.getElem?_set_self hn, by rw [Int.fdiv_eq_ediv_of_nonneg _ (by omega)]; exact Int.ediv_nonneg (by omega) (by omega), hb, hb2⟩, Nat.le_succ _, same_set⟩
  · obtain ⟨r, r0, r1, e⟩ := c_draw_none HS k n μ a b c m hμ (by omega) ⟨hb, hb2⟩ ⟨by omega, by omega⟩ hm hm2
    exact ⟨r, _, c + 1, e, r0, r1, ⟨a, b, by rw [List.getElem?_set_self hn]; rfl, ha, hb, hb2⟩, Nat.le_refl _, same_set⟩

/-- a pot from which N more numbers may be drawn -/
def PotB (μ : Store) (n N : Nat) : Prop := ∃ c, Pot μ n c ∧ c + N < 999999
theorem PotB.less {μ : Store} {n N M : Nat} (p : PotB μ n N) (h : M ≤ N) : PotB μ n M := let ⟨c, q, l⟩ := p; ⟨c, q, by omega⟩
theorem c_drawB {pg : Pg} (HS : Hs pg) (k : Nat) {n N : Nat} {μ : Store} {m : Int} (p : PotB μ n (N + 1)) (hm : 0 < m) (hm2 : m < 1000000) :
    ∃ r μ', callI pg (k + 1) 1 [.ref n, .int m] μ = .ok (.int r) μ' ∧ 0 ≤ r ∧ r < m ∧ PotB μ' n N ∧ Same n μ μ' := by
  obtain ⟨c, q, l⟩ := p
  obtain ⟨r, μ', c', e, r0, r1, p', c1, s⟩ := c_draw HS k q (by omega) hm hm2
  exact ⟨r, μ', e, r0, r1, ⟨c', p', by omega⟩, s⟩
theorem atI_nat {ds : List D} {r : Int} (h0 : 0 ≤ r) (h1 : r < ds.length) : ∃ d, atI ds r = some d ∧ d ∈ ds := by
  have hl : r.toNat < ds.length := by omega
  refine ⟨ds[r.toNat], ?_, List.getElem_mem _⟩
  unfold atI ixN
  rw [if_pos h0, if_pos (by omega)]
  simp [hl]
/-- _law_any -/
theorem c_any {pg : Pg} (HS : Hs pg) (k : Nat) {n N : Nat} {μ : Store} {ds : List D} (p : PotB μ n (N + 1)) (hm : ds ≠ []) (hm2 : ds.length < 1000000) :
    ∃ d μ', callI pg (k + 2) 2 [.ref n, .lst ds] μ = .ok d μ' ∧ d ∈ ds ∧ PotB μ' n N ∧ Same n μ μ' := by
  have hl : 0 < ds.length := List.length_pos_iff.mpr hm
  obtain ⟨r, μ', e, r0, r1, p', s⟩ := c_drawB HS k p (m := ds.length) (by omega) (by omega)
  obtain ⟨d, e1, e2⟩ := atI_nat r0 r1
  refine ⟨d, μ', ?_, e2, p', s⟩
  have h : callI pg (k + 2) 2 [.ref n, .lst ds] μ = runF pg (callI pg (k + 1)) ⟨2, 2, b2⟩ [.ref n, .lst ds] μ := callI_fn HS.f2
  rw [h]
  simp [runF, b2, evB, evS, evE, evEs, evL, evBo, rd, rdO, e, e1]

/-- a cell of a table -/
def cells : List D := [.int 1, .int 2, .non, .int 1, .str "x", .int 2, .str "a", .int (-3), .int 0, .int 999, .int (-999), .str "abcdefgh"]
theorem c_cell {pg : Pg} (HS : Hs pg) (k : Nat) {n N : Nat} {μ : Store} (p : PotB μ n (N + 1)) : ∃ d μ', callI pg (k + 3) 5 [.ref n] μ = .ok d μ' ∧ d ∈ cells ∧ PotB μ' n N ∧ Same n μ μ' := by
  obtain ⟨d, μ', e, h1, h2, h3⟩ := c_any HS k (ds := cells) p (by decide) (by decide)
  refine ⟨d, μ', ?_, h1, h2, h3⟩
  have h : callI pg (k + 3) 5 [.ref n] μ = runF pg (callI pg (k + 2)) ⟨1, 1, b5⟩ [.ref n] μ := callI_fn HS.f5
  rw [h]
  unfold cells at e
  simp [runF, b5, evB, evS, evE, evEs, evL, evBo, rd, rdO, e]

theorem evL_comp {pg : Pg} {cf : CF} {e : IE} {t : Tg} {it : IT} {cs : IEs} {σ : Slots} {μ : Store} :
    evL pg cf (.comp e t it cs) σ μ = (evIt pg cf true it σ μ).bind fun xs μ1 => if sizeLine < xs.length then .bad else (lcGo (lcStep pg cf e t cs σ) xs μ1).nox := rfl
/-- the turns of a list that draws w numbers a turn -/
theorem lc_turns {n w : Nat} {step : D → Store → Res (Option D)} {Ok : D → Prop} (hs : ∀ x μ N, PotB μ n (N + w) → ∃ d μ', step x μ = .ok (some d) μ' ∧ Ok d ∧ PotB μ' n N ∧ Same n μ μ') : ∀ (xs : List D) (μ : Store) (N : Nat), PotB μ n (N + xs.length * w) →
    ∃ ds μ', lcGo step xs μ = .ok ds μ' ∧ ds.length = xs.length ∧ (∀ d ∈ ds, Ok d) ∧ PotB μ' n N ∧ Same n μ μ'
  | [], μ, N, p => ⟨[], μ, rfl, rfl, by simp, p.less (by omega), .refl⟩
  | x :: xs, μ, N, p => by
    obtain ⟨d, μ1, e, o, p1, s1⟩ := hs x μ (N + xs.length * w) (p.less (by rw [List.length_cons, Nat.succ_mul]; omega))
    obtain ⟨ds, μ2, e2, l, o2, p2, s2⟩ := lc_turns hs xs μ1 N p1
    refine ⟨d :: ds, μ2, ?_, by simp [l], fun y hy => ?_, p2, s1.trans s2⟩
    · simp [lcGo, e, e2]
    · rcases List.mem_cons.mp hy with rfl | hy
      · exact o
      · exact o2 y hy
/-- the turns of a loop that puts one thing more at the end of slot i -/
theorem for_turns {n w i L : Nat} {turn : D → Slots → Store → SR} {Ok : D → Prop} {σ0 : Slots → Prop} (hs : ∀ x σ μ N ds, ds.length < L → σ0 σ → σ[i]? = some (.own ds) → PotB μ n (N + w) → ∃ d σ' μ', turn x σ μ = .next σ' μ' ∧ σ0 σ' ∧ σ'[i]? = some (.own (ds ++ [d])) ∧ Ok d ∧ PotB μ' n N ∧ Same n μ μ') :
    ∀ (xs : List D) (σ : Slots) (μ : Store) (N : Nat) (ds : List D), ds.length + xs.length ≤ L → σ0 σ → σ[i]? = some (.own ds) → PotB μ n (N + xs.length * w) →
    ∃ es σ' μ', forGo turn xs σ μ = .next σ' μ' ∧ σ0 σ' ∧ σ'[i]? = some (.own (ds ++ es)) ∧ es.length = xs.length ∧ (∀ d ∈ es, Ok d) ∧ PotB μ' n N ∧ Same n μ μ'
  | [], σ, μ, N, ds, hL, h0, hi, p => ⟨[], σ, μ, rfl, h0, by simpa using hi, rfl, by simp, p.less (by omega), .refl⟩
  | x :: xs, σ, μ, N, ds, hL, h0, hi, p => by
    obtain ⟨d, σ1, μ1, e, h1, hi1, o, p1, s1⟩ := hs x σ μ (N + xs.length * w) ds (by rw [List.length_cons] at hL; omega) h0 hi (p.less (by rw [List.length_cons, Nat.succ_mul]; omega))
    obtain ⟨es, σ2, μ2, e2, h2, hi2, l, o2, p2, s2⟩ := for_turns hs xs σ1 μ1 N (ds ++ [d]) (by rw [List.length_append, List.length_singleton]; rw [List.length_cons] at hL; omega) h1 hi1 p1
    refine ⟨d :: es, σ2, μ2, ?_, h2, by rw [hi2, List.append_assoc]; rfl, by simp [l], fun y hy => ?_, p2, s1.trans s2⟩
    · simp [forGo, e, e2]
    · rcases List.mem_cons.mp hy with rfl | hy
      · exact o
      · exact o2 y hy

theorem it_range1 {pg : Pg} {cf : CF} {o : Bool} {σ : Slots} {μ : Store} {i w : Nat} (h : σ[i]? = some (.val (.int w))) (h1 : (w : Int) < 2 ^ 62) (h2 : -(2 ^ 62) ≤ (w : Int)) : evIt pg cf o (.range1 (.v i)) σ μ = .ok ((List.range w).map fun k => .int (0 + (k : Nat))) μ := by
  have e : evE pg cf false (.v i) σ μ = .ok (.int w) μ := by
    show Res.of (if false = true then rdO σ i else rd σ i) μ = _
    rw [if_neg Bool.false_ne_true]
    unfold rd
    rw [h]
    rfl
  unfold evIt
  rw [e, ok_bind]
  simp only [h1, h2, and_self, if_true, Int.toNat_natCast]

/-- a row: as many cells -/
def IsRow (w : Nat) (d : D) : Prop := ∃ ds, d = .tup ds ∧ ds.length = w ∧ ∀ c ∈ ds, c ∈ cells
theorem line_ok {pg : Pg} (HS : Hs pg) (k : Nat) {n N w : Nat} {μ : Store} {σ : Slots} (p : PotB μ n (N + w)) (hw : w < 1000) (h0 : σ[0]? = some (.val (.ref n))) (h1 : σ[1]? = some (.val (.int w))) (hl : σ.length = 6) :
    ∃ ds μ', evL pg (callI pg (k + 3)) (.comp (.call 5 (.cons (.v 0) .nil)) (.v 5) (.range1 (.v 1)) .nil) σ μ = .ok ds μ' ∧ ds.length = w ∧ (∀ c ∈ ds, c ∈ cells) ∧ PotB μ' n N ∧ Same n μ μ' := by
  obtain ⟨ds, μ', e, l, o, p', s⟩ := lc_turns (n := n) (w := 1) (Ok := (· ∈ cells)) (step := lcStep pg (callI pg (k + 3)) (.call 5 (.cons (.v 0) .nil)) (.v 5) .nil σ) (fun x μ N p => by
    obtain ⟨d, μ', e, h1, h2, h3⟩ := c_cell HS k p
    refine ⟨d, μ', ?_, h1, h2, h3⟩
    have hb : bindT (.v 5) x (wipeS σ [5]) = some ((wipeS σ [5]).set 5 (.val x)) := bindT_v (by rw [wipeS_len, hl]; decide)
    have hg : ((wipeS σ [5]).set 5 (.val x))[0]? = some (.val (.ref n)) := by
      rw [List.getElem?_set_ne (by decide)]
      show ((σ.set 5 .emp))[0]? = _
      rw [List.getElem?_set_ne (by decide)]
      exact h0
    unfold lcStep
    simp [Tg.slots, hb, evTs, evE, evEs, rd, hg, e]) ((List.range w).map fun k => .int (0 + (k : Nat))) μ N (by simpa using p)
  have hs := sizeLine_eq
  refine ⟨ds, μ', ?_, by simpa using l, o, p', s⟩
  rw [evL_comp]
  have hr : (w : Int) < 2 ^ 62 ∧ -(2 ^ 62) ≤ (w : Int) := by omega
  have ei : evIt pg (callI pg (k + 3)) true (.range1 (.v 1)) σ μ = .ok ((List.range w).map fun k => .int (0 + (k : Nat))) μ := it_range1 h1 hr.1 hr.2
  have hlen : ¬ sizeLine < ((List.range w).map fun k => D.int (0 + (k : Nat))).length := by
    rw [List.length_map, List.length_range, hs]
    omega
  rw [ei, ok_bind, if_neg hlen, e, ok_nox]

theorem evB_cons {pg : Pg} {cf : CF} {s : IS} {r : IB} {σ : Slots} {μ : Store} : evB pg cf (.cons s r) σ μ = (evS pg cf s σ μ).bind fun σ1 μ1 => evB pg cf r σ1 μ1 := rfl
def lineE : IL := .comp (.call 5 (.cons (.v 0) .nil)) (.v 5) (.range1 (.v 1)) .nil
def rowsT (pg : Pg) (cf : CF) : D → Slots → Store → SR := fun x σ1 μ2 => match bindT (.v 4) x σ1 with
  | some σ2 => evB pg cf (.cons (.app 3 (.bi .tuple (.cons (.lst .fz lineE) .nil))) .nil) σ2 μ2
  | none => .bad
theorem rows_turn {pg : Pg} (HS : Hs pg) (k : Nat) {n N w : Nat} {μ : Store} {σ : Slots} {x : D} {ds : List D} (p : PotB μ n (N + w)) (hw : w < 1000) (h : σ.length = 6 ∧ σ[0]? = some (.val (.ref n)) ∧ σ[1]? = some (.val (.int w))) (h3 : σ[3]? = some (.own ds)) (hd : ds.length < 1000) :
    ∃ d σ' μ', rowsT pg (callI pg (k + 3)) x σ μ = .next σ' μ' ∧ (σ'.length = 6 ∧ σ'[0]? = some (.val (.ref n)) ∧ σ'[1]? = some (.val (.int w))) ∧ σ'[3]? = some (.own (ds ++ [d])) ∧ IsRow w d ∧ PotB μ' n N ∧ Same n μ μ' := by
  obtain ⟨hl, h0, h1⟩ := h
  have hb : bindT (.v 4) x σ = some (σ.set 4 (.val x)) := bindT_v (by rw [hl]; decide)
  have l4 : (σ.set 4 (.val x)).length = 6 := by rw [List.length_set]; exact hl
  have g0 : (σ.set 4 (.val x))[0]? = some (.val (.ref n)) := by rw [List.getElem?_set_ne (by decide)]; exact h0
  have g1 : (σ.set 4 (.val x))[1]? = some (.val (.int w)) := by rw [List.getElem?_set_ne (by decide)]; exact h1
  have g3 : (σ.set 4 (.val x))[3]? = some (.own ds) := by rw [List.getElem?_set_ne (by decide)]; exact h3
  generalize σ.set 4 (.val x) = σ2 at hb l4 g0 g1 g3
  obtain ⟨es, μ', e, l, o, p', s⟩ := line_ok HS k p hw g0 g1 l4
  have hs := sizeLine_eq
  have e : evL pg (callI pg (k + 3)) lineE σ2 μ = .ok es μ' := e
  refine ⟨.tup es, σ2.set 3 (.own (ds ++ [.tup es])), μ', ?_, ⟨by rw [List.length_set]; exact l4, by rw [List.getElem?_set_ne (by decide)]; exact g0, by rw [List.getElem?_set_ne (by decide)]; exact g1⟩, List.getElem?_set_self (by rw [l4]; decide), ⟨es, rfl, l, o⟩, p', s⟩
  unfold rowsT
  rw [hb]
  have hlt : ds.length < sizeLine := by omega
  simp [evB, evS, g3, evE, evEs, e, hlt]

theorem it_range1s {pg : Pg} {cf : CF} {o : Bool} {σ : Slots} {μ : Store} {i w : Nat} (h : σ[i]? = some (.val (.int w))) (hw : w < 1000) : evIt pg cf o (.range1 (.v i)) σ μ = .ok ((List.range w).map fun k => .int (0 + (k : Nat))) μ :=
  it_range1 h (by omega) (by omega)
theorem c_rows {pg : Pg} (HS : Hs pg) (k : Nat) {n N w m : Nat} {μ : Store} (p : PotB μ n (N + m * w)) (hw : w < 1000) (hm : m < 1000) :
    ∃ rows μ', callI pg (k + 4) 6 [.ref n, .int w, .int m] μ = .ok (.tup rows) μ' ∧ rows.length = m ∧ (∀ r ∈ rows, IsRow w r) ∧ PotB μ' n N ∧ Same n μ μ' := by
  obtain ⟨es, σ', μ', e, h0, h3, l, o, p', s⟩ := for_turns (n := n) (w := w) (i := 3) (L := 1000) (turn := rowsT pg (callI pg (k + 3))) (Ok := IsRow w) (σ0 := fun σ => σ.length = 6 ∧ σ[0]? = some (.val (.ref n)) ∧ σ[1]? = some (.val (.int w)))
    (fun x σ μ N ds hL h0 h3 p => rows_turn HS k p hw h0 h3 hL) ((List.range m).map fun k => .int (0 + (k : Nat))) [.val (.ref n), .val (.int w), .val (.int m), .own [], .emp, .emp] μ N [] (by simp; omega) ⟨rfl, rfl, rfl⟩ rfl (by simpa using p)
  refine ⟨es, μ', ?_, by simpa using l, o, p', s⟩
  have h : callI pg (k + 4) 6 [.ref n, .int w, .int m] μ = runF pg (callI pg (k + 3)) ⟨6, 3, b6⟩ [.ref n, .int w, .int m] μ := callI_fn HS.f6
  have ei := it_range1s (pg := pg) (cf := callI pg (k + 3)) (o := false) (σ := [.val (.ref n), .val (.int w), .val (.int m), .own [], .emp, .emp]) (μ := μ) (i := 2) (w := m) rfl hm
  have ef : evS pg (callI pg (k + 3)) (.forr (.v 4) (.range1 (.v 2)) (.cons (.app 3 (.bi .tuple (.cons (.lst .fz lineE) .nil))) .nil)) [.val (.ref n), .val (.int w), .val (.int m), .own [], .emp, .emp] μ = .next σ' μ' := by
    unfold evS
    rw [ei, ok_st]
    exact e
  rw [h]
  have e5 : b6 = .cons (.own 3 (.disp .nil)) (.cons (.forr (.v 4) (.range1 (.v 2)) (.cons (.app 3 (.bi .tuple (.cons (.lst .fz lineE) .nil))) .nil)) (.cons (.ret (.bi .tuple (.cons (.v 3) .nil))) .nil)) := rfl
  rw [e5]
  have h3 : σ'[3]? = some (.own es) := by simpa using h3
  have e6 : evS pg (callI pg (k + 3)) (.own 3 (.disp .nil)) [.val (.ref n), .val (.int w), .val (.int m), .emp, .emp, .emp] μ = .next [.val (.ref n), .val (.int w), .val (.int m), .own [], .emp, .emp] μ := by
    simp [evS, evL, evEs]
  have e7 : evS pg (callI pg (k + 3)) (.ret (.bi .tuple (.cons (.v 3) .nil))) σ' μ' = .ret (.tup es) μ' := by
    simp [evS, evE, evEs, rdO, h3]
  have e8 : evB pg (callI pg (k + 3)) (.cons (.own 3 (.disp .nil)) (.cons (.forr (.v 4) (.range1 (.v 2)) (.cons (.app 3 (.bi .tuple (.cons (.lst .fz lineE) .nil))) .nil)) (.cons (.ret (.bi .tuple (.cons (.v 3) .nil))) .nil))) [.val (.ref n), .val (.int w), .val (.int m), .emp, .emp, .emp] μ = .ret (.tup es) μ' := by
    rw [evB_cons, e6, next_bind, evB_cons, ef, next_bind, evB_cons, e7, ret_bind]
  exact runF_ret rfl rfl e8
def words : List D := [.str "a", .str "b", .str "c", .str "ab", .str "abcdefgh", .str "x", .str "row", .str "z"]
def wordsT (pg : Pg) (cf : CF) : D → Slots → Store → SR := fun x σ1 μ2 => match bindT (.v 4) x σ1 with
  | some σ2 => evB pg cf (.cons (.set (.v 5) (.call 1 (.cons (.v 0) (.cons (.bi .len (.cons (.v 2) .nil)) .nil)))) (.cons (.apppop 3 2 (.v 5)) .nil)) σ2 μ2
  | none => .bad
theorem erase_perm {α : Type} : ∀ {ds : List α} {i : Nat} (h : i < ds.length), (ds[i] :: ds.eraseIdx i).Perm ds
  | d :: ds, 0, _ => .refl _
  | d :: ds, i + 1, h => by
    have hi : i < ds.length := by simpa using h
    have ih := erase_perm hi
    show (ds[i] :: d :: ds.eraseIdx i).Perm (d :: ds)
    exact (List.Perm.swap _ _ _).trans (ih.cons d)
theorem popIx_nat {ds : List D} {r : Int} (h0 : 0 ≤ r) (h1 : r < ds.length) : ∃ d es, popIx ds r = some (d, es) ∧ (d :: es).Perm ds := by
  have hl : r.toNat < ds.length := by omega
  refine ⟨ds[r.toNat], ds.eraseIdx r.toNat, ?_, erase_perm hl⟩
  unfold popIx ixN
  rw [if_pos h0, if_pos (by omega)]
  simp [hl]

def WSt (n : Nat) (σ : Slots) : Prop := σ.length = 6 ∧ σ[0]? = some (.val (.ref n)) ∧ ∃ so fo : List D, σ[2]? = some (.own so) ∧ σ[3]? = some (.own fo) ∧ (fo ++ so).Perm words
theorem words_turn {pg : Pg} (HS : Hs pg) (k : Nat) {n N : Nat} {μ : Store} {σ : Slots} {x : D} {ds : List D} (p : PotB μ n (N + 1)) (hd : ds.length < 8) (h : WSt n σ) (h3 : σ[3]? = some (.own ds)) :
    ∃ d σ' μ', wordsT pg (callI pg (k + 1)) x σ μ = .next σ' μ' ∧ WSt n σ' ∧ σ'[3]? = some (.own (ds ++ [d])) ∧ True ∧ PotB μ' n N ∧ Same n μ μ' := by
  obtain ⟨hl, h0, so, fo, h2, h3', hp⟩ := h
  rw [h3] at h3'
  cases h3'
  have hb : bindT (.v 4) x σ = some (σ.set 4 (.val x)) := bindT_v (by rw [hl]; decide)
  have l4 : (σ.set 4 (.val x)).length = 6 := by rw [List.length_set]; exact hl
  have g0 : (σ.set 4 (.val x))[0]? = some (.val (.ref n)) := by rw [List.getElem?_set_ne (by decide)]; exact h0
  have g2 : (σ.set 4 (.val x))[2]? = some (.own so) := by rw [List.getElem?_set_ne (by decide)]; exact h2
  have g3 : (σ.set 4 (.val x))[3]? = some (.own ds) := by rw [List.getElem?_set_ne (by decide)]; exact h3
  generalize σ.set 4 (.val x) = σ2 at hb l4 g0 g2 g3
  have hlen : ds.length + so.length = 8 := by
    have := hp.length_eq
    rw [List.length_append] at this
    exact this
  obtain ⟨r, μ', e, r0, r1, p', s⟩ := c_drawB HS k p (m := so.length) (by omega) (by omega)
  obtain ⟨d, es, e2, pe⟩ := popIx_nat r0 r1
  have hs := sizeLine_eq
  have q0 : (σ2.set 5 (.val (.int r)))[2]? = some (.own so) := by rw [List.getElem?_set_ne (by decide)]; exact g2
  have q1 : (σ2.set 5 (.val (.int r)))[3]? = some (.own ds) := by rw [List.getElem?_set_ne (by decide)]; exact g3
  have q2 : (σ2.set 5 (.val (.int r)))[5]? = some (.val (.int r)) := List.getElem?_set_self (by rw [l4]; decide)
  have q3 : (σ2.set 5 (.val (.int r)))[0]? = some (.val (.ref n)) := by rw [List.getElem?_set_ne (by decide)]; exact g0
  have q4 : (σ2.set 5 (.val (.int r))).length = 6 := by rw [List.length_set]; exact l4
  have b5 : bindT (.v 5) (.int r) σ2 = some (σ2.set 5 (.val (.int r))) := bindT_v (by rw [l4]; decide)
  have e1 : evS pg (callI pg (k + 1)) (.set (.v 5) (.call 1 (.cons (.v 0) (.cons (.bi .len (.cons (.v 2) .nil)) .nil)))) σ2 μ = .next (σ2.set 5 (.val (.int r))) μ' := by
    simp [evS, evE, evEs, rd, rdO, g0, g2, e, b5]
  generalize σ2.set 5 (.val (.int r)) = σ3 at q0 q1 q2 q3 q4 b5 e1
  refine ⟨d, (σ3.set 2 (.own es)).set 3 (.own (ds ++ [d])), μ', ?_, ⟨by simp [q4], by simp [q3], es, ds ++ [d], by simp [q4], by simp [q4], ?_⟩, by simp [q4], trivial, p', s⟩
  · unfold wordsT
    rw [hb]
    show evB _ _ _ _ _ = _
    rw [evB_cons, e1, next_bind, evB_cons]
    have c1 : ds.length < sizeLine := by omega
    have c2 : so.length ≤ sizeLine := by omega
    simp [evS, q0, q1, evE, rd, q2, e2, c1, c2, evB]
  · rw [List.append_assoc]
    exact (List.Perm.append_left ds pe).trans hp

/-- _law_words -/
theorem c_words {pg : Pg} (HS : Hs pg) (k : Nat) {n N m : Nat} {μ : Store} (p : PotB μ n (N + m)) (hm : m ≤ 8) :
    ∃ ws μ', callI pg (k + 2) 4 [.ref n, .int m] μ = .ok (.tup ws) μ' ∧ ws.length = m ∧ (∃ r, (ws ++ r).Perm words) ∧ PotB μ' n N ∧ Same n μ μ' := by
  obtain ⟨es, σ', μ', e, ⟨_, _, so, fo, _, f3, pe⟩, h3, l, o, p', s⟩ := for_turns (n := n) (w := 1) (i := 3) (L := 8) (turn := wordsT pg (callI pg (k + 1))) (Ok := fun _ => True) (σ0 := WSt n)
    (fun x σ μ N ds hL h0 h3 p => words_turn HS k p hL h0 h3) ((List.range m).map fun k => .int (0 + (k : Nat))) [.val (.ref n), .val (.int m), .own words, .own [], .emp, .emp] μ N [] (by simp; omega) ⟨rfl, rfl, words, [], rfl, rfl, .refl _⟩ rfl (by simpa using p)
  have h3 : σ'[3]? = some (.own es) := by simpa using h3
  rw [h3] at f3
  cases f3
  refine ⟨es, μ', ?_, by simpa using l, ⟨so, pe⟩, p', s⟩
  have h : callI pg (k + 2) 4 [.ref n, .int m] μ = runF pg (callI pg (k + 1)) ⟨6, 2, b4⟩ [.ref n, .int m] μ := callI_fn HS.f4
  have ei := it_range1s (pg := pg) (cf := callI pg (k + 1)) (o := false) (σ := [.val (.ref n), .val (.int m), .own words, .own [], .emp, .emp]) (μ := μ) (i := 1) (w := m) rfl (by omega)
  rw [h]
  refine runF_ret (σ := [.val (.ref n), .val (.int m), .emp, .emp, .emp, .emp]) rfl rfl ?_
  unfold b4
  have e6 : evS pg (callI pg (k + 1)) (.par 2 3 (.l (.disp (.cons (.str "a") (.cons (.str "b") (.cons (.str "c") (.cons (.str "ab") (.cons (.str "abcdefgh") (.cons (.str "x") (.cons (.str "row") (.cons (.str "z") .nil)))))))))) (.l (.disp .nil))) [.val (.ref n), .val (.int m), .emp, .emp, .emp, .emp] μ = .next [.val (.ref n), .val (.int m), .own words, .own [], .emp, .emp] μ := by
    simp [evS, evV, evL, evEs, evE, words]
  rw [evB_cons, e6, next_bind, evB_cons]
  have ef : evS pg (callI pg (k + 1)) (.forr (.v 4) (.range1 (.v 1)) (.cons (.set (.v 5) (.call 1 (.cons (.v 0) (.cons (.bi .len (.cons (.v 2) .nil)) .nil)))) (.cons (.apppop 3 2 (.v 5)) .nil))) [.val (.ref n), .val (.int m), .own words, .own [], .emp, .emp] μ = .next σ' μ' := by
    unfold evS
    rw [ei, ok_st]
    exact e
  have e7 : evS pg (callI pg (k + 1)) (.ret (.bi .tuple (.cons (.v 3) .nil))) σ' μ' = .ret (.tup es) μ' := by
    simp [evS, evE, evEs, rdO, h3]
  rw [ef, next_bind, evB_cons, e7, ret_bind]
end T.Lib
end

section
namespace T.Lib
open PySem PySem.Spec L2 T
theorem word_ok {pg : Pg} (HS : Hs pg) (k : Nat) (μ : Store) {d : D} (h : d ∈ words) : callI pg (k + 1) 11 [d] μ = .ok (.bl true) μ := by
  rw [callI_fn HS.f11]
  generalize callI pg k = cf
  simp only [words, List.mem_cons, List.not_mem_nil, or_false] at h
  rcases h with rfl | rfl | rfl | rfl | rfl | rfl | rfl | rfl <;> kernel_rfl
theorem c_within_str {pg : Pg} (HS : Hs pg) (k : Nat) (x : Str) (a b : D) (μ : Store) : callI pg (k + 2) 13 [.str x, a, b] μ = .ok (.bl false) μ := by
  have e := c_int_str HS k x μ
  rw [callI_fn HS.f13]
  generalize callI pg (k + 1) = cf at e
  simp [runF, b13, evB, evS, evE, evEs, evBo, rd, rdO, e]
theorem cell_int {pg : Pg} (HS : Hs pg) (k : Nat) (μ : Store) {i : Int} (h : -999 ≤ i ∧ i ≤ 999) : callI pg (k + 3) 12 [.int i] μ = .ok (.bl true) μ := by
  have e := c_within HS k i (-999) 999 μ
  rw [callI_fn HS.f12]
  generalize callI pg (k + 2) = cf at e
  have h1 : decide (-999 ≤ i) = true := decide_eq_true h.1
  have h2 : decide (i ≤ 999) = true := decide_eq_true h.2
  rw [h1, h2] at e
  simp [runF, b12, evB, evS, evE, evEs, evBo, rd, rdO, isNon, e]
theorem cell_str {pg : Pg} (HS : Hs pg) (k : Nat) (μ : Store) {x : Str} (h : .str x ∈ words) : callI pg (k + 3) 12 [.str x] μ = .ok (.bl true) μ := by
  have e := c_within_str HS k x (.int (-999)) (.int 999) μ
  have e2 := word_ok HS (k + 1) μ h
  rw [callI_fn HS.f12]
  generalize callI pg (k + 2) = cf at e e2
  simp [runF, b12, evB, evS, evE, evEs, evBo, rd, rdO, isNon, e, e2]
theorem cell_ok {pg : Pg} (HS : Hs pg) (k : Nat) (μ : Store) {d : D} (h : d ∈ cells) : callI pg (k + 3) 12 [d] μ = .ok (.bl true) μ := by
  simp only [cells, List.mem_cons, List.not_mem_nil, or_false] at h
  rcases h with rfl | rfl | rfl | rfl | rfl | rfl | rfl | rfl | rfl | rfl | rfl | rfl
  · exact cell_int HS k μ (by decide)
  · exact cell_int HS k μ (by decide)
  · rw [callI_fn HS.f12]; rfl
  · exact cell_int HS k μ (by decide)
  · exact cell_str HS k μ (by simp [words])
  · exact cell_int HS k μ (by decide)
  · exact cell_str HS k μ (by simp [words])
  · exact cell_int HS k μ (by decide)
  · exact cell_int HS k μ (by decide)
  · exact cell_int HS k μ (by decide)
  · exact cell_int HS k μ (by decide)
  · exact cell_str HS k μ (by simp [words])
theorem lc_pure {step : D → Store → Res (Option D)} {f : D → D} {μ : Store} : ∀ (xs : List D), (∀ x ∈ xs, step x μ = .ok (some (f x)) μ) → lcGo step xs μ = .ok (xs.map f) μ
  | [], _ => rfl
  | x :: xs, h => by
    have ih := lc_pure xs fun y hy => h y (List.mem_cons_of_mem _ hy)
    simp [lcGo, h x List.mem_cons_self, ih]

theorem boolsD_true : ∀ (xs : List D), boolsD (xs.map fun _ => D.bl true) = some (xs.map fun _ => true)
  | [] => rfl
  | x :: xs => by
    show (boolsD (xs.map fun _ => D.bl true)).map (true :: ·) = _
    rw [boolsD_true xs]
    rfl
theorem all_true {μ : Store} (xs : List D) : biD μ .all [.lst (xs.map fun _ => D.bl true)] = some (.bl true) := by
  show ((lview μ (.lst (xs.map fun _ => D.bl true))).bind boolsD).map (fun bs => D.bl (bs.all id)) = _
  show ((some (xs.map fun _ => D.bl true)).bind boolsD).map (fun bs => D.bl (bs.all id)) = _
  rw [Option.bind_some, boolsD_true, Option.map_some]
  congr 2
  simp
/-- all([f(x) for x in xs]), f(x) true for each -/
theorem all_comp {pg : Pg} {cf : CF} {f i : Nat} {σ : Slots} {μ : Store} {cs : List D} {a : IE} (ha : evE pg cf true a σ μ = .ok (.tup cs) μ) (hi : i < σ.length) (hl : cs.length ≤ sizeLine) (h : ∀ c ∈ cs, cf f [c] μ = .ok (.bl true) μ) :
    evE pg cf o (.bi .all (.cons (.lst .fz (.comp (.call f (.cons (.v i) .nil)) (.v i) (.seq a) .nil)) .nil)) σ μ = .ok (.bl true) μ := by
  have e1 : evIt pg cf true (.seq a) σ μ = .ok cs μ := by
    unfold evIt
    rw [ha]
    rfl
  have e2 : lcGo (lcStep pg cf (.call f (.cons (.v i) .nil)) (.v i) .nil σ) cs μ = .ok (cs.map fun _ => .bl true) μ := by
    refine lc_pure cs fun x hx => ?_
    have hb : bindT (.v i) x (wipeS σ [i]) = some ((wipeS σ [i]).set i (.val x)) := bindT_v (by rw [wipeS_len]; exact hi)
    have hg : ((wipeS σ [i]).set i (.val x))[i]? = some (.val x) := List.getElem?_set_self (by rw [wipeS_len]; exact hi)
    unfold lcStep
    simp [Tg.slots, hb, evTs, evE, evEs, rd, hg, h x hx]
  have e3 : evL pg cf (.comp (.call f (.cons (.v i) .nil)) (.v i) (.seq a) .nil) σ μ = .ok (cs.map fun _ => .bl true) μ := by
    rw [evL_comp, e1, ok_bind, if_neg (by omega), e2, ok_nox]
  have e4 : evEs pg cf true (.cons (.lst .fz (.comp (.call f (.cons (.v i) .nil)) (.v i) (.seq a) .nil)) .nil) σ μ = .ok [.lst (cs.map fun _ => .bl true)] μ := by
    show (evE pg cf true (.lst .fz (.comp (.call f (.cons (.v i) .nil)) (.v i) (.seq a) .nil)) σ μ).bind _ = _
    rw [show evE pg cf true (.lst .fz (.comp (.call f (.cons (.v i) .nil)) (.v i) (.seq a) .nil)) σ μ = (evL pg cf (.comp (.call f (.cons (.v i) .nil)) (.v i) (.seq a) .nil) σ μ).bind fun ds μ1 => .ok (.lst ds) μ1 from rfl, e3]
    rfl
  show (evEs pg cf true _ σ μ).bind _ = _
  rw [e4, ok_bind, all_true]
  rfl
theorem row_ok {pg : Pg} (HS : Hs pg) (k : Nat) (μ : Store) {w : Nat} {d : D} (h : IsRow w d) (hw : w < 1000) : callI pg (k + 4) 10 [d, .int w] μ = .ok (.bl true) μ := by
  obtain ⟨cs, rfl, l, o⟩ := h
  have hs := sizeLine_eq
  have hf : callI pg (k + 4) 10 [.tup cs, .int w] μ = runF pg (callI pg (k + 3)) ⟨3, 2, b10⟩ [.tup cs, .int w] μ := callI_fn HS.f10
  rw [hf]
  refine runF_ret (σ := [.val (.tup cs), .val (.int w), .emp]) rfl rfl ?_
  have ea := all_comp (o := false) (pg := pg) (cf := callI pg (k + 3)) (f := 12) (i := 2) (σ := [.val (.tup cs), .val (.int w), .emp]) (μ := μ) (cs := cs) (a := .v 0) rfl (by simp) (by omega) fun c hc => cell_ok HS k μ (o c hc)
  unfold b10
  rw [evB_cons]
  simp only [evE] at ea
  simp [evS, evE, evEs, evBo, rd, rdO, tyOf, l]
  simp [evEs, evE] at ea
  rw [ea]
  rfl
theorem metS_nodup (xs : List Str) (h : xs.Nodup) : metS xs = xs := by
  suffices key : ∀ (xs l : List Str), (l ++ xs).Nodup → xs.foldl (fun l x => if l.contains x then l else l ++ [x]) l = l ++ xs by
    have := key xs [] (by simpa using h)
    simpa [metS] using this
  intro xs
  induction xs with
  | nil => intro l _; simp
  | cons x xs ih =>
    intro l hn
    have hx : ¬ (l.contains x = true) := by
      intro hc
      have hm : x ∈ l := by simpa using hc
      exact (List.nodup_append.mp hn).2.2 x hm x (by simp) rfl
    rw [List.foldl_cons, if_neg hx, ih (l ++ [x]) (by simpa using hn)]
    simp
/-- heads of a table: words, no one twice -/
def strs8 : List Str := ["a", "b", "c", "ab", "abcdefgh", "x", "row", "z"]
theorem words_eq : words = strs8.map D.str := rfl
theorem strsD_map : ∀ xs : List Str, strsD (xs.map D.str) = some xs
  | [] => rfl
  | x :: xs => by
    show (strsD (xs.map D.str)).map (x :: ·) = _
    rw [strsD_map xs]
    rfl
/-- what words are -/
def Heads (ds : List D) : Prop := ∃ xs : List Str, ds = xs.map D.str ∧ xs.Nodup ∧ ∀ x ∈ xs, x ∈ strs8

theorem of_map : ∀ (ds : List D) (xs : List Str), (∀ d ∈ ds, d ∈ xs.map D.str) → ∃ ys : List Str, ds = ys.map D.str ∧ ∀ y ∈ ys, y ∈ xs
  | [], _, _ => ⟨[], rfl, by simp⟩
  | d :: ds, xs, h => by
    obtain ⟨ys, e, o⟩ := of_map ds xs fun y hy => h y (List.mem_cons_of_mem _ hy)
    obtain ⟨y, hy, rfl⟩ := List.mem_map.mp (h d List.mem_cons_self)
    refine ⟨y :: ys, by rw [e]; rfl, fun z hz => ?_⟩
    rcases List.mem_cons.mp hz with rfl | hz
    · exact hy
    · exact o z hz
theorem heads_of {ws r : List D} (h : (ws ++ r).Perm words) : Heads ws := by
  obtain ⟨ys, e, o⟩ := of_map ws strs8 fun d hd => by
    rw [← words_eq]
    exact h.mem_iff.mp (by simp [hd])
  refine ⟨ys, e, ?_, o⟩
  have hn : words.Nodup := by
    rw [words_eq]
    have : strs8.Nodup := by decide
    exact List.Pairwise.map _ (fun a b hab z => hab (by cases z; rfl)) this
  have h2 : (ws ++ r).Nodup := h.nodup_iff.mpr hn
  have h3 : ws.Nodup := (List.nodup_append.mp h2).1
  subst e
  exact (List.pairwise_map.mp h3).imp fun hab z => hab (by rw [z])

theorem columns_ok {pg : Pg} (HS : Hs pg) (k : Nat) (μ : Store) {ds : List D} (h : Heads ds) (h1 : 1 ≤ ds.length) (h3 : ds.length ≤ 3) : callI pg (k + 2) 9 [.tup ds] μ = .ok (.bl true) μ := by
  obtain ⟨xs, rfl, nd, o⟩ := h
  have hs := sizeLine_eq
  rw [List.length_map] at h1 h3
  have hf : callI pg (k + 2) 9 [.tup (xs.map .str)] μ = runF pg (callI pg (k + 1)) ⟨2, 1, b9⟩ [.tup (xs.map .str)] μ := callI_fn HS.f9
  rw [hf]
  refine runF_ret (σ := [.val (.tup (xs.map .str)), .emp]) rfl rfl ?_
  have ea := all_comp (o := false) (pg := pg) (cf := callI pg (k + 1)) (f := 11) (i := 1) (σ := [.val (.tup (xs.map .str)), .emp]) (μ := μ) (cs := xs.map .str) (a := .v 0) rfl (by simp) (by rw [List.length_map]; omega) fun c hc => by
    obtain ⟨x, hx, rfl⟩ := List.mem_map.mp hc
    exact word_ok HS k μ (by rw [words_eq]; exact List.mem_map.mpr ⟨x, o x hx, rfl⟩)
  have el : biD μ .lenset [.tup (xs.map .str)] = some (.int xs.length) := by
    show (strsD (xs.map .str)).bind _ = _
    rw [strsD_map, Option.bind_some, if_pos (by omega), metS_nodup xs nd]
  unfold b9
  simp only [evB_cons]
  simp only [evE] at ea
  simp [evEs, evE] at ea
  have c1 : (1 : Int) ≤ xs.length := by omega
  have c2 : (xs.length : Int) ≤ 3 := by omega
  simp [evS, evE, evEs, evBo, rd, rdO, tyOf, el, c1, c2, evB]
  rw [ea]
  simp [el]
theorem belows_all {n : Nat} : ∀ {ds : List D}, (∀ d ∈ ds, below n d = true) → belows n ds = true
  | [], _ => by simp [belows]
  | d :: ds, h => by
    simp only [belows, Bool.and_eq_true]
    exact ⟨h d List.mem_cons_self, belows_all fun x hx => h x (List.mem_cons_of_mem _ hx)⟩
theorem heads_below {n : Nat} {hs : List D} (h : Heads hs) : belows n hs = true := by
  obtain ⟨xs, rfl, _, _⟩ := h
  refine belows_all fun d hd => ?_
  obtain ⟨x, _, rfl⟩ := List.mem_map.mp hd
  simp [below]
theorem cell_below {n : Nat} {d : D} (h : d ∈ cells) : below n d = true := by
  simp only [cells, List.mem_cons, List.not_mem_nil, or_false] at h
  rcases h with rfl | rfl | rfl | rfl | rfl | rfl | rfl | rfl | rfl | rfl | rfl | rfl <;> simp [below]
theorem row_below {n w : Nat} {d : D} (h : IsRow w d) : below n d = true := by
  obtain ⟨cs, rfl, _, o⟩ := h
  simp only [below]
  exact belows_all fun c hc => cell_below (o c hc)
/-- the store holds pots alone -/
def Pots (μ : Store) : Prop := ∀ o ∈ μ, ∃ a b c : Int, o = .lst [.int a, .int b, .int c]
theorem pots_below {μ : Store} (h : Pots μ) (n : Nat) : μ.all (Ob.below n) = true := by
  refine List.all_eq_true.mpr fun o ho => ?_
  obtain ⟨a, b, c, rfl⟩ := h o ho
  simp [Ob.below, belows, below]
def initT (pg : Pg) (cf : CF) : D → Slots → Store → SR := fun x σ1 μ2 => match bindT (.v 3) x σ1 with
  | some σ2 => evB pg cf (.cons (.iff (.nt (.call 10 (.cons (.v 3) (.cons (.bi .len (.cons (.v 1) .nil)) .nil)))) (.cons (.rais 2 (.v 3)) .nil) .nil) .nil) σ2 μ2
  | none => .bad
theorem init_turns {pg : Pg} (HS : Hs pg) (k : Nat) (μ : Store) {n : Nat} {hs rw : List D} (hw : hs.length < 1000) : ∀ (rows : List D), (∀ r ∈ rows, IsRow hs.length r) → ∀ σ : Slots, σ.length = 4 → σ[0]? = some (.val (.ref n)) → σ[1]? = some (.val (.tup hs)) → σ[2]? = some (.val (.tup rw)) →
    ∃ σ', forGo (initT pg (callI pg (k + 4))) rows σ μ = .next σ' μ ∧ σ'.length = 4 ∧ σ'[0]? = some (.val (.ref n)) ∧ σ'[1]? = some (.val (.tup hs)) ∧ σ'[2]? = some (.val (.tup rw))
  | [], _, σ, l, h0, h1, h2 => ⟨σ, rfl, l, h0, h1, h2⟩
  | r :: rows, hr, σ, l, h0, h1, h2 => by
    have hb : bindT (.v 3) r σ = some (σ.set 3 (.val r)) := bindT_v (by rw [l]; decide)
    have l4 : (σ.set 3 (.val r)).length = 4 := by rw [List.length_set]; exact l
    have g0 : (σ.set 3 (.val r))[0]? = some (.val (.ref n)) := by rw [List.getElem?_set_ne (by decide)]; exact h0
    have g1 : (σ.set 3 (.val r))[1]? = some (.val (.tup hs)) := by rw [List.getElem?_set_ne (by decide)]; exact h1
    have g2 : (σ.set 3 (.val r))[2]? = some (.val (.tup rw)) := by rw [List.getElem?_set_ne (by decide)]; exact h2
    have g3 : (σ.set 3 (.val r))[3]? = some (.val r) := List.getElem?_set_self (by rw [l]; decide)
    generalize σ.set 3 (.val r) = σ2 at hb l4 g0 g1 g2 g3
    obtain ⟨σ', e, r'⟩ := init_turns HS k μ hw rows (fun x hx => hr x (List.mem_cons_of_mem _ hx)) σ2 l4 g0 g1 g2
    refine ⟨σ', ?_, r'⟩
    have e1 : initT pg (callI pg (k + 4)) r σ μ = .next σ2 μ := by
      unfold initT
      rw [hb]
      show evB _ _ _ _ _ = _
      rw [evB_cons]
      have er := row_ok HS k μ (hr r List.mem_cons_self) hw
      simp [evS, evE, evEs, rd, rdO, g1, g3, er, evB]
    show (match initT pg (callI pg (k + 4)) r σ μ with | .next σ1 μ1 => _ | .cont σ1 μ1 => _ | .brk σ1 μ1 => _ | r => _) = _
    rw [e1]
    exact e
theorem c_init {pg : Pg} (HS : Hs pg) (k : Nat) {μ : Store} {hs rows : List D} (hh : Heads hs) (h1 : 1 ≤ hs.length) (h3 : hs.length ≤ 3) (hr : ∀ r ∈ rows, IsRow hs.length r) (h6 : rows.length ≤ 6) :
    callI pg (k + 5) 7 [.ref μ.length, .tup hs, .tup rows] (μ ++ [.ins 0 [] []]) = .ok .non (μ ++ [.ins 0 [0, 1] [.tup hs, .tup rows]]) := by
  have hf : callI pg (k + 5) 7 [.ref μ.length, .tup hs, .tup rows] (μ ++ [.ins 0 [] []]) = runF pg (callI pg (k + 4)) ⟨4, 3, b7⟩ [.ref μ.length, .tup hs, .tup rows] (μ ++ [.ins 0 [] []]) := callI_fn HS.f7
  rw [hf]
  obtain ⟨σ', e, l', q0, q1, q2⟩ := init_turns HS k (μ ++ [.ins 0 [] []]) (n := μ.length) (hs := hs) (rw := rows) (by omega) rows hr [.val (.ref μ.length), .val (.tup hs), .val (.tup rows), .emp] rfl rfl rfl rfl
  refine runF_next (σ := [.val (.ref μ.length), .val (.tup hs), .val (.tup rows), .emp]) (σ' := σ') rfl rfl ?_
  have ec := columns_ok HS (k + 2) (μ ++ [.ins 0 [] []]) hh h1 h3
  have e1 : evS pg (callI pg (k + 4)) (.iff (.nt (.call 9 (.cons (.v 1) .nil))) (.cons (.rais 0 (.v 1)) .nil) .nil) [.val (.ref μ.length), .val (.tup hs), .val (.tup rows), .emp] (μ ++ [.ins 0 [] []]) = .next [.val (.ref μ.length), .val (.tup hs), .val (.tup rows), .emp] (μ ++ [.ins 0 [] []]) := by
    simp [evS, evE, evEs, rd, ec, evB]
  have e2 : evS pg (callI pg (k + 4)) (.iff (.nt (.isi (.v 2) .tuple)) (.cons (.rais 1 (.v 2)) .nil) .nil) [.val (.ref μ.length), .val (.tup hs), .val (.tup rows), .emp] (μ ++ [.ins 0 [] []]) = .next [.val (.ref μ.length), .val (.tup hs), .val (.tup rows), .emp] (μ ++ [.ins 0 [] []]) := by
    simp [evS, evE, evEs, rdO, tyOf, evB]
  have h6' : ¬ (6 : Int) < rows.length := by omega
  have e3 : evS pg (callI pg (k + 4)) (.iff (.cmp .Gt (.bi .len (.cons (.v 2) .nil)) (.gi "MOST_ROWS" 6)) (.cons (.rais 3 (.gi "MOST_ROWS" 6)) .nil) .nil) [.val (.ref μ.length), .val (.tup hs), .val (.tup rows), .emp] (μ ++ [.ins 0 [] []]) = .next [.val (.ref μ.length), .val (.tup hs), .val (.tup rows), .emp] (μ ++ [.ins 0 [] []]) := by
    simp [evS, evE, evEs, rdO, h6', evB]
  have ei : evIt pg (callI pg (k + 4)) false (.seq (.v 2)) [.val (.ref μ.length), .val (.tup hs), .val (.tup rows), .emp] (μ ++ [.ins 0 [] []]) = .ok rows (μ ++ [.ins 0 [] []]) := by
    simp [evIt, evE, rd]
  have e4 : evS pg (callI pg (k + 4)) (.forr (.v 3) (.seq (.v 2)) (.cons (.iff (.nt (.call 10 (.cons (.v 3) (.cons (.bi .len (.cons (.v 1) .nil)) .nil)))) (.cons (.rais 2 (.v 3)) .nil) .nil) .nil)) [.val (.ref μ.length), .val (.tup hs), .val (.tup rows), .emp] (μ ++ [.ins 0 [] []]) = .next σ' (μ ++ [.ins 0 [] []]) := by
    unfold evS
    rw [ei, ok_st]
    exact e
  have e5 : evS pg (callI pg (k + 4)) (.setfld (.v 0) 0 (.v 1)) σ' (μ ++ [.ins 0 [] []]) = .next σ' (μ ++ [.ins 0 [0] [.tup hs]]) := by
    simp [evS, evE, rd, q0, q1, putAt]
  have e6 : evS pg (callI pg (k + 4)) (.setfld (.v 0) 1 (.v 2)) σ' (μ ++ [.ins 0 [0] [.tup hs]]) = .next σ' (μ ++ [.ins 0 [0, 1] [.tup hs, .tup rows]]) := by
    simp [evS, evE, rd, q0, q2, putAt]
  unfold b7
  rw [evB_cons, e1, next_bind, evB_cons, e2, next_bind, evB_cons, e3, next_bind, evB_cons, e4, next_bind, evB_cons, e5, next_bind, evB_cons, e6, next_bind]
  rfl
/-- a table -/
def tabD (hs rows : List D) : D := .ins 0 [0, 1] [.tup hs, .tup rows]
/-- what a table is made of -/
structure Fit (hs rows : List D) : Prop where
  h : Heads hs
  lo : 1 ≤ hs.length
  hi : hs.length ≤ 3
  r : ∀ r ∈ rows, IsRow hs.length r
  m : rows.length ≤ 6
theorem new_table {pg : Pg} (HS : Hs pg) (k : Nat) {μ : Store} {hs rows : List D} (f : Fit hs rows) (hp : Pots μ) : newD pg (callI pg (k + 5)) 0 [.tup hs, .tup rows] μ = .ok (tabD hs rows) μ := by
  have e := c_init HS k (μ := μ) f.h f.lo f.hi f.r f.m
  have hb : belows μ.length [.tup hs, .tup rows] = true := by
    simp only [belows, below, Bool.and_eq_true, Bool.and_true]
    exact ⟨heads_below f.h, belows_all fun r hr => row_below (f.r r hr)⟩
  unfold newD
  have e : callI pg (k + 5) (pg.init 0) (.ref μ.length :: [.tup hs, .tup rows]) (μ ++ [.ins 0 [] []]) = .ok .non (μ ++ [.ins 0 [0, 1] [.tup hs, .tup rows]]) := by rw [HS.i0]; exact e
  rw [e]
  simp [hb, pots_below hp, tabD]
end T.Lib
end

section
namespace T.Lib
open PySem PySem.Spec L2 T
/-! ### tables as data -/
def atoms : List PyData := [.none, .int 1, .int 2, .int (-3), .int 0, .int 999, .int (-999), .str "a", .str "b", .str "c", .str "ab", .str "abcdefgh", .str "x", .str "row", .str "z"]
theorem atoms_ok : okA atoms = true := by decide +kernel
theorem atoms_bl : atoms.all noBl = true := by decide +kernel
/-- a tree of these atoms, of a depth, of a length of its text -/
structure Dt (d : D) (x : PyData) (n L : Nat) : Prop where
  py : toPy d = some x
  g : Gen atoms x
  lay : x.canLay0 = true
  sh : x.showable = true
  nd : x.hasDict = false
  dp : x.depth ≤ n
  ln : x.shown.length ≤ L
theorem toPys_all {n L : Nat} : ∀ (ds : List D), (∀ d ∈ ds, ∃ x, Dt d x n L) → ∃ xs, toPys ds = some xs ∧ xs.length = ds.length ∧ (∀ x ∈ xs, Gen atoms x) ∧ PyData.canLayAll0 xs = true ∧ PyData.showableAll xs = true ∧ PyData.hasDictAll xs = false ∧ PyData.depthAll xs ≤ n ∧ piled (PyData.shownAll xs) ≤ ds.length * (L + 2)
  | [], _ => ⟨[], by simp [toPys], rfl, by simp, by simp [PyData.canLayAll0], by simp [PyData.showableAll], by simp [PyData.hasDictAll], by simp [PyData.depthAll], by simp [PyData.shownAll, piled]⟩
  | d :: ds, h => by
    obtain ⟨x, hx⟩ := h d List.mem_cons_self
    obtain ⟨xs, e, l, g, c, s, nd, dp, p⟩ := toPys_all ds fun y hy => h y (List.mem_cons_of_mem _ hy)
    refine ⟨x :: xs, by simp [toPys, hx.py, e], by simp [l], fun y hy => ?_, by simp [PyData.canLayAll0, hx.lay, c], by simp [PyData.showableAll, hx.sh, s], by simp [PyData.hasDictAll, hx.nd, nd], by simp only [PyData.depthAll]; exact Nat.max_le.mpr ⟨hx.dp, dp⟩, ?_⟩
    · rcases List.mem_cons.mp hy with rfl | hy
      · exact hx.g
      · exact g y hy
    · simp only [PyData.shownAll, piled_cons]
      have := hx.ln
      rw [List.length_cons, Nat.succ_mul]
      omega
theorem tup_len (ts : List Str) : (tupleText ts).length ≤ piled ts + 3 := by
  unfold tupleText
  rw [strLen_append, strLen_append]
  have e1 : ((("(" : String) : Str)).length = 1 := rfl
  have e3 : (((if ts.length == 1 then ",)" else ")" : String) : Str)).length ≤ 2 := by split <;> decide
  rw [e1]
  by_cases h : ts = []
  · subst h
    have : (Str.join ", " []).length = 0 := rfl
    rw [this]
    omega
  · have := join_length_add ts h
    omega
theorem dt_tup {ds : List D} {n L : Nat} (h : ∀ d ∈ ds, ∃ x, Dt d x n L) : ∃ x, Dt (.tup ds) x (n + 1) (ds.length * (L + 2) + 3) := by
  obtain ⟨xs, e, l, g, c, s, nd, dp, p⟩ := toPys_all ds h
  refine ⟨.tuple xs, by simp [toPy, e], .tup g, by simpa [PyData.canLay0] using c, by simpa [PyData.showable] using s, by simpa [PyData.hasDict] using nd, by simp only [PyData.depth]; omega, ?_⟩
  simp only [PyData.shown]
  have := tup_len (PyData.shownAll xs)
  omega
theorem dt_cell {d : D} (h : d ∈ cells) : ∃ x, Dt d x 0 12 := by
  simp only [cells, List.mem_cons, List.not_mem_nil, or_false] at h
  rcases h with rfl | rfl | rfl | rfl | rfl | rfl | rfl | rfl | rfl | rfl | rfl | rfl <;>
    exact ⟨_, rfl, .at (by simp [atoms]), by decide +kernel, by decide +kernel, by decide +kernel, by decide +kernel, by decide +kernel⟩
theorem dt_word {x : Str} (h : x ∈ strs8) : ∃ y, Dt (.str x) y 0 12 := by
  simp only [strs8, List.mem_cons, List.not_mem_nil, or_false] at h
  rcases h with rfl | rfl | rfl | rfl | rfl | rfl | rfl | rfl <;>
    exact ⟨_, rfl, .at (by simp [atoms]), by decide +kernel, by decide +kernel, by decide +kernel, by decide +kernel, by decide +kernel⟩
theorem Dt.mono {d : D} {x : PyData} {n L n' L' : Nat} (h : Dt d x n L) (h1 : n ≤ n') (h2 : L ≤ L') : Dt d x n' L' := ⟨h.py, h.g, h.lay, h.sh, h.nd, Nat.le_trans h.dp h1, Nat.le_trans h.ln h2⟩
theorem dt_heads {hs : List D} (h : Heads hs) (h3 : hs.length ≤ 3) : ∃ x, Dt (.tup hs) x 3 1000 := by
  obtain ⟨xs, rfl, _, o⟩ := h
  obtain ⟨x, hx⟩ := dt_tup (ds := xs.map .str) (n := 0) (L := 12) fun d hd => by
    obtain ⟨x, hx, rfl⟩ := List.mem_map.mp hd
    exact dt_word (o x hx)
  exact ⟨x, hx.mono (by decide) (by omega)⟩
theorem dt_row {w : Nat} {d : D} (h : IsRow w d) (hw : w ≤ 3) : ∃ x, Dt d x 1 100 := by
  obtain ⟨cs, rfl, l, o⟩ := h
  obtain ⟨x, hx⟩ := dt_tup (ds := cs) (n := 0) (L := 12) fun d hd => dt_cell (o d hd)
  exact ⟨x, hx.mono (by decide) (by omega)⟩
theorem dt_rows {w : Nat} {rows : List D} (h : ∀ r ∈ rows, IsRow w r) (hw : w ≤ 3) (h6 : rows.length ≤ 6) : ∃ x, Dt (.tup rows) x 3 1000 := by
  obtain ⟨x, hx⟩ := dt_tup (ds := rows) (n := 1) (L := 100) fun d hd => dt_row (h d hd) hw
  exact ⟨x, hx.mono (by decide) (by omega)⟩
theorem dt_two {a b : D} (ha : ∃ x, Dt a x 3 1000) (hb : ∃ x, Dt b x 3 1000) : ∃ x, Dt (.tup [a, b]) x 4 3000 := by
  obtain ⟨x, hx⟩ := dt_tup (ds := [a, b]) (n := 3) (L := 1000) fun d hd => by
    simp only [List.mem_cons, List.not_mem_nil, or_false] at hd
    rcases hd with rfl | rfl
    · exact ha
    · exact hb
  exact ⟨x, hx.mono (by decide) (by simp)⟩
theorem dt_shaped {d : D} {x : PyData} {n L : Nat} (h : Dt d x n L) (hn : n ≤ 64) : SeqAt.shaped x = true := by
  show (x.canLay0 && decide (x.depth ≤ 64)) = true
  rw [Bool.and_eq_true, decide_eq_true_eq]
  exact ⟨h.lay, Nat.le_trans h.dp hn⟩
/-- == of two tuples -/
theorem eq_tups {μ : Store} {as bs : List D} {x y : PyData} (hx : Dt (.tup as) x 4 3000) (hy : Dt (.tup bs) y 4 3000) : cmpD μ .Eq (.tup as) (.tup bs) = some (PyData.eqv x y) := by
  show dataEq μ (.tup as) (.tup bs) = _
  unfold dataEq
  simp only [dview, hx.py, hy.py]
  rw [if_pos ⟨dt_shaped hx (by decide), dt_shaped hy (by decide)⟩]
theorem repr_tup {μ : Store} {as : List D} {x : PyData} (hx : Dt (.tup as) x 4 3000) : biD μ .repr [.tup as] = some (.str x.shown) := by
  show (match toPy (dview μ (.tup as)) with | some x => if showable x then some (D.str x.shown) else none | none => none) = _
  have hs := sizeLine_eq
  have h1 := hx.ln
  have h2 := hx.dp
  simp only [dview, hx.py]
  rw [if_pos]
  unfold showable
  simp only [hx.lay, hx.sh, hx.nd, Bool.not_false, Bool.and_true, Bool.true_and, Bool.and_eq_true, decide_eq_true_eq]
  exact ⟨by omega, by omega⟩
/-- the pair's text is the other pair's text just if both are == -/
theorem like {a b a' b' : D} {xa xb xa' xb' : PyData} (ha : Dt a xa 3 1000) (hb : Dt b xb 3 1000) (ha' : Dt a' xa' 3 1000) (hb' : Dt b' xb' 3 1000) :
    (PyData.eqv xa xa' && PyData.eqv xb xb') = decide ((PyData.tuple [xa, xb]).shown = (PyData.tuple [xa', xb']).shown) := by
  have g : ∀ {x y}, Gen atoms x → Gen atoms y → Gen atoms (.tuple [x, y]) := fun {x y} hx hy => .tup fun z hz => by
    simp only [List.mem_cons, List.not_mem_nil, or_false] at hz
    rcases hz with rfl | rfl
    · exact hx
    · exact hy
  rcases eqv_gen atoms_bl (g ha.g hb.g) (g ha'.g hb'.g) with h | h
  · rw [← h]
    simp [PyData.eqv, PyData.eqvAll]
  · rw [atoms_ok] at h
    exact absurd h (by decide)
theorem eqv_self {d : D} {x : PyData} {n L : Nat} (h : Dt d x n L) : PyData.eqv x x = true := (eqv_iff atoms_bl h.g x h.g).mpr rfl
theorem py_two {a b : D} {xa xb : PyData} (ha : toPy a = some xa) (hb : toPy b = some xb) : toPy (.tup [a, b]) = some (.tuple [xa, xb]) := by
  simp [toPy, toPys, ha, hb]

/-! ### Table.__eq__ -/
theorem up {d : D} {x : PyData} (h : Dt d x 3 1000) : Dt d x 4 3000 := h.mono (by decide) (by decide)
theorem c_eq {pg : Pg} (HS : Hs pg) (k : Nat) {μ : Store} {hs rows hs' rows' : List D} {xh xr xh' xr' : PyData} (h1 : Dt (.tup hs) xh 3 1000) (h2 : Dt (.tup rows) xr 3 1000) (h1' : Dt (.tup hs') xh' 3 1000) (h2' : Dt (.tup rows') xr' 3 1000) :
    callI pg (k + 1) 8 [tabD hs rows, tabD hs' rows'] μ = .ok (.bl (PyData.eqv xh xh' && PyData.eqv xr xr')) μ := by
  have hf : callI pg (k + 1) 8 [tabD hs rows, tabD hs' rows'] μ = runF pg (callI pg k) ⟨2, 2, b8⟩ [tabD hs rows, tabD hs' rows'] μ := callI_fn HS.f8
  rw [hf]
  refine runF_ret (σ := [.val (tabD hs rows), .val (tabD hs' rows')]) rfl rfl ?_
  unfold b8
  have q1 := eq_tups (μ := μ) (up h1) (up h1')
  have q2 := eq_tups (μ := μ) (up h2) (up h2')
  have f0 : ∀ a b : List D, fldD μ (tabD a b) 0 = some (.tup a) := fun _ _ => rfl
  have f1 : ∀ a b : List D, fldD μ (tabD a b) 1 = some (.tup b) := fun _ _ => rfl
  have ti : ∀ a b : List D, tyOf μ (.cls 0) (tabD a b) = some true := fun _ _ => rfl
  simp only [evB_cons, evS, evE, evBo, rd, rdO, List.getElem?_cons_zero, List.getElem?_cons_succ, of_some, ok_bind, ok_st, if_true, if_false, Option.map_some, f0, f1, ti, tr_bl, q1, q2, Bool.false_eq_true]
  cases PyData.eqv xh xh' <;> simp [q1, q2]
theorem c_eq_other {pg : Pg} (HS : Hs pg) (k : Nat) {μ : Store} {hs rows : List D} {d : D} (h : tyOf μ (.cls 0) d = some false) : callI pg (k + 1) 8 [tabD hs rows, d] μ = .ok (.bl false) μ := by
  have hf : callI pg (k + 1) 8 [tabD hs rows, d] μ = runF pg (callI pg k) ⟨2, 2, b8⟩ [tabD hs rows, d] μ := callI_fn HS.f8
  rw [hf]
  refine runF_ret (σ := [.val (tabD hs rows), .val d]) rfl rfl ?_
  unfold b8
  simp [evB_cons, evS, evE, evBo, rd, rdO, h]
theorem cmp_tab {pg : Pg} (HS : Hs pg) (k : Nat) {μ : Store} {hs rows : List D} {d : D} {b : Bool} (h : callI pg (k + 1) 8 [tabD hs rows, d] μ = .ok (.bl b) μ) : cmpR pg (callI pg (k + 1)) .Eq (tabD hs rows) d μ = .ok (.bl b) μ := by
  unfold cmpR
  have e8 : (clsOf μ (tabD hs rows)).bind pg.eq = some 8 := HS.e0
  rw [e8]
  show (match callI pg (k + 1) 8 [tabD hs rows, d] μ with | .ok (.bl b) μ1 => Res.ok (D.bl b) μ1 | _ => .bad) = _
  rw [h]
theorem cmpn_tab {pg : Pg} (HS : Hs pg) (k : Nat) {μ : Store} {hs rows : List D} {d : D} {b : Bool} (h : callI pg (k + 1) 8 [tabD hs rows, d] μ = .ok (.bl b) μ) : cmpR pg (callI pg (k + 1)) .NotEq (tabD hs rows) d μ = .ok (.bl !b) μ := by
  unfold cmpR
  have e8 : (clsOf μ (tabD hs rows)).bind pg.eq = some 8 := HS.e0
  rw [e8]
  show (match callI pg (k + 1) 8 [tabD hs rows, d] μ with | .ok (.bl b) μ1 => Res.ok (D.bl !b) μ1 | _ => .bad) = _
  rw [h]
theorem pots_same {n N : Nat} {μ μ' : Store} (h : Pots μ) (p : PotB μ' n N) (s : Same n μ μ') : Pots μ' := by
  intro o ho
  obtain ⟨j, hj, e⟩ := List.getElem_of_mem ho
  have ej : μ'[j]? = some o := by rw [List.getElem?_eq_getElem hj, e]
  by_cases hn : j = n
  · obtain ⟨c, ⟨a, b, q, _⟩, _⟩ := p
    subst hn
    rw [ej] at q
    cases q
    exact ⟨_, _, _, rfl⟩
  · rw [s.2 j hn] at ej
    exact h o (List.mem_of_getElem? ej)
theorem cut_to {ds : List D} {r : Int} (h0 : 0 ≤ r) : cutD ds none (some r) = ds.take r.toNat := by
  unfold cutD HT.sIx
  have : ¬ r < 0 := by omega
  simp only [if_neg this, List.drop_zero, Nat.sub_zero]
  by_cases h : r.toNat ≤ ds.length
  · rw [Nat.min_eq_left h]
  · rw [Nat.min_eq_right (by omega), List.take_length, List.take_of_length_le (by omega)]
theorem cut_from {ds : List D} {r : Int} (h0 : 0 ≤ r) : cutD ds (some r) none = ds.drop r.toNat := by
  unfold cutD HT.sIx
  have : ¬ r < 0 := by omega
  simp only [if_neg this]
  by_cases h : r.toNat ≤ ds.length
  · rw [Nat.min_eq_left h, List.take_of_length_le (by rw [List.length_drop]; omega)]
  · rw [Nat.min_eq_right (by omega), List.drop_length, List.drop_eq_nil_of_le (by omega)]
    exact List.take_nil
/-- one item otherwise -/
def putIn (ds : List D) (r : Int) (d : D) : List D := ds.take r.toNat ++ [d] ++ ds.drop (r + 1).toNat
theorem putIn_len {ds : List D} {r : Int} {d : D} (h0 : 0 ≤ r) (h1 : r < ds.length) : (putIn ds r d).length = ds.length := by
  unfold putIn
  simp only [List.length_append, List.length_take, List.length_drop, List.length_singleton]
  omega
theorem putIn_mem {ds : List D} {r : Int} {d x : D} (h : x ∈ putIn ds r d) : x = d ∨ x ∈ ds := by
  unfold putIn at h
  simp only [List.mem_append, List.mem_singleton] at h
  rcases h with (h | h) | h
  · exact .inr (List.mem_of_mem_take h)
  · exact .inl h
  · exact .inr (List.mem_of_mem_drop h)
theorem fit_row {hs rows : List D} {r : Int} {d : D} (f : Fit hs rows) (h0 : 0 ≤ r) (h1 : r < rows.length) (hd : IsRow hs.length d) : Fit hs (putIn rows r d) := by
  refine ⟨f.h, f.lo, f.hi, fun x hx => ?_, by rw [putIn_len h0 h1]; exact f.m⟩
  rcases putIn_mem hx with rfl | hx
  · exact hd
  · exact f.r x hx
theorem heads_rev {hs : List D} (h : Heads hs) : Heads hs.reverse := by
  obtain ⟨xs, rfl, nd, o⟩ := h
  exact ⟨xs.reverse, by simp, (List.reverse_perm xs).nodup_iff.mpr nd, by simpa using o⟩
/-- what _law_near answers with -/
def NearOk (n N : Nat) (μ : Store) (r : Res D) : Prop := ∃ hs' rows' μ', r = .ok (.tup [.tup hs', .tup rows']) μ' ∧ Fit hs' rows' ∧ PotB μ' n N ∧ Same n μ μ'
theorem rows_ne {μ : Store} {rows : List D} {w : Nat} (h : ∀ r ∈ rows, IsRow w r) (hw : w ≤ 3) (h6 : rows.length ≤ 6) : cmpD μ .NotEq (.tup rows) (.tup []) = some !rows.isEmpty := by
  obtain ⟨x, hx⟩ := dt_rows h hw h6
  have h0 : Dt (.tup []) (.tuple []) 4 3000 := ⟨by simp [toPy, toPys], .tup (by simp), by decide +kernel, by decide +kernel, by decide +kernel, by decide +kernel, by decide +kernel⟩
  have e := eq_tups (μ := μ) (up hx) h0
  show (eqD μ (.tup rows) (.tup [])).map (!·) = _
  have e : eqD μ (.tup rows) (.tup []) = some (PyData.eqv x (.tuple [])) := e
  rw [e]
  have hp := hx.py
  simp only [toPy] at hp
  cases rows with
  | nil => simp [toPys] at hp; subst hp; simp [PyData.eqv, PyData.eqvAll]
  | cons r rows =>
    simp only [toPys] at hp
    cases h1 : toPy r <;> cases h2 : toPys rows <;> simp [h1, h2] at hp
    subst hp
    simp [PyData.eqv, PyData.eqvAll]
theorem comp_same {pg : Pg} {cf : CF} {i j : Nat} {σ : Slots} {μ : Store} {rows : List D} {w : Nat} (hr : σ[i]? = some (.val (.tup rows))) (hj : j < σ.length) (hl : rows.length ≤ sizeLine) (h : ∀ r ∈ rows, IsRow w r) :
    evL pg cf (.comp (.bi .tuple (.cons (.lst .fz (.listOf (.v j))) .nil)) (.v j) (.seq (.v i)) .nil) σ μ = .ok rows μ := by
  have e1 : evIt pg cf true (.seq (.v i)) σ μ = .ok rows μ := by
    simp [evIt, evE, rdO, hr]
  have e2 : lcGo (lcStep pg cf (.bi .tuple (.cons (.lst .fz (.listOf (.v j))) .nil)) (.v j) .nil σ) rows μ = .ok (rows.map id) μ := by
    refine lc_pure rows fun x hx => ?_
    obtain ⟨cs, rfl, _, _⟩ := h x hx
    have hb : bindT (.v j) (.tup cs) (wipeS σ [j]) = some ((wipeS σ [j]).set j (.val (.tup cs))) := bindT_v (by rw [wipeS_len]; exact hj)
    have hg : ((wipeS σ [j]).set j (.val (.tup cs)))[j]? = some (.val (.tup cs)) := List.getElem?_set_self (by rw [wipeS_len]; exact hj)
    have hv : sview μ (.tup cs) = some cs := rfl
    unfold lcStep
    simp [Tg.slots, hb, evTs, evE, evEs, evL, rd, rdO, hg, hv]
  rw [evL_comp, e1, ok_bind, if_neg (by omega), e2, ok_nox, List.map_id]
end T.Lib
end

section
namespace T.Lib
open PySem PySem.Spec L2 T
theorem scr_at (ns : List Int) (j : Nat) (h : j < ns.length) : ∃ i, atI (ns.map D.int) (j : Int) = some (.int i) := by
  refine ⟨ns[j], ?_⟩
  unfold atI ixN
  rw [if_pos (by omega), if_pos (by simp; omega)]
  simp [h]
def drawnE : IE := .ite (.cmp .Lt (.v 1) (.bi .len (.cons (.v 0) .nil))) (.ix (.v 0) (.v 1)) (.bin .Add (.bin .Mult (.int 19) (.v 1)) (.int 5))
theorem p1 {pg : Pg} (cf : CF) (ns : List Int) (j : Nat) (hj : j < 100) (μ : Store) : ∃ i : Int, evS pg cf (.set (.v 2) drawnE) [.val (.ro (ns.map .int)), .val (.int j), .emp, .emp] μ = .next [.val (.ro (ns.map .int)), .val (.int j), .val (.int i), .emp] μ := by
  unfold drawnE
  by_cases h : j < ns.length
  · obtain ⟨i, e⟩ := scr_at ns j h
    have h' : (j : Int) < (ns.length : Int) := by omega
    exact ⟨i, by simp [evS, evE, evEs, rd, rdO, bindT, h', e]⟩
  · have h' : ¬ (j : Int) < (ns.length : Int) := by omega
    have m : mulOk 19 (j : Int) = true := mulOk_l _ _ (by decide)
    exact ⟨19 * j + 5, by simp [evS, evE, evEs, rd, rdO, bindT, h', bin_mul m]⟩
def ownE : IE := .bin .Mult (.bin .Mod (.bi .int (.cons (.bi .abs (.cons (.v 2) .nil)) .nil)) (.bin .Pow (.bin .Pow (.int 10) (.int 60)) (.int 5))) (.bi .int (.cons (.cmp .GtE (.bi .abs (.cons (.v 2) .nil)) (.bin .Pow (.int 10) (.int 18))) .nil))
theorem p2 {pg : Pg} (cf : CF) (s k : Sl) (i : Int) (μ : Store) : ∃ o : Int, 0 ≤ o ∧ evS pg cf (.set (.v 3) ownE) [s, k, .val (.int i), .emp] μ = .next [s, k, .val (.int i), .val (.int o)] μ := by
  have q1 : powOk 10 60 = true := by decide +kernel
  have q2 : powOk (10 ^ (60 : Int).toNat) 5 = true := by decide +kernel
  have q3 : powOk 10 18 = true := by decide +kernel
  have hM : (0 : Int) < (10 ^ (60 : Int).toNat) ^ (5 : Int).toNat := by decide +kernel
  have e1 : binD .Pow (.int 10) (.int 60) = some (.int (10 ^ (60 : Int).toNat)) := bin_pow q1
  have e2 : binD .Pow (.int (10 ^ (60 : Int).toNat)) (.int 5) = some (.int ((10 ^ (60 : Int).toNat) ^ (5 : Int).toNat)) := bin_pow q2
  have e3 : binD .Pow (.int 10) (.int 18) = some (.int (10 ^ (18 : Int).toNat)) := bin_pow q3
  generalize (10 ^ (60 : Int).toNat : Int) = A at e1 e2 hM
  generalize (A ^ (5 : Int).toNat : Int) = M at e2 hM
  generalize (10 ^ (18 : Int).toNat : Int) = B at e3
  generalize hc : (if i < 0 then -i else i) = a
  have h0 := fmod_bd a M hM
  have hb : (0 : Int) ≤ (if decide (B ≤ a) = true then 1 else 0) ∧ (if decide (B ≤ a) = true then (1 : Int) else 0) ≤ 1 := by split <;> decide
  generalize hv : (if decide (B ≤ a) = true then (1 : Int) else 0) = v at hb
  have m : mulOk (a.fmod M) v = true := mulOk_r _ _ (by omega)
  refine ⟨a.fmod M * v, Int.mul_nonneg h0.1 hb.1, ?_⟩
  have b1 : biD μ .abs [.int i] = some (.int a) := by rw [bi_abs, hc]
  have b2 : biD μ .int [.bl (decide (B ≤ a))] = some (.int v) := by rw [bi_intb, hv]
  have b3 : binD .Mod (.int a) (.int M) = some (.int (a.fmod M)) := bin_mod (by omega)
  have b4 : binD .Mult (.int (a.fmod M)) (.int v) = some (.int (a.fmod M * v)) := bin_mul m
  unfold ownE
  simp only [evS, evE, evEs, rd, rdO, List.getElem?_cons_zero, List.getElem?_cons_succ, of_some, ok_bind, ok_st, if_true, if_false, Bool.false_eq_true, e1, e2, e3, b1, b2, b3, b4, bi_int, cmp_ge, Option.map_some, bindT, List.length_cons, List.length_nil, Nat.reduceLT, Nat.reduceAdd]
  rfl
def mixG (A B C E F : Int) : IE := .bin .Mod (.bi .int (.cons (.bin .Add (.bin .Add (.bin .Mult (.bin .Mod (.bi .int (.cons (.v 2) .nil)) (.int A)) (.int B)) (.bin .Mult (.bin .Mult (.int C) (.v 1)) (.v 1))) (.int E)) .nil)) (.int F)
theorem p3G {pg : Pg} (cf : CF) (s : Sl) (i o : Int) (j : Int) (μ : Store) {A B C E F : Int} (hA : A ≠ 0) (hF : F ≠ 0) (m1 : mulOk (i.fmod A) B = true) (m2 : mulOk C j = true) (m3 : mulOk (C * j) j = true) :
    evE pg cf false (mixG A B C E F) [s, .val (.int j), .val (.int i), .val (.int o)] μ = .ok (.int ((i.fmod A * B + C * j * j + E).fmod F)) μ := by
  have d1 : binD .Mod (.int i) (.int A) = some (.int (i.fmod A)) := bin_mod hA
  have d2 : binD .Mod (.int (i.fmod A * B + C * j * j + E)) (.int F) = some (.int ((i.fmod A * B + C * j * j + E).fmod F)) := bin_mod hF
  unfold mixG
  simp only [evE, evEs, rd, rdO, List.getElem?_cons_zero, List.getElem?_cons_succ, of_some, ok_bind, if_true, if_false, Bool.false_eq_true, bi_int, bin_add, d1, bin_mul m1, bin_mul m2, bin_mul m3, d2]
def mixE : IE := mixG 2305843009213693951 77017 9049 83 2305843009213693921
theorem p3 {pg : Pg} (cf : CF) (s : Sl) (i o : Int) (j : Nat) (hj : j < 100) (μ : Store) : ∃ b : Int, 0 ≤ b ∧ b < 2 ^ 62 ∧ evE pg cf false mixE [s, .val (.int j), .val (.int i), .val (.int o)] μ = .ok (.int b) μ := by
  have m1 : mulOk (i.fmod 2305843009213693951) 77017 = true := mulOk_r _ _ (by decide)
  have m2 : mulOk 9049 (j : Int) = true := mulOk_l _ _ (by decide)
  have m3 : mulOk (9049 * (j : Int)) (j : Int) = true := mulOk_r _ _ (by omega)
  obtain ⟨b0, b1⟩ := fmod_bd (i.fmod 2305843009213693951 * 77017 + 9049 * j * j + 83) 2305843009213693921 (by decide)
  exact ⟨_, b0, by omega, p3G cf s i o j μ (by decide) (by decide) m1 m2 m3⟩
/-- _law_pot -/
theorem c_pot {pg : Pg} (HS : Hs pg) (k : Nat) (ns : List Int) (j : Nat) (hj : j < 100) (μ : Store) : ∃ a b : Int, callI pg (k + 1) 3 [.ro (ns.map .int), .int j] μ = .ok (.ref μ.length) (μ ++ [.lst [.int a, .int b, .int 0]]) ∧ 0 ≤ a ∧ 0 ≤ b ∧ b < 2 ^ 62 := by
  have hf : callI pg (k + 1) 3 [.ro (ns.map .int), .int j] μ = runF pg (callI pg k) ⟨4, 2, b3⟩ [.ro (ns.map .int), .int j] μ := callI_fn HS.f3
  rw [hf]
  generalize callI pg k = cf
  obtain ⟨i, e1⟩ := p1 (pg := pg) cf ns j hj μ
  obtain ⟨o, o0, e2⟩ := p2 (pg := pg) cf (.val (.ro (ns.map .int))) (.val (.int j)) i μ
  obtain ⟨b, b0, b1', e3⟩ := p3 (pg := pg) cf (.val (.ro (ns.map .int))) i o j hj μ
  refine ⟨o, b, runF_ret (σ := [.val (.ro (ns.map .int)), .val (.int j), .emp, .emp]) rfl rfl ?_, o0, b0, b1'⟩
  rw [show b3 = .cons (.set (.v 2) drawnE) (.cons (.set (.v 3) ownE) (.cons (.ret (.lst .sh (.disp (.cons (.v 3) (.cons mixE (.cons (.int 0) .nil)))))) .nil)) from rfl]
  rw [evB_cons, e1, next_bind, evB_cons, e2, next_bind, evB_cons]
  generalize mixE = me at e3
  simp [evS, evE, evL, evEs, rd, e3]

def allE (r T : Nat) : IE := .bi .all (.cons (.lst .fz (.comp (.call r (.cons (.v 2) .nil)) (.v 3) (.range1 (.int T)) .nil)) .nil)
theorem it_range_int {pg : Pg} {cf : CF} {o : Bool} {σ : Slots} {μ : Store} {a : IE} {w : Nat} (h : evE pg cf false a σ μ = .ok (.int w) μ) (h1 : w < 1000) : evIt pg cf o (.range1 a) σ μ = .ok ((List.range w).map fun k => .int (0 + (k : Nat))) μ := by
  have q1 : (w : Int) < 2 ^ 62 := by omega
  have q2 : -(2 ^ 62) ≤ (w : Int) := by omega
  unfold evIt
  rw [h, ok_bind]
  simp only [q1, q2, and_self, if_true, Int.toNat_natCast]
theorem all_bl {μ : Store} {ds : List D} (h : ∀ d ∈ ds, d = .bl true) : biD μ .all [.lst ds] = some (.bl true) := by
  have e : ds = ds.map fun _ => D.bl true := by
    conv => lhs; rw [← List.map_id ds]
    exact List.map_congr_left fun d hd => h d hd
  rw [e]
  exact all_true ds
/-- what the law's one turn promises -/
def RightOk (cf : CF) (r W : Nat) : Prop := ∀ {n N : Nat} {μ : Store}, PotB μ n (N + W) → Pots μ → ∃ μ', cf r [.ref n] μ = .ok (.bl true) μ' ∧ PotB μ' n N ∧ Same n μ μ' ∧ Pots μ'
theorem turns_all {pg : Pg} {cf : CF} {r W T : Nat} (hr : RightOk cf r W) (hT : T < 1000) {n N : Nat} {μ : Store} {s t : Sl} (p : PotB μ n (N + T * W)) (hp : Pots μ) :
    ∃ μ', evE pg cf true (allE r T) [s, t, .val (.ref n), .emp] μ = .ok (.bl true) μ' ∧ Pots μ' ∧ μ'.length = μ.length := by
  have hs0 := sizeLine_eq
  generalize hσ : [s, t, .val (.ref n), .emp] = σ
  have ei : evIt pg cf true (.range1 (.int T)) σ μ = .ok ((List.range T).map fun k => .int (0 + (k : Nat))) μ := it_range_int (w := T) rfl hT
  have main : ∀ (xs : List D) (μ : Store) (N : Nat), PotB μ n (N + xs.length * W) → Pots μ →
      ∃ ds μ', lcGo (lcStep pg cf (.call r (.cons (.v 2) .nil)) (.v 3) .nil σ) xs μ = .ok ds μ' ∧ (∀ d ∈ ds, d = .bl true) ∧ Pots μ' ∧ μ'.length = μ.length := by
    intro xs
    induction xs with
    | nil => exact fun μ N _ hp => ⟨[], μ, rfl, by simp, hp, rfl⟩
    | cons x xs ih =>
      intro μ N p hp
      obtain ⟨μ1, e1, p1, s1, q1⟩ := hr (N := N + xs.length * W) (p.less (by rw [List.length_cons, Nat.succ_mul]; omega)) hp
      obtain ⟨ds, μ2, e2, o2, q2, l2⟩ := ih μ1 N p1 q1
      refine ⟨.bl true :: ds, μ2, ?_, fun d hd => ?_, q2, l2.trans s1.1⟩
      · have hb : bindT (.v 3) x (wipeS σ [3]) = some ((wipeS σ [3]).set 3 (.val x)) := bindT_v (by rw [wipeS_len]; subst hσ; simp)
        have hg : ((wipeS σ [3]).set 3 (.val x))[2]? = some (.val (.ref n)) := by subst hσ; rfl
        have st : lcStep pg cf (.call r (.cons (.v 2) .nil)) (.v 3) .nil σ x μ = .ok (some (.bl true)) μ1 := by
          unfold lcStep
          simp [Tg.slots, hb, evTs, evE, evEs, rd, hg, e1]
        show (lcStep pg cf (.call r (.cons (.v 2) .nil)) (.v 3) .nil σ x μ).bind _ = _
        rw [st, ok_bind, e2]
        rfl
      · rcases List.mem_cons.mp hd with rfl | hd
        · rfl
        · exact o2 d hd
  obtain ⟨ds, μ', e, o, q, l⟩ := main ((List.range T).map fun k => .int (0 + (k : Nat))) μ N (by simpa using p) hp
  refine ⟨μ', ?_, q, l⟩
  have el : evL pg cf (.comp (.call r (.cons (.v 2) .nil)) (.v 3) (.range1 (.int T)) .nil) σ μ = .ok ds μ' := by
    rw [evL_comp, ei, ok_bind, if_neg (by rw [hs0]; simp; omega), e, ok_nox]
  unfold allE
  generalize IL.comp (.call r (.cons (.v 2) .nil)) (.v 3) (.range1 (.int T)) .nil = L at el
  have := all_bl (μ := μ') o
  simp [evE, evEs, el, this]
def lawB (r T : Nat) : IB := .cons (.set (.v 2) (.call 3 (.cons (.v 0) (.cons (.v 1) .nil)))) (.cons (.iff (.nt (allE r T)) (.cons (.ret (.bl false)) .nil) .nil) .nil)
def lawT (pg : Pg) (r T : Nat) (cf : CF) : D → Slots → Store → SR := fun x σ1 μ2 => match bindT (.v 1) x σ1 with
  | some σ2 => evB pg cf (lawB r T) σ2 μ2
  | none => .bad
theorem law_turn {pg : Pg} (HS : Hs pg) (k : Nat) {r W T : Nat} (hr : RightOk (callI pg (k + 1)) r W) (hT : T < 1000) (hW : T * W < 999999) (ns : List Int) (j : Nat) (hj : j < 100) (b c : Sl) (μ : Store) (hp : Pots μ) :
    ∃ c' μ', lawT pg r T (callI pg (k + 1)) (.int j) [.val (.ro (ns.map .int)), b, c, .emp] μ = .next [.val (.ro (ns.map .int)), .val (.int j), c', .emp] μ' ∧ Pots μ' := by
  obtain ⟨a, m, e1, a0, b0, b1⟩ := c_pot HS k ns j hj μ
  have hp1 : Pots (μ ++ [.lst [.int a, .int m, .int 0]]) := by
    intro o ho
    rcases List.mem_append.mp ho with ho | ho
    · exact hp o ho
    · simp at ho
      exact ⟨_, _, _, ho⟩
  have p1 : PotB (μ ++ [.lst [.int a, .int m, .int 0]]) μ.length (0 + T * W) := ⟨0, ⟨a, m, by simp, a0, b0, b1⟩, by omega⟩
  generalize callI pg (k + 1) = cf at *
  obtain ⟨μ', e2, hp2, l2⟩ := turns_all (pg := pg) hr hT (s := .val (.ro (ns.map .int))) (t := .val (.int j)) p1 hp1
  refine ⟨.val (.ref μ.length), μ', ?_, hp2⟩
  have s1 : evS pg cf (.set (.v 2) (.call 3 (.cons (.v 0) (.cons (.v 1) .nil)))) [.val (.ro (ns.map .int)), .val (.int j), c, .emp] μ = .next [.val (.ro (ns.map .int)), .val (.int j), .val (.ref μ.length), .emp] (μ ++ [.lst [.int a, .int m, .int 0]]) := by
    simp [evS, evE, evEs, rd, e1, bindT]
  have s2 : evS pg cf (.iff (.nt (allE r T)) (.cons (.ret (.bl false)) .nil) .nil) [.val (.ro (ns.map .int)), .val (.int j), .val (.ref μ.length), .emp] (μ ++ [.lst [.int a, .int m, .int 0]]) = .next [.val (.ro (ns.map .int)), .val (.int j), .val (.ref μ.length), .emp] μ' := by
    generalize allE r T = E at e2
    simp [evS, evE, e2, evB]
  unfold lawT lawB
  show evB _ _ _ [.val (.ro (ns.map .int)), .val (.int j), c, .emp] μ = _
  rw [evB_cons, s1, next_bind, evB_cons, s2, next_bind]
  rfl
theorem law_turns {pg : Pg} (HS : Hs pg) (k : Nat) {r W T : Nat} (hr : RightOk (callI pg (k + 1)) r W) (hT : T < 1000) (hW : T * W < 999999) (ns : List Int) : ∀ (js : List Nat), (∀ j ∈ js, j < 100) → ∀ (b c : Sl) (μ : Store), Pots μ →
    ∃ b' c' μ', forGo (lawT pg r T (callI pg (k + 1))) (js.map fun j => .int (j : Nat)) [.val (.ro (ns.map .int)), b, c, .emp] μ = .next [.val (.ro (ns.map .int)), b', c', .emp] μ'
  | [], _, b, c, μ, _ => ⟨b, c, μ, rfl⟩
  | j :: js, h, b, c, μ, hp => by
    obtain ⟨c', μ1, e, hp1⟩ := law_turn HS k hr hT hW ns j (h j List.mem_cons_self) b c μ hp
    obtain ⟨b', c'', μ2, e2⟩ := law_turns HS k hr hT hW ns js (fun x hx => h x (List.mem_cons_of_mem _ hx)) (.val (.int j)) c' μ1 hp1
    refine ⟨b', c'', μ2, ?_⟩
    show (match lawT pg r T (callI pg (k + 1)) (.int j) [.val (.ro (ns.map .int)), b, c, .emp] μ with | .next σ1 μ1 => _ | .cont σ1 μ1 => _ | .brk σ1 μ1 => _ | r => _) = _
    rw [e]
    exact e2
def manyE (m : Nat) : IE := .bi .max2 (.cons (.int 1) (.cons (.bi .min2 (.cons (.int m) (.cons (.bi .len (.cons (.v 0) .nil)) .nil))) .nil))
theorem many {pg : Pg} (cf : CF) (m : Nat) (hm : 1 ≤ m ∧ m < 100) (ns : List Int) (μ : Store) : ∃ w : Nat, w < 100 ∧ evE pg cf false (manyE m) [.val (.ro (ns.map .int)), .emp, .emp, .emp] μ = .ok (.int w) μ := by
  unfold manyE
  by_cases h0 : ns.length = 0
  · refine ⟨1, by decide, ?_⟩
    have h1 : 0 < m := by omega
    simp [evE, evEs, rd, rdO, h0, h1]
  by_cases h3 : ns.length < m
  · have a : (ns.length : Int) < m := by omega
    exact ⟨ns.length, by omega, by simp [evE, evEs, rd, rdO, a]; omega⟩
  · have a : ¬ (ns.length : Int) < m := by omega
    exact ⟨m, hm.2, by simp [evE, evEs, rd, rdO, a]; omega⟩
def lawBody (r T m : Nat) : IB := .cons (.forr (.v 1) (.range1 (manyE m)) (lawB r T)) (.cons (.ret (.bl true)) .nil)
/-- the law's loop -/
theorem law_loop {pg : Pg} (HS : Hs pg) (k : Nat) {r W T m : Nat} (h0 : pg.fn 0 = some ⟨4, 1, lawBody r T m⟩) (hr : RightOk (callI pg (k + 1)) r W) (hT : T < 1000) (hW : T * W < 999999) (hm : 1 ≤ m ∧ m < 100) (ns : List Int) :
    ∃ μ', callI pg (k + 2) 0 [.ro (ns.map .int)] [] = .ok (.bl true) μ' := by
  rw [callI_fn h0]
  obtain ⟨w, hw, e⟩ := many (pg := pg) (callI pg (k + 1)) m hm ns []
  have ei := it_range_int (o := false) e (by omega)
  obtain ⟨b, c, μ', e2⟩ := law_turns HS k hr hT hW ns (List.range w) (fun j hj => by have := List.mem_range.mp hj; omega) .emp .emp [] (fun o ho => absurd ho (by simp))
  generalize callI pg (k + 1) = cf at *
  refine ⟨μ', runF_ret (σ := [.val (.ro (ns.map .int)), .emp, .emp, .emp]) rfl rfl ?_⟩
  have ef : evS pg cf (.forr (.v 1) (.range1 (manyE m)) (lawB r T)) [.val (.ro (ns.map .int)), .emp, .emp, .emp] [] = .next [.val (.ro (ns.map .int)), b, c, .emp] μ' := by
    unfold evS
    rw [ei, ok_st]
    have hm : ((List.range w).map fun k => D.int (0 + (k : Nat))) = (List.range w).map fun j => D.int (j : Nat) := List.map_congr_left fun j _ => by rw [Int.zero_add]
    rw [hm]
    exact e2
  unfold lawBody
  rw [evB_cons, ef, next_bind]
  rfl
end T.Lib
end

section
namespace T.Lib
open PySem PySem.Spec L2 T
/-! ### alignments: the functions, by fixed numbers -/
def b15 : IB := (.cons (.ret (.bo .And (.cons (.call 14 (.cons (.v 0) .nil)) (.cons (.chain .LtE .Lt (.int 0) (.v 0) (.v 1)) .nil)))) .nil)
def b16 : IB := (.cons (.iff (.bo .Or (.cons (.nt (.isi (.v 0) .tuple)) (.cons (.cmp .NotEq (.bi .len (.cons (.v 0) .nil)) (.gi "PAIR" 2)) .nil))) (.cons (.ret (.bl false)) .nil) .nil) (.cons (.ret (.bo .And (.cons (.call 15 (.cons (.ix (.v 0) (.int 0)) (.cons (.v 1) .nil))) (.cons (.call 15 (.cons (.ix (.v 0) (.int 1)) (.cons (.v 2) .nil))) .nil)))) .nil))
def b17 : IB := (.cons (.iff (.bo .Or (.cons (.nt (.isi (.v 0) .tuple)) (.cons (.nt (.bi .all (.cons (.lst .fz (.comp (.call 16 (.cons (.v 3) (.cons (.v 1) (.cons (.v 2) .nil)))) (.v 3) (.seq (.v 0)) .nil)) .nil))) .nil))) (.cons (.ret (.bl false)) .nil) .nil) (.cons (.par 4 5 (.l (.comp (.ix (.v 3) (.int 0)) (.v 3) (.seq (.v 0)) .nil)) (.l (.comp (.ix (.v 3) (.int 1)) (.v 3) (.seq (.v 0)) .nil))) (.cons (.ret (.bo .And (.cons (.cmp .Eq (.v 4) (.lst .fz (.sortset (.v 4)))) (.cons (.cmp .Eq (.bi .lenset (.cons (.v 5) .nil)) (.bi .len (.cons (.v 5) .nil))) .nil)))) .nil)))
def b18 : IB := (.cons (.iff (.bo .Or (.cons (.nt (.isi (.v 2) .tuple)) (.cons (.cmp .NotEq (.bi .len (.cons (.v 2) .nil)) (.gi "PAIR" 2)) .nil))) (.cons (.ret (.bl false)) .nil) .nil) (.cons (.set (.t2 (.v 3) (.v 4)) (.v 2)) (.cons (.iff (.nt (.call 17 (.cons (.v 3) (.cons (.bi .len (.cons (.fld (.v 0) 0) .nil)) (.cons (.bi .len (.cons (.fld (.v 1) 0) .nil)) .nil))))) (.cons (.ret (.bl false)) .nil) .nil) (.cons (.ret (.bo .And (.cons (.call 17 (.cons (.v 4) (.cons (.bi .len (.cons (.fld (.v 0) 1) .nil)) (.cons (.bi .len (.cons (.fld (.v 1) 1) .nil)) .nil)))) (.cons (.bo .Or (.cons (.cmp .NotEq (.v 3) (.tup .nil)) (.cons (.cmp .Eq (.v 4) (.tup .nil)) .nil))) .nil)))) .nil))))
def b19 : IB := (.cons (.set (.v 3) (.call 4 (.cons (.v 0) (.cons (.bin .Add (.int 1) (.call 1 (.cons (.v 0) (.cons (.v 1) .nil)))) .nil)))) (.cons (.ret (.new 0 (.cons (.v 3) (.cons (.call 6 (.cons (.v 0) (.cons (.bi .len (.cons (.v 3) .nil)) (.cons (.call 1 (.cons (.v 0) (.cons (.bin .Add (.v 2) (.int 1)) .nil))) .nil)))) .nil)))) .nil))
def b20 : IB := (.cons (.par 3 4 (.l (.listRg (.v 2))) (.l (.disp .nil))) (.cons (.forr (.v 5) (.range1 (.v 1)) (.cons (.iff (.bo .And (.cons (.cmp .NotEq (.v 3) (.lst .fz (.disp .nil))) (.cons (.cmp .Gt (.call 1 (.cons (.v 0) (.cons (.int 4) .nil))) (.int 0)) .nil))) (.cons (.apppopT 4 5 3 (.call 1 (.cons (.v 0) (.cons (.bi .len (.cons (.v 3) .nil)) .nil)))) .nil) .nil) .nil)) (.cons (.ret (.bi .tuple (.cons (.v 4) .nil))) .nil)))
def b21 : IB := (.cons (.set (.v 3) (.call 20 (.cons (.v 0) (.cons (.bi .len (.cons (.fld (.v 1) 0) .nil)) (.cons (.bi .len (.cons (.fld (.v 2) 0) .nil)) .nil))))) (.cons (.ret (.tup (.cons (.v 3) (.cons (.ite (.cmp .NotEq (.v 3) (.tup .nil)) (.call 20 (.cons (.v 0) (.cons (.bi .len (.cons (.fld (.v 1) 1) .nil)) (.cons (.bi .len (.cons (.fld (.v 2) 1) .nil)) .nil)))) (.tup .nil)) .nil)))) .nil))
def b22 : IB := (.cons (.iff (.nt (.call 18 (.cons (.v 0) (.cons (.v 1) (.cons (.v 2) .nil))))) (.cons (.rais 4 (.v 2)) .nil) .nil) (.cons (.ret (.v 2)) .nil))
def b23 : IB := (.cons (.ret (.ite (.cmp .Eq (.v 1) (.gs "COLUMN" "column")) (.bi .len (.cons (.fld (.v 0) 0) .nil)) (.bi .len (.cons (.fld (.v 0) 1) .nil)))) .nil)
def b24 : IB := (.cons (.iff (.bo .Or (.cons (.nt (.isi (.v 2) .tuple)) (.cons (.cmp .NotEq (.bi .len (.cons (.v 2) .nil)) (.gi "CONDITION_PARTS" 4)) .nil))) (.cons (.ret (.bl false)) .nil) .nil) (.cons (.set (.t4 (.v 3) (.v 4) (.v 5) (.v 6)) (.v 2)) (.cons (.iff (.bo .Or (.cons (.nt (.isi (.v 3) .str)) (.cons (.cmp .NotIn (.v 3) (.tup (.cons (.gs "COLUMN" "column") (.cons (.gs "ROW" "row") .nil)))) (.cons (.nt (.isi (.v 6) .bool)) .nil)))) (.cons (.ret (.bl false)) .nil) .nil) (.cons (.iff (.bo .And (.cons (.isN (.v 4)) (.cons (.isN (.v 5)) .nil))) (.cons (.ret (.bl false)) .nil) .nil) (.cons (.iff (.bo .And (.cons (.notN (.v 4)) (.cons (.nt (.call 15 (.cons (.v 4) (.cons (.call 23 (.cons (.v 0) (.cons (.v 3) .nil))) .nil)))) .nil))) (.cons (.ret (.bl false)) .nil) .nil) (.cons (.ret (.bo .Or (.cons (.isN (.v 5)) (.cons (.call 15 (.cons (.v 5) (.cons (.call 23 (.cons (.v 1) (.cons (.v 3) .nil))) .nil))) .nil)))) .nil))))))
def b25 : IB := (.cons (.iff (.bo .Or (.cons (.nt (.isi (.v 2) .tuple)) (.cons (.cmp .Gt (.bi .len (.cons (.v 2) .nil)) (.gi "MOST_CONDITIONS" 40)) .nil))) (.cons (.rais 5 (.v 2)) .nil) .nil) (.cons (.forr (.v 3) (.seq (.v 2)) (.cons (.iff (.nt (.call 24 (.cons (.v 0) (.cons (.v 1) (.cons (.v 3) .nil))))) (.cons (.rais 5 (.v 3)) .nil) .nil) .nil)) (.cons (.ret (.v 2)) .nil)))
def b26 : IB := (.cons (.iff (.isN (.v 2)) (.cons (.ret (.cmp .NotIn (.v 1) (.lst .fz (.comp (.ix (.v 3) (.int 0)) (.v 3) (.seq (.v 0)) .nil)))) .nil) .nil) (.cons (.iff (.isN (.v 1)) (.cons (.ret (.cmp .NotIn (.v 2) (.lst .fz (.comp (.ix (.v 3) (.int 1)) (.v 3) (.seq (.v 0)) .nil)))) .nil) .nil) (.cons (.ret (.cmp .In (.tup (.cons (.v 1) (.cons (.v 2) .nil))) (.v 0))) .nil)))
def b27 : IB := (.cons (.ret (.lst .fz (.comp (.v 2) (.v 2) (.seq (.v 0)) (.cons (.cmp .Eq (.ix (.v 2) (.int 0)) (.v 1)) .nil)))) .nil)
def b28 : IB := (.cons (.ret (.bi .all (.cons (.lst .fz (.comp (.cmp .Eq (.call 26 (.cons (.v 0) (.cons (.v 3) (.cons (.v 4) .nil)))) (.v 5)) (.t4 (.v 2) (.v 3) (.v 4) (.v 5)) (.seq (.v 1)) .nil)) .nil))) .nil)
def b29 : IB := (.cons (.ret (.bo .And (.cons (.call 28 (.cons (.ix (.v 0) (.int 0)) (.cons (.call 27 (.cons (.v 1) (.cons (.gs "COLUMN" "column") .nil))) .nil))) (.cons (.call 28 (.cons (.ix (.v 0) (.int 1)) (.cons (.call 27 (.cons (.v 1) (.cons (.gs "ROW" "row") .nil))) .nil))) .nil)))) .nil)
def b30 : IB := (.cons (.expr (.call 22 (.cons (.v 0) (.cons (.v 1) (.cons (.v 2) .nil))))) (.cons (.ret (.call 29 (.cons (.v 2) (.cons (.call 25 (.cons (.v 0) (.cons (.v 1) (.cons (.v 3) .nil)))) .nil)))) .nil))
def b31 : IB := (.cons (.par 3 4 (.l (.disp (.cons (.bi .len (.cons (.fld (.v 1) 1) .nil)) (.cons (.bi .len (.cons (.fld (.v 2) 1) .nil)) .nil)))) (.e (.str "row"))) (.cons (.iff (.bo .Or (.cons (.cmp .Eq (.bi .max (.cons (.v 3) .nil)) (.int 0)) (.cons (.cmp .Eq (.call 1 (.cons (.v 0) (.cons (.int 3) .nil))) (.int 0)) .nil))) (.cons (.par 3 4 (.l (.disp (.cons (.bi .len (.cons (.fld (.v 1) 0) .nil)) (.cons (.bi .len (.cons (.fld (.v 2) 0) .nil)) .nil)))) (.e (.str "column"))) .nil) .nil) (.cons (.own 6 (.comp (.ite (.cmp .Gt (.v 5) (.int 0)) (.call 1 (.cons (.v 0) (.cons (.v 5) .nil))) .non) (.v 5) (.seq (.v 3)) .nil)) (.cons (.set (.v 7) (.call 2 (.cons (.v 0) (.cons (.lst .fz (.disp (.cons (.int 2) (.cons (.int 2) (.cons (.int 0) (.cons (.int 1) .nil)))))) .nil)))) (.cons (.iff (.bo .And (.cons (.cmp .Lt (.v 7) (.int 2)) (.cons (.notN (.ix (.v 6) (.bin .Sub (.int 1) (.v 7)))) .nil))) (.cons (.setix 6 (.v 7) .non) .nil) .nil) (.cons (.ret (.tup (.cons (.v 4) (.cons (.ix (.v 6) (.int 0)) (.cons (.ix (.v 6) (.int 1)) (.cons (.cmp .Eq (.call 1 (.cons (.v 0) (.cons (.int 2) .nil))) (.int 0)) .nil)))))) .nil))))))
structure Ha (pg : Pg) : Prop extends Hs pg where
  f15 : pg.fn 15 = some ⟨2, 2, b15⟩
  f16 : pg.fn 16 = some ⟨3, 3, b16⟩
  f17 : pg.fn 17 = some ⟨6, 3, b17⟩
  f18 : pg.fn 18 = some ⟨5, 3, b18⟩
  f19 : pg.fn 19 = some ⟨4, 3, b19⟩
structure Hd (pg : Pg) : Prop extends Ha pg where
  f20 : pg.fn 20 = some ⟨6, 3, b20⟩
  f21 : pg.fn 21 = some ⟨4, 3, b21⟩
/-- conditions, without the law's own claims -/
structure Hq (pg : Pg) : Prop extends Ha pg where
  f22 : pg.fn 22 = some ⟨3, 3, b22⟩
  f23 : pg.fn 23 = some ⟨2, 2, b23⟩
  f24 : pg.fn 24 = some ⟨7, 3, b24⟩
  f25 : pg.fn 25 = some ⟨4, 3, b25⟩
  f26 : pg.fn 26 = some ⟨4, 3, b26⟩
  f27 : pg.fn 27 = some ⟨3, 2, b27⟩
  f28 : pg.fn 28 = some ⟨6, 2, b28⟩
  f29 : pg.fn 29 = some ⟨2, 2, b29⟩
  f30 : pg.fn 30 = some ⟨4, 4, b30⟩
structure Hk (pg : Pg) : Prop extends Hd pg, Hq pg where
  f31 : pg.fn 31 = some ⟨8, 3, b31⟩
/-! ### places, pairs, of any value -/
def NR (d : D) : Prop := below 0 d = true
def intD : D → Bool
  | .int _ => true
  | _ => false
def plD (m : Nat) : D → Bool
  | .int i => decide (0 ≤ i) && decide (i < (m : Int))
  | _ => false
def prD (m n : Nat) : D → Bool
  | .tup [a, b] => plD m a && plD n b
  | _ => false
theorem c_isint {pg : Pg} (HS : Hs pg) (k : Nat) {d : D} (h : NR d) (μ : Store) : callI pg (k + 1) 14 [d] μ = .ok (.bl (intD d)) μ := by
  rw [callI_fn HS.f14]
  generalize callI pg k = cf
  cases d with
  | ref n => simp [NR, below] at h
  | _ => rfl
theorem c_place {pg : Pg} (HS : Ha pg) (k : Nat) {d : D} (h : NR d) (m : Nat) (μ : Store) : callI pg (k + 2) 15 [d, .int m] μ = .ok (.bl (plD m d)) μ := by
  have e := c_isint HS.toHs k h μ
  rw [callI_fn HS.f15]
  generalize callI pg (k + 1) = cf at e
  cases d with
  | int i =>
    have e : cf 14 [.int i] μ = .ok (.bl true) μ := e
    unfold b15 plD
    simp [runF, evB, evS, evE, evEs, evBo, rd, rdO, e]
    cases decide (0 ≤ i) <;> simp
  | ref n => simp [NR, below] at h
  | _ => simp [runF, b15, evB, evS, evE, evEs, evBo, rd, rdO, e, intD, plD]
theorem nr_mem : ∀ {ds : List D} {d : D}, belows 0 ds = true → d ∈ ds → NR d
  | x :: ds, d, h, hd => by
    simp only [belows, Bool.and_eq_true] at h
    rcases List.mem_cons.mp hd with rfl | hd
    · exact h.1
    · exact nr_mem h.2 hd
theorem nr_tup {ds : List D} (h : NR (.tup ds)) : belows 0 ds = true := by simpa [NR, below] using h
theorem cmp_ne_int {μ : Store} {i j : Int} : cmpD μ .NotEq (.int i) (.int j) = some (!decide (i = j)) := rfl
theorem ty_tup {d : D} (h : NR d) {μ : Store} : tyOf μ .tuple d = some (match d with | .tup _ => true | _ => false) := by
  cases d with
  | ref n => simp [NR, below] at h
  | _ => rfl
theorem c_pair {pg : Pg} (HS : Ha pg) (k : Nat) {d : D} (h : NR d) (m n : Nat) (μ : Store) : callI pg (k + 3) 16 [d, .int m, .int n] μ = .ok (.bl (prD m n d)) μ := by
  have e := fun {d : D} (h : NR d) (m : Nat) => c_place HS k h m μ
  rw [callI_fn HS.f16]
  generalize callI pg (k + 2) = cf at e
  have ht := ty_tup h (μ := μ)
  cases d with
  | tup ds =>
    have hn := nr_tup h
    rcases ds with _ | ⟨a, _ | ⟨b, _ | ⟨c, ds⟩⟩⟩
    · simp [runF, b16, evB, evS, evE, evEs, evBo, rd, rdO, ht, prD, cmp_ne_int]
    · simp [runF, b16, evB, evS, evE, evEs, evBo, rd, rdO, ht, prD, cmp_ne_int]
    · have ha := e (nr_mem hn (by simp : a ∈ [a, b])) m
      have hb := e (nr_mem hn (by simp : b ∈ [a, b])) n
      have i0 : atI [a, b] 0 = some a := rfl
      have i1 : atI [a, b] 1 = some b := rfl
      simp [runF, b16, evB, evS, evE, evEs, evBo, rd, rdO, ht, prD, cmp_ne_int, i0, i1, ha, hb]
      cases plD m a <;> simp [hb, i1]
    · have : ¬ ((ds.length : Int) + 1 + 1 + 1 = 2) := by omega
      simp [runF, b16, evB, evS, evE, evEs, evBo, rd, rdO, ht, prD, cmp_ne_int, this]
  | ref n => simp [NR, below] at h
  | _ => simp [runF, b16, evB, evS, evE, evEs, evBo, rd, rdO, ht, prD]

/-! ### comprehensions over one name -/
theorem wipe1 (σ : Slots) (i : Nat) (x : Sl) : (wipeS σ [i]).set i x = σ.set i x := by
  show ((σ.set i .emp)).set i x = _
  rw [List.set_set]
theorem evE_all {pg : Pg} {cf : CF} {o : Bool} {L : IL} {σ : Slots} {μ : Store} {bs : List Bool} (h : evL pg cf L σ μ = .ok (bs.map .bl) μ) : evE pg cf o (.bi .all (.cons (.lst .fz L) .nil)) σ μ = .ok (.bl (bs.all id)) μ := by
  have e1 : evE pg cf true (.lst .fz L) σ μ = .ok (.lst (bs.map .bl)) μ := by
    show (evL pg cf L σ μ).bind _ = _
    rw [h]
    rfl
  have e2 : evEs pg cf true (.cons (.lst .fz L) .nil) σ μ = .ok [.lst (bs.map .bl)] μ := by
    show (evE pg cf true (.lst .fz L) σ μ).bind _ = _
    rw [e1]
    rfl
  have e3 : ∀ bs : List Bool, boolsD (bs.map .bl) = some bs := by
    intro bs
    induction bs with
    | nil => rfl
    | cons b bs ih =>
      show (boolsD (bs.map .bl)).map (b :: ·) = _
      rw [ih]
      rfl
  show (evEs pg cf true (.cons (.lst .fz L) .nil) σ μ).bind _ = _
  rw [e2, ok_bind]
  show Res.of (((some (bs.map .bl)).bind boolsD).map fun bs => D.bl (bs.all id)) μ = _
  rw [Option.bind_some, e3]
  rfl
theorem comp_map {pg : Pg} {cf : CF} {e : IE} {it : IT} {i : Nat} {σ : Slots} {μ : Store} {cs : List D} {f : D → D} (hi : i < σ.length) (ei : evIt pg cf true it σ μ = .ok cs μ) (hl : cs.length ≤ sizeLine) (h : ∀ c ∈ cs, evE pg cf false e (σ.set i (.val c)) μ = .ok (f c) μ) :
    evL pg cf (.comp e (.v i) it .nil) σ μ = .ok (cs.map f) μ := by
  have e2 : lcGo (lcStep pg cf e (.v i) .nil σ) cs μ = .ok (cs.map f) μ := by
    refine lc_pure cs fun x hx => ?_
    have hb : bindT (.v i) x (wipeS σ [i]) = some ((wipeS σ [i]).set i (.val x)) := bindT_v (by rw [wipeS_len]; exact hi)
    rw [wipe1] at hb
    have e1 := h x hx
    unfold lcStep
    simp only [Tg.slots, hb, evTs, ok_bind, if_true, e1]
  rw [evL_comp, ei, ok_bind, if_neg (by omega), e2, ok_nox]
theorem it_seq {pg : Pg} {cf : CF} {o : Bool} {a : IE} {σ : Slots} {μ : Store} {d : D} {ds : List D} (h : evE pg cf o a σ μ = .ok d μ) (hd : d = .tup ds ∨ d = .lst ds) : evIt pg cf o (.seq a) σ μ = .ok ds μ := by
  unfold evIt
  rw [h, ok_bind]
  rcases hd with rfl | rfl <;> rfl
end T.Lib
end

section
namespace T.Lib
open PySem PySem.Spec L2 T
/-! ### lists of numbers -/
theorem toPys_ints : ∀ is : List Int, toPys (is.map D.int) = some (is.map PyData.int)
  | [] => by simp [toPys]
  | i :: is => by simp [toPys, toPy, toPys_ints is]
theorem intsD_map : ∀ is : List Int, intsD (is.map D.int) = some is
  | [] => rfl
  | i :: is => by
    show (intsD (is.map D.int)).map (i :: ·) = _
    rw [intsD_map is]
    rfl
theorem canLay_ints : ∀ is : List Int, PyData.canLayAll0 (is.map PyData.int) = true
  | [] => by simp [PyData.canLayAll0]
  | i :: is => by simp [PyData.canLayAll0, PyData.canLay0, canLay_ints is]
theorem depth_ints : ∀ is : List Int, PyData.depthAll (is.map PyData.int) = 0
  | [] => by simp [PyData.depthAll]
  | i :: is => by simp [PyData.depthAll, PyData.depth, depth_ints is]
theorem eqv_ints : ∀ is js : List Int, PyData.eqvAll (is.map PyData.int) (js.map PyData.int) = decide (is = js)
  | [], [] => by simp [PyData.eqvAll]
  | [], j :: js => by simp [PyData.eqvAll]
  | i :: is, [] => by simp [PyData.eqvAll]
  | i :: is, j :: js => by
    simp only [List.map_cons, PyData.eqvAll, PyData.eqv, eqv_ints is js]
    rw [Bool.eq_iff_iff]
    simp
theorem eq_ints {μ : Store} (is js : List Int) : cmpD μ .Eq (.lst (is.map .int)) (.lst (js.map .int)) = some (decide (is = js)) := by
  show dataEq μ (.lst (is.map .int)) (.lst (js.map .int)) = _
  have e1 : toPy (.lst (is.map .int)) = some (.list (is.map PyData.int)) := by simp [toPy, toPys_ints]
  have e2 : toPy (.lst (js.map .int)) = some (.list (js.map PyData.int)) := by simp [toPy, toPys_ints]
  have s : ∀ is : List Int, SeqAt.shaped (.list (is.map PyData.int)) = true := fun is => by
    show ((PyData.list (is.map PyData.int)).canLay0 && decide ((PyData.list (is.map PyData.int)).depth ≤ 64)) = true
    simp [PyData.canLay0, PyData.depth, canLay_ints, depth_ints]
  unfold dataEq
  simp only [dview, e1, e2]
  rw [if_pos ⟨s is, s js⟩]
  simp only [PyData.eqv, eqv_ints]
theorem asc_iff (is : List Int) : is = is.eraseDups.mergeSort (fun a b => decide (a ≤ b)) ↔ is.Pairwise (· < ·) := by
  constructor
  · intro h
    have nd : (is.eraseDups.mergeSort (fun a b => decide (a ≤ b))).Nodup := (List.mergeSort_perm _ _).nodup_iff.mpr (nodup_ed _ _ (Nat.le_refl _))
    have so := List.pairwise_mergeSort (le := fun a b : Int => decide (a ≤ b)) (fun a b c h1 h2 => by simp at *; omega) (fun a b => by simp; omega) is.eraseDups
    rw [← h] at nd so
    exact (so.and nd).imp fun ⟨h1, h2⟩ => by simp at h1; omega
  · exact fun h => sorted_uniq h fun k => Iff.rfl
theorem ed_le : ∀ (n : Nat) (l : List Int), l.length ≤ n → l.eraseDups.length ≤ l.length
  | _, [], _ => by simp
  | 0, a :: l, h => by simp at h
  | n + 1, a :: l, h => by
    rw [List.eraseDups_cons]
    have hl : (l.filter fun b => !b == a).length ≤ l.length := List.length_filter_le _ _
    have := ed_le n (l.filter fun b => !b == a) (by simp at h; omega)
    simp only [List.length_cons]
    omega
theorem ed_len : ∀ (n : Nat) (l : List Int), l.length ≤ n → (l.eraseDups.length = l.length ↔ l.Nodup)
  | _, [], _ => by simp
  | 0, a :: l, h => by simp at h
  | n + 1, a :: l, h => by
    rw [List.eraseDups_cons, List.nodup_cons]
    by_cases ha : a ∈ l
    · have h1 : (l.filter fun b => !b == a).length < l.length := by
        have hle := List.length_filter_le (fun b => !b == a) l
        rcases Nat.lt_or_eq_of_le hle with h | h
        · exact h
        · have := List.length_filter_eq_length_iff.mp h a ha
          simp at this
      have h2 := ed_le _ (l.filter fun b => !b == a) (Nat.le_refl _)
      simp only [List.length_cons]
      constructor
      · intro h; omega
      · intro h; exact absurd ha h.1
    · have hf : (l.filter fun b => !b == a) = l := List.filter_eq_self.mpr fun b hb => by
        simp
        exact fun h => ha (h ▸ hb)
      rw [hf]
      have ih := ed_len n l (by simpa using h)
      simp only [List.length_cons, Nat.add_right_cancel_iff]
      exact ⟨fun h => ⟨ha, ih.mp h⟩, fun h => ih.mpr h.2⟩

/-! ### pairs -/
def prI (p : Int × Int) : D := .tup [.int p.1, .int p.2]
def fstD : D → Int
  | .tup [.int a, _] => a
  | _ => 0
def sndD : D → Int
  | .tup [_, .int b] => b
  | _ => 0
def okP (ds : List D) : Bool := decide ((ds.map fstD).Pairwise (· < ·)) && decide ((ds.map sndD).Nodup)
def psD (m n : Nat) : D → Bool
  | .tup ds => ds.all (prD m n) && okP ds
  | _ => false
theorem prD_inv {m n : Nat} {d : D} (h : prD m n d = true) : d = .tup [.int (fstD d), .int (sndD d)] ∧ 0 ≤ fstD d ∧ fstD d < m ∧ 0 ≤ sndD d ∧ sndD d < n := by
  unfold prD at h
  split at h
  · rename_i a b
    obtain ⟨h1, h2⟩ := Bool.and_eq_true_iff.mp h
    cases a <;> simp [plD] at h1
    cases b <;> simp [plD] at h2
    exact ⟨rfl, h1.1, h1.2, h2.1, h2.2⟩
  · cases h
theorem c_pairs {pg : Pg} (HS : Ha pg) (k : Nat) {d : D} (h : NR d) (hs : ∀ ds, d = .tup ds → ds.length < 64) (m n : Nat) (μ : Store) : callI pg (k + 4) 17 [d, .int m, .int n] μ = .ok (.bl (psD m n d)) μ := by
  have e := fun {d : D} (h : NR d) (m n : Nat) => c_pair HS k h m n μ
  rw [callI_fn HS.f17]
  generalize callI pg (k + 3) = cf at e
  have ht := ty_tup h (μ := μ)
  have hz := sizeLine_eq
  cases d with
  | tup ds =>
    have hn := nr_tup h
    have hl := hs ds rfl
    have ec := comp_map (pg := pg) (cf := cf) (e := .call 16 (.cons (.v 3) (.cons (.v 1) (.cons (.v 2) .nil)))) (it := .seq (.v 0)) (i := 3) (σ := [.val (.tup ds), .val (.int m), .val (.int n), .emp, .emp, .emp]) (μ := μ) (cs := ds) (f := fun c => .bl (prD m n c)) (by simp) (it_seq (d := .tup ds) rfl (.inl rfl)) (by omega) fun c hc => by
      have := e (nr_mem hn hc) m n
      simp [evE, evEs, rd, this]
    have e1 := evE_all (o := true) (bs := ds.map (prD m n)) (by rw [ec, List.map_map]; rfl)
    generalize hL : IL.comp (.call 16 (.cons (.v 3) (.cons (.v 1) (.cons (.v 2) .nil)))) (.v 3) (.seq (.v 0)) .nil = L at e1
    have ha : (ds.map (prD m n)).all id = ds.all (prD m n) := by simp
    rw [ha] at e1
    unfold b17
    rw [hL]
    have t1 : evE pg cf true (.isi (.v 0) .tuple) [.val (.tup ds), .val (.int m), .val (.int n), .emp, .emp, .emp] μ = .ok (.bl true) μ := by simp [evE, rdO, ht]
    generalize hE : IE.bi .all (.cons (.lst .fz L) .nil) = E at e1
    have s1 : evS pg cf (.iff (.bo .Or (.cons (.nt (.isi (.v 0) .tuple)) (.cons (.nt E) .nil))) (.cons (.ret (.bl false)) .nil) .nil) [.val (.tup ds), .val (.int m), .val (.int n), .emp, .emp, .emp] μ = if ds.all (prD m n) = true then .next [.val (.tup ds), .val (.int m), .val (.int n), .emp, .emp, .emp] μ else .ret (.bl false) μ := by
      generalize IE.isi (.v 0) .tuple = E2 at t1
      cases hb : ds.all (prD m n) <;> rw [hb] at e1 <;> simp [evS, evE, evBo, t1, e1, evB]
    cases hb : ds.all (prD m n) with
    | false =>
      rw [hb] at s1
      refine runF_ret (σ := [.val (.tup ds), .val (.int m), .val (.int n), .emp, .emp, .emp]) rfl rfl ?_
      rw [evB_cons, s1]
      simp [psD, hb]
    | true =>
      rw [hb, if_pos rfl] at s1
      have hp : ∀ c ∈ ds, c = .tup [.int (fstD c), .int (sndD c)] := fun c hc => (prD_inv (List.all_eq_true.mp hb c hc)).1
      have ef := comp_map (pg := pg) (cf := cf) (e := .ix (.v 3) (.int 0)) (it := .seq (.v 0)) (i := 3) (σ := [.val (.tup ds), .val (.int m), .val (.int n), .emp, .emp, .emp]) (μ := μ) (cs := ds) (f := fun c => .int (fstD c)) (by simp) (it_seq (d := .tup ds) rfl (.inl rfl)) (by omega) fun c hc => by
        rw [hp c hc]
        rfl
      have es := comp_map (pg := pg) (cf := cf) (e := .ix (.v 3) (.int 1)) (it := .seq (.v 0)) (i := 3) (σ := [.val (.tup ds), .val (.int m), .val (.int n), .emp, .emp, .emp]) (μ := μ) (cs := ds) (f := fun c => .int (sndD c)) (by simp) (it_seq (d := .tup ds) rfl (.inl rfl)) (by omega) fun c hc => by
        rw [hp c hc]
        rfl
      have mf : ds.map (fun c => D.int (fstD c)) = (ds.map fstD).map .int := by simp
      have ms : ds.map (fun c => D.int (sndD c)) = (ds.map sndD).map .int := by simp
      rw [mf] at ef
      rw [ms] at es
      have s2 : evS pg cf (.par 4 5 (.l (.comp (.ix (.v 3) (.int 0)) (.v 3) (.seq (.v 0)) .nil)) (.l (.comp (.ix (.v 3) (.int 1)) (.v 3) (.seq (.v 0)) .nil))) [.val (.tup ds), .val (.int m), .val (.int n), .emp, .emp, .emp] μ = .next [.val (.tup ds), .val (.int m), .val (.int n), .emp, .own ((ds.map fstD).map .int), .own ((ds.map sndD).map .int)] μ := by
        generalize IL.comp (.ix (.v 3) (.int 0)) (.v 3) (.seq (.v 0)) .nil = L1 at ef
        generalize IL.comp (.ix (.v 3) (.int 1)) (.v 3) (.seq (.v 0)) .nil = L2 at es
        simp only [evS, evV, ef, es, ok_bind, ok_st]
        rfl
      refine runF_ret (σ := [.val (.tup ds), .val (.int m), .val (.int n), .emp, .emp, .emp]) rfl rfl ?_
      rw [evB_cons, s1, next_bind, evB_cons, s2, next_bind, evB_cons]
      generalize hf : ds.map fstD = fs
      generalize hg : ds.map sndD = gs
      have lf : fs.length < 64 := by rw [← hf]; simpa using hl
      have lg : gs.length < 64 := by rw [← hg]; simpa using hl
      have eL : evL pg cf (.sortset (.v 4)) [.val (.tup ds), .val (.int m), .val (.int n), .emp, .own (fs.map .int), .own (gs.map .int)] μ = .ok ((fs.eraseDups.mergeSort (fun a b => decide (a ≤ b))).map .int) μ := by
        unfold evL
        have : evE pg cf true (.v 4) [.val (.tup ds), .val (.int m), .val (.int n), .emp, .own (fs.map .int), .own (gs.map .int)] μ = .ok (.lst (fs.map .int)) μ := by simp [evE, rdO]
        rw [this, ok_bind]
        have hv : (lview μ (.lst (fs.map .int))).bind intsD = some fs := intsD_map fs
        rw [hv]
        simp only
        rw [if_neg (by omega)]
      have el : biD μ .lenset [.lst (gs.map .int)] = some (.int gs.eraseDups.length) := by
        show ((some (gs.map D.int)).bind intsD).bind _ = _
        rw [Option.bind_some, intsD_map, Option.bind_some, if_pos lg]
      have en : biD μ .len [.lst (gs.map .int)] = some (.int gs.length) := by rw [bi_lenl, List.length_map]
      have q1 := eq_ints (μ := μ) fs (fs.eraseDups.mergeSort (fun a b => decide (a ≤ b)))
      have d1 : decide (fs = fs.eraseDups.mergeSort (fun a b => decide (a ≤ b))) = decide (fs.Pairwise (· < ·)) := decide_eq_decide.mpr (asc_iff fs)
      have d2 : decide ((gs.eraseDups.length : Int) = gs.length) = decide gs.Nodup := decide_eq_decide.mpr (by rw [← ed_len _ gs (Nat.le_refl _)]; omega)
      rw [d1] at q1
      simp only [evS, evE, evEs, evBo, rdO, List.getElem?_cons_zero, List.getElem?_cons_succ, of_some, ok_bind, ok_st, if_true, eL, q1, Option.map_some, tr_bl, el, en, cmp_eqi, d2, psD, hb, Bool.true_and, okP, hf, hg]
      cases decide (fs.Pairwise (· < ·)) <;> simp [el, en, d2]
  | ref n => simp [NR, below] at h
  | _ => simp [runF, b17, evB, evS, evE, evEs, evBo, rd, rdO, ht, psD]
end T.Lib
end

section
namespace T.Lib
open PySem PySem.Spec L2 T
/-! ### data that can be compared -/
structure Sh (d : D) (x : PyData) (n : Nat) : Prop where
  py : toPy d = some x
  lay : x.canLay0 = true
  dp : x.depth ≤ n
theorem sh_all {n : Nat} : ∀ (ds : List D), (∀ d ∈ ds, ∃ x, Sh d x n) → ∃ xs, toPys ds = some xs ∧ xs.length = ds.length ∧ PyData.canLayAll0 xs = true ∧ PyData.depthAll xs ≤ n ∧ (∀ (i : Nat) (d : D), ds[i]? = some d → ∃ x, xs[i]? = some x ∧ toPy d = some x)
  | [], _ => ⟨[], by simp [toPys], rfl, by simp [PyData.canLayAll0], by simp [PyData.depthAll], by simp⟩
  | d :: ds, h => by
    obtain ⟨x, hx⟩ := h d List.mem_cons_self
    obtain ⟨xs, e, l, c, dp, g⟩ := sh_all ds fun y hy => h y (List.mem_cons_of_mem _ hy)
    refine ⟨x :: xs, by simp [toPys, hx.py, e], by simp [l], by simp [PyData.canLayAll0, hx.lay, c], by simp only [PyData.depthAll]; exact Nat.max_le.mpr ⟨hx.dp, dp⟩, fun i y hy => ?_⟩
    cases i with
    | zero => simp at hy; subst hy; exact ⟨x, rfl, hx.py⟩
    | succ i => simpa using g i y (by simpa using hy)
theorem sh_tup {ds : List D} {n : Nat} (h : ∀ d ∈ ds, ∃ x, Sh d x n) : ∃ xs, Sh (.tup ds) (.tuple xs) (n + 1) ∧ toPys ds = some xs ∧ xs.length = ds.length := by
  obtain ⟨xs, e, l, c, dp, _⟩ := sh_all ds h
  exact ⟨xs, ⟨by simp [toPy, e], by simpa [PyData.canLay0] using c, by simp only [PyData.depth]; omega⟩, e, l⟩
theorem Sh.shaped {d : D} {x : PyData} {n : Nat} (h : Sh d x n) (hn : n ≤ 64) : SeqAt.shaped x = true := by
  show (x.canLay0 && decide (x.depth ≤ 64)) = true
  rw [Bool.and_eq_true, decide_eq_true_eq]
  exact ⟨h.lay, Nat.le_trans h.dp hn⟩
theorem sh_int (i : Int) (n : Nat) : Sh (.int i) (.int i) n := ⟨rfl, by simp [PyData.canLay0], by simp [PyData.depth]⟩
theorem sh_bl (b : Bool) (n : Nat) : Sh (.bl b) (.bool b) n := ⟨rfl, by simp [PyData.canLay0], by simp [PyData.depth]⟩
theorem sh_non (n : Nat) : Sh .non .none n := ⟨rfl, by simp [PyData.canLay0], by simp [PyData.depth]⟩
theorem sh_prI (p : Int × Int) (n : Nat) (hn : 1 ≤ n) : Sh (prI p) (.tuple [.int p.1, .int p.2]) n :=
  ⟨by simp [prI, toPy, toPys], by simp [PyData.canLay0, PyData.canLayAll0], by simp [PyData.depth, PyData.depthAll]; omega⟩
theorem eq_tup {μ : Store} {as bs : List D} {x y : PyData} {n m : Nat} (hx : Sh (.tup as) x n) (hy : Sh (.tup bs) y m) (hn : n ≤ 64) (hm : m ≤ 64) : cmpD μ .Eq (.tup as) (.tup bs) = some (PyData.eqv x y) := by
  show dataEq μ (.tup as) (.tup bs) = _
  unfold dataEq
  simp only [dview, hx.py, hy.py]
  rw [if_pos ⟨hx.shaped hn, hy.shaped hm⟩]
theorem eq_nil {μ : Store} {ds : List D} {n : Nat} (h : ∀ d ∈ ds, ∃ x, Sh d x n) (hn : n + 1 ≤ 64) : cmpD μ .Eq (.tup ds) (.tup []) = some ds.isEmpty := by
  obtain ⟨xs, hx, _, l⟩ := sh_tup h
  have h0 : Sh (.tup []) (.tuple []) 1 := ⟨by simp [toPy, toPys], by simp [PyData.canLay0, PyData.canLayAll0], by simp [PyData.depth, PyData.depthAll]⟩
  rw [eq_tup hx h0 hn (by decide)]
  cases ds with
  | nil => cases xs with
    | nil => simp [PyData.eqv, PyData.eqvAll]
    | cons x xs => simp at l
  | cons d ds => cases xs with
    | nil => simp at l
    | cons x xs => simp [PyData.eqv, PyData.eqvAll]
theorem ne_of_eq {μ : Store} {d e : D} {b : Bool} (h : cmpD μ .Eq d e = some b) : cmpD μ .NotEq d e = some !b := by
  show (eqD μ d e).map (!·) = _
  have h : eqD μ d e = some b := h
  rw [h]
  rfl
theorem pr_sh {m n : Nat} {ds : List D} (h : ds.all (prD m n) = true) : ∀ d ∈ ds, ∃ x, Sh d x 1 := fun d hd => by
  obtain ⟨e, _⟩ := prD_inv (List.all_eq_true.mp h d hd)
  exact ⟨_, by rw [e]; exact sh_prI (fstD d, sndD d) 1 (by decide)⟩

/-! ### is_alignment -/
def nilD : D → Bool
  | .tup [] => true
  | _ => false
def alD (a b c e : Nat) : D → Bool
  | .tup [x, y] => psD a b x && (psD c e y && (!nilD x || nilD y))
  | _ => false
theorem fld0 {μ : Store} (hs rows : List D) : fldD μ (tabD hs rows) 0 = some (.tup hs) := rfl
theorem fld1 {μ : Store} (hs rows : List D) : fldD μ (tabD hs rows) 1 = some (.tup rows) := rfl
theorem ps_tup {m n : Nat} {d : D} (h : psD m n d = true) : ∃ ds, d = .tup ds ∧ ds.all (prD m n) = true := by
  cases d with
  | tup ds =>
    simp only [psD, Bool.and_eq_true] at h
    exact ⟨ds, rfl, h.1⟩
  | _ => cases h
theorem c_alignment {pg : Pg} (HS : Ha pg) (k : Nat) {d : D} (h : NR d) (hs : ∀ x y, d = .tup [x, y] → (∀ ds, x = .tup ds → ds.length < 64) ∧ (∀ ds, y = .tup ds → ds.length < 64)) (h1 r1 h2 r2 : List D) (μ : Store) :
    callI pg (k + 5) 18 [tabD h1 r1, tabD h2 r2, d] μ = .ok (.bl (alD h1.length h2.length r1.length r2.length d)) μ := by
  have e := fun {d : D} (h : NR d) (hs : ∀ ds, d = .tup ds → ds.length < 64) (m n : Nat) => c_pairs HS k h hs m n μ
  rw [callI_fn HS.f18]
  generalize callI pg (k + 4) = cf at e
  have ht := ty_tup h (μ := μ)
  cases d with
  | tup ds =>
    have hn := nr_tup h
    rcases ds with _ | ⟨x, _ | ⟨y, _ | ⟨z, ds⟩⟩⟩
    · simp [runF, b18, evB, evS, evE, evEs, evBo, rd, rdO, ht, alD, cmp_ne_int]
    · simp [runF, b18, evB, evS, evE, evEs, evBo, rd, rdO, ht, alD, cmp_ne_int]
    · obtain ⟨s1, s2⟩ := hs x y rfl
      have ex := e (nr_mem hn (by simp : x ∈ [x, y])) s1 h1.length h2.length
      have ey := e (nr_mem hn (by simp : y ∈ [x, y])) s2 r1.length r2.length
      have c1 : psD h1.length h2.length x = true → cmpD μ .NotEq x (.tup []) = some !nilD x := fun hp => by
        obtain ⟨ds, rfl, ha⟩ := ps_tup hp
        rw [ne_of_eq (eq_nil (pr_sh ha) (by decide))]
        cases ds <;> rfl
      have c2 : psD r1.length r2.length y = true → cmpD μ .Eq y (.tup []) = some (nilD y) := fun hp => by
        obtain ⟨ds, rfl, ha⟩ := ps_tup hp
        rw [eq_nil (pr_sh ha) (by decide)]
        cases ds <;> rfl
      cases q1 : psD h1.length h2.length x with
      | false =>
        rw [q1] at ex
        simp [runF, b18, evB, evS, evE, evEs, evBo, rd, rdO, ht, alD, cmp_ne_int, bindT, fld0, fld1, List.replicate, ex, q1]
      | true =>
        rw [q1] at ex
        have c1 := c1 q1
        cases q2 : psD r1.length r2.length y with
        | false =>
          rw [q2] at ey
          simp [runF, b18, evB, evS, evE, evEs, evBo, rd, rdO, ht, alD, cmp_ne_int, bindT, fld0, fld1, List.replicate, ex, ey, q1, q2]
        | true =>
          rw [q2] at ey
          have c2 := c2 q2
          simp [runF, b18, evB, evS, evE, evEs, evBo, rd, rdO, ht, alD, cmp_ne_int, bindT, fld0, fld1, List.replicate, ex, ey, q1, q2, c1]
          cases nilD x <;> simp [c1, c2]
    · have : ¬ ((ds.length : Int) + 1 + 1 + 1 = 2) := by omega
      simp [runF, b18, evB, evS, evE, evEs, evBo, rd, rdO, ht, alD, cmp_ne_int, this]
  | ref n => simp [NR, below] at h
  | _ => simp [runF, b18, evB, evS, evE, evEs, evBo, rd, rdO, ht, alD]
end T.Lib
end

section
namespace T.Lib
open PySem PySem.Spec L2 T
/-! ### drawn tables -/
theorem c_table {pg : Pg} (HS : Ha pg) (k : Nat) {n N w t : Nat} {μ : Store} (p : PotB μ n (N + 40)) (hp : Pots μ) (hw : 1 ≤ w ∧ w ≤ 3) (ht : t ≤ 6) :
    ∃ hs rows μ', callI pg (k + 6) 19 [.ref n, .int w, .int t] μ = .ok (tabD hs rows) μ' ∧ Fit hs rows ∧ hs.length ≤ w ∧ rows.length ≤ t ∧ PotB μ' n N ∧ Same n μ μ' ∧ Pots μ' := by
  obtain ⟨a, μa, a1, a0, a2, pa, sa⟩ := c_drawB HS.toHs (k + 4) (N := N + 39) p (m := w) (by omega) (by omega)
  obtain ⟨m, em⟩ : ∃ m : Nat, 1 + a = (m : Int) := ⟨(1 + a).toNat, by omega⟩
  obtain ⟨hs, μ1, b1, lh, ⟨r, pe⟩, p1, s1⟩ := c_words HS.toHs (k + 3) (N := N + 30) (m := m) (pa.less (by omega)) (by omega)
  rw [← em] at b1
  obtain ⟨u, μb, y1, u0, u1, pb, sb⟩ := c_drawB HS.toHs (k + 4) (N := N + 29) p1 (m := t + 1) (by omega) (by omega)
  obtain ⟨q, eq⟩ : ∃ q : Nat, u = (q : Int) := ⟨u.toNat, by omega⟩
  have hq : q * m ≤ 6 * 3 := Nat.mul_le_mul (by omega) (by omega)
  obtain ⟨rows, μ2, y2, lr, or, p2, s2⟩ := c_rows HS.toHs (k + 1) (N := N) (w := m) (m := q) (pb.less (by omega)) (by omega) (by omega)
  rw [← eq] at y2
  rw [← lh] at y2 or
  have fit : Fit hs rows := ⟨heads_of pe, by omega, by omega, or, by omega⟩
  have q4 := pots_same (pots_same (pots_same (pots_same hp pa sa) p1 s1) pb sb) p2 s2
  have c1 := new_table HS.toHs k fit q4
  rw [callI_fn HS.f19]
  generalize callI pg (k + 5) = cf at *
  have a1 : cf 1 [.ref n, .int w] μ = .ok (.int a) μa := a1
  have b1 : cf 4 [.ref n, .int (1 + a)] μa = .ok (.tup hs) μ1 := b1
  have y1 : cf 1 [.ref n, .int (t + 1)] μ1 = .ok (.int u) μb := y1
  have y2 : cf 6 [.ref n, .int hs.length, .int u] μb = .ok (.tup rows) μ2 := y2
  refine ⟨hs, rows, μ2, ?_, fit, by omega, by omega, p2, ((sa.trans s1).trans sb).trans s2, q4⟩
  simp [runF, b19, evB, evS, evE, evEs, rd, rdO, a1, b1, y1, y2, c1, bindT, List.replicate]

/-! ### drawn pairs -/
theorem map_erase {α β : Type} (f : α → β) : ∀ (l : List α) (i : Nat), (l.map f).eraseIdx i = (l.eraseIdx i).map f
  | [], _ => rfl
  | a :: l, 0 => rfl
  | a :: l, i + 1 => by
    show f a :: (l.map f).eraseIdx i = f a :: (l.eraseIdx i).map f
    rw [map_erase f l i]
theorem popIx_int {ls : List Int} {r : Int} (h0 : 0 ≤ r) (h1 : r < ls.length) : ∃ x ls', popIx (ls.map .int) r = some (.int x, ls'.map .int) ∧ (x :: ls').Perm ls := by
  have hl : r.toNat < ls.length := by omega
  refine ⟨ls[r.toNat], ls.eraseIdx r.toNat, ?_, erase_perm hl⟩
  unfold popIx ixN
  rw [List.length_map, if_pos h0, if_pos (by omega)]
  simp [hl, map_erase]
def dpB : IB := .cons (.iff (.bo .And (.cons (.cmp .NotEq (.v 3) (.lst .fz (.disp .nil))) (.cons (.cmp .Gt (.call 1 (.cons (.v 0) (.cons (.int 4) .nil))) (.int 0)) .nil))) (.cons (.apppopT 4 5 3 (.call 1 (.cons (.v 0) (.cons (.bi .len (.cons (.v 3) .nil)) .nil)))) .nil) .nil) .nil
def dpT (pg : Pg) (cf : CF) : D → Slots → Store → SR := fun x σ1 μ2 => match bindT (.v 5) x σ1 with
  | some σ2 => evB pg cf dpB σ2 μ2
  | none => .bad
/-- what has been drawn by turn b -/
structure DP (b o : Nat) (ps : List (Int × Int)) (ls : List Int) : Prop where
  fs : ∀ p ∈ ps, 0 ≤ p.1 ∧ p.1 < b
  asc : (ps.map (·.1)).Pairwise (· < ·)
  ss : ∀ x ∈ ps.map (·.2) ++ ls, 0 ≤ x ∧ x < (o : Int)
  nd : (ps.map (·.2) ++ ls).Nodup
  len : ps.length + ls.length = o
  few : ps.length ≤ b
def DrawOk (cf : CF) : Prop := ∀ {n N : Nat} {μ : Store} {m : Int}, PotB μ n (N + 1) → 0 < m → m < 1000000 → ∃ r μ', cf 1 [.ref n, .int m] μ = .ok (.int r) μ' ∧ 0 ≤ r ∧ r < m ∧ PotB μ' n N ∧ Same n μ μ'
theorem drawOk {pg : Pg} (HS : Hs pg) (k : Nat) : DrawOk (callI pg (k + 1)) := fun p h1 h2 => c_drawB HS k p h1 h2
def AnyOk (cf : CF) : Prop := ∀ {n N : Nat} {μ : Store} {ds : List D}, PotB μ n (N + 1) → ds ≠ [] → ds.length < 1000000 → ∃ d μ', cf 2 [.ref n, .lst ds] μ = .ok d μ' ∧ d ∈ ds ∧ PotB μ' n N ∧ Same n μ μ'
theorem anyOk {pg : Pg} (HS : Hs pg) (k : Nat) : AnyOk (callI pg (k + 2)) := fun p h1 h2 => c_any HS k p h1 h2
theorem dp_turn {pg : Pg} {cf : CF} (hd : DrawOk cf) {n N b o : Nat} {μ : Store} {ps : List (Int × Int)} {ls : List Int} {a1 a2 : D} {s5 : Sl} (ho : o < 64) (h : DP b o ps ls) (p : PotB μ n (N + 2)) :
    ∃ ps' ls' μ', dpT pg cf (.int b) [.val (.ref n), .val a1, .val a2, .own (ls.map .int), .own (ps.map prI), s5] μ = .next [.val (.ref n), .val a1, .val a2, .own (ls'.map .int), .own (ps'.map prI), .val (.int b)] μ' ∧ DP (b + 1) o ps' ls' ∧ PotB μ' n N ∧ Same n μ μ' := by
  have hz := sizeLine_eq
  have up : DP (b + 1) o ps ls := ⟨fun p hp => by have := h.fs p hp; omega, h.asc, h.ss, h.nd, h.len, by have := h.few; omega⟩
  have e0 : cmpD μ .NotEq (.lst (ls.map .int)) (.lst []) = some !decide (ls = []) := ne_of_eq (by simpa using eq_ints (μ := μ) ls [])
  unfold dpT dpB
  show ∃ ps' ls' μ', evB pg cf _ [.val (.ref n), .val a1, .val a2, .own (ls.map .int), .own (ps.map prI), .val (.int b)] μ = _ ∧ _
  by_cases hl : ls = []
  · refine ⟨ps, ls, μ, ?_, up, p.less (by omega), .refl⟩
    rw [decide_eq_true hl] at e0
    simp [evB, evS, evE, evEs, evL, evBo, rdO, e0]
  rw [decide_eq_false hl] at e0
  obtain ⟨q, μ1, d1, q0, q1, p1, s1⟩ := hd (N := N + 1) p (m := 4) (by decide) (by decide)
  by_cases hq : 0 < q
  · have hll : 0 < ls.length := List.length_pos_iff.mpr hl
    obtain ⟨r, μ2, d2, r0, r1, p2, s2⟩ := hd (N := N) p1 (m := ls.length) (by omega) (by have := h.len; omega)
    obtain ⟨x, ls', e2, pe⟩ := popIx_int r0 r1
    have pe' : (ps.map (·.2) ++ (x :: ls')).Perm (ps.map (·.2) ++ ls) := List.Perm.append_left _ pe
    have hx := h.ss x (by simp [pe.mem_iff.mp (List.mem_cons_self ..)])
    refine ⟨ps ++ [((b : Int), x)], ls', μ2, ?_, ⟨fun p hp => ?_, ?_, fun y hy => ?_, ?_, ?_, ?_⟩, p2, s1.trans s2⟩
    · have hlen : ps.length < sizeLine ∧ ls.length ≤ sizeLine := by have := h.len; omega
      have c1 : (ps.map prI).length < sizeLine ∧ (4 : Nat) ≠ 3 ∧ (ls.map D.int).length ≤ sizeLine := by simp [hlen]
      simp [evB, evS, evE, evEs, evL, evBo, rd, rdO, e0, d1, hq, d2, e2, hlen]
      rfl
    · rcases List.mem_append.mp hp with hp | hp
      · have := h.fs p hp; omega
      · simp at hp; subst hp; simp; omega
    · rw [List.map_append, List.pairwise_append]
      refine ⟨h.asc, by simp, fun a ha c hc => ?_⟩
      obtain ⟨pp, hpp, rfl⟩ := List.mem_map.mp ha
      simp at hc
      subst hc
      exact (h.fs pp hpp).2
    · refine h.ss y ?_
      rw [← pe'.mem_iff]
      simpa using hy
    · have := pe'.nodup_iff.mpr h.nd
      simpa using this
    · have := pe.length_eq
      have := h.len
      simp at *
      omega
    · have := h.few; simp; omega
  · refine ⟨ps, ls, μ1, ?_, up, p1.less (by omega), s1⟩
    simp [evB, evS, evE, evEs, evL, evBo, rd, rdO, e0, d1, hq]
theorem dp_turns {pg : Pg} {cf : CF} (hd : DrawOk cf) {n o : Nat} (ho : o < 64) {a1 a2 : D} : ∀ (r b N : Nat) (μ : Store) (ps : List (Int × Int)) (ls : List Int) (s5 : Sl), DP b o ps ls → PotB μ n (N + 2 * r) →
    ∃ ps' ls' s5' μ', forGo (dpT pg cf) ((List.range' b r).map fun k => .int (k : Nat)) [.val (.ref n), .val a1, .val a2, .own (ls.map .int), .own (ps.map prI), s5] μ = .next [.val (.ref n), .val a1, .val a2, .own (ls'.map .int), .own (ps'.map prI), s5'] μ' ∧ DP (b + r) o ps' ls' ∧ PotB μ' n N ∧ Same n μ μ'
  | 0, b, N, μ, ps, ls, s5, h, p => ⟨ps, ls, s5, μ, rfl, h, p, .refl⟩
  | r + 1, b, N, μ, ps, ls, s5, h, p => by
    obtain ⟨ps1, ls1, μ1, e1, h1, p1, s1⟩ := dp_turn (pg := pg) hd (a1 := a1) (a2 := a2) (s5 := s5) ho h (N := N + 2 * r) (p.less (by omega))
    obtain ⟨ps2, ls2, s52, μ2, e2, h2, p2, s2⟩ := dp_turns hd ho r (b + 1) N μ1 ps1 ls1 (.val (.int b)) h1 p1
    refine ⟨ps2, ls2, s52, μ2, ?_, by rw [show b + (r + 1) = b + 1 + r by omega]; exact h2, p2, s1.trans s2⟩
    rw [List.range'_succ]
    show (match dpT pg cf (.int b) [.val (.ref n), .val a1, .val a2, .own (ls.map .int), .own (ps.map prI), s5] μ with | .next σ1 μ1 => _ | .cont σ1 μ1 => _ | .brk σ1 μ1 => _ | r => _) = _
    rw [e1]
    exact e2
theorem dp_ok {m o : Nat} {ps : List (Int × Int)} {ls : List Int} (h : DP m o ps ls) : psD m o (.tup (ps.map prI)) = true := by
  have e1 : (ps.map prI).map fstD = ps.map (·.1) := by rw [List.map_map]; rfl
  have e2 : (ps.map prI).map sndD = ps.map (·.2) := by rw [List.map_map]; rfl
  simp only [psD, okP, Bool.and_eq_true, decide_eq_true_eq, e1, e2]
  refine ⟨List.all_eq_true.mpr fun d hd => ?_, h.asc, (List.nodup_append.mp h.nd).1⟩
  obtain ⟨p, hp, rfl⟩ := List.mem_map.mp hd
  have h1 := h.fs p hp
  have h2 := h.ss p.2 (by simp; exact .inl ⟨p.1, hp⟩)
  simp [prI, prD, plD]
  omega
theorem c_drawn {pg : Pg} (HS : Hd pg) (k : Nat) {n N m o : Nat} {μ : Store} (hm : m < 64) (ho : o < 64) (p : PotB μ n (N + 2 * m)) :
    ∃ (ps : List (Int × Int)) (μ' : Store), callI pg (k + 2) 20 [.ref n, .int m, .int o] μ = .ok (.tup (ps.map prI)) μ' ∧ psD m o (.tup (ps.map prI)) = true ∧ ps.length ≤ m ∧ PotB μ' n N ∧ Same n μ μ' := by
  have hd : DrawOk (callI pg (k + 1)) := @drawOk pg HS.toHs k
  rw [callI_fn HS.f20]
  generalize callI pg (k + 1) = cf at hd
  have h0 : DP 0 o [] ((List.range o).map Int.ofNat) := by
    refine ⟨by simp, by simp, fun x hx => ?_, ?_, by simp, by simp⟩
    · simp at hx
      obtain ⟨a, ha, rfl⟩ := hx
      omega
    · simp only [List.map_nil, List.nil_append]
      exact List.Pairwise.map _ (fun a b h e => h (Int.ofNat.inj e)) List.nodup_range
  obtain ⟨ps, ls, s5, μ', e, h, p', s⟩ := dp_turns (pg := pg) hd ho (a1 := .int m) (a2 := .int o) m 0 N μ [] _ .emp h0 p
  rw [Nat.zero_add] at h
  refine ⟨ps, μ', runF_ret (σ := [.val (.ref n), .val (.int m), .val (.int o), .emp, .emp, .emp]) rfl rfl ?_, dp_ok h, h.few, p', s⟩
  have e1 : evS pg cf (.par 3 4 (.l (.listRg (.v 2))) (.l (.disp .nil))) [.val (.ref n), .val (.int m), .val (.int o), .emp, .emp, .emp] μ = .next [.val (.ref n), .val (.int m), .val (.int o), .own (((List.range o).map Int.ofNat).map .int), .own (([] : List (Int × Int)).map prI), .emp] μ := by
    have hb : (o : Int) ≤ 16777216 ∧ -(2 ^ 62) ≤ (o : Int) := by omega
    have el : evL pg cf (.listRg (.v 2)) [.val (.ref n), .val (.int m), .val (.int o), .emp, .emp, .emp] μ = .ok (((List.range o).map Int.ofNat).map .int) μ := by
      unfold evL
      have : evE pg cf false (.v 2) [.val (.ref n), .val (.int m), .val (.int o), .emp, .emp, .emp] μ = .ok (.int o) μ := by simp [evE, rd]
      rw [this, ok_bind]
      simp only
      rw [if_pos hb, List.map_map]
      congr 1
      exact List.map_congr_left fun a _ => by simp
    generalize IL.listRg (.v 2) = L at el
    simp [evS, evV, el, evL, evEs]
  have ei : evIt pg cf false (.range1 (.v 1)) [.val (.ref n), .val (.int m), .val (.int o), .own (((List.range o).map Int.ofNat).map .int), .own (([] : List (Int × Int)).map prI), .emp] μ = .ok ((List.range m).map fun k => .int (0 + (k : Nat))) μ := it_range1s rfl (by omega)
  have hr : ((List.range m).map fun k => D.int (0 + (k : Nat))) = (List.range' 0 m).map fun k => D.int (k : Nat) := by
    rw [← List.range_eq_range']
    exact List.map_congr_left fun a _ => by simp
  rw [hr] at ei
  have ef : evS pg cf (.forr (.v 5) (.range1 (.v 1)) dpB) [.val (.ref n), .val (.int m), .val (.int o), .own (((List.range o).map Int.ofNat).map .int), .own (([] : List (Int × Int)).map prI), .emp] μ = .next [.val (.ref n), .val (.int m), .val (.int o), .own (ls.map .int), .own (ps.map prI), s5] μ' := by
    unfold evS
    rw [ei, ok_st]
    exact e
  rw [show b20 = .cons (.par 3 4 (.l (.listRg (.v 2))) (.l (.disp .nil))) (.cons (.forr (.v 5) (.range1 (.v 1)) dpB) (.cons (.ret (.bi .tuple (.cons (.v 4) .nil))) .nil)) from rfl]
  rw [evB_cons, e1, next_bind, evB_cons, ef, next_bind]
  simp [evB, evS, evE, evEs, rdO]
/-- _law_laid -/
theorem c_laid {pg : Pg} (HS : Hd pg) (k : Nat) {n N : Nat} {μ : Store} {h1 r1 h2 r2 : List D} (f1 : Fit h1 r1) (f2 : Fit h2 r2) (p : PotB μ n (N + 20)) :
    ∃ (cs rs : List (Int × Int)) (μ' : Store), callI pg (k + 3) 21 [.ref n, tabD h1 r1, tabD h2 r2] μ = .ok (.tup [.tup (cs.map prI), .tup (rs.map prI)]) μ' ∧ alD h1.length h2.length r1.length r2.length (.tup [.tup (cs.map prI), .tup (rs.map prI)]) = true ∧ cs.length ≤ 3 ∧ rs.length ≤ 6 ∧ PotB μ' n N ∧ Same n μ μ' := by
  have a1 := f1.hi
  have a2 := f2.hi
  have a3 := f1.m
  have a4 := f2.m
  obtain ⟨cs, μ1, e1, c1, l1, p1, s1⟩ := c_drawn HS k (N := N + 12) (m := h1.length) (o := h2.length) (by omega) (by omega) (p.less (by omega))
  obtain ⟨rs, μ2, e2, c2, l2, p2, s2⟩ := c_drawn HS k (N := N) (m := r1.length) (o := r2.length) (by omega) (by omega) (p1.less (by omega))
  rw [callI_fn HS.f21]
  generalize callI pg (k + 2) = cf at *
  have hpr : (cs.map prI).all (prD h1.length h2.length) = true := by
    simp only [psD, Bool.and_eq_true] at c1
    exact c1.1
  have en : cmpD μ1 .NotEq (.tup (cs.map prI)) (.tup []) = some !(cs.map prI).isEmpty := ne_of_eq (eq_nil (pr_sh hpr) (by decide))
  cases cs with
  | nil =>
    refine ⟨[], [], μ1, ?_, ?_, by simp, by simp, p1.less (by omega), s1⟩
    · simp at en e1
      simp [runF, b21, evB, evS, evE, evEs, rd, rdO, bindT, List.replicate, fld0, e1, en]
    · simp at c1
      simp [alD, c1, psD, okP, nilD]
  | cons c cs =>
    refine ⟨c :: cs, rs, μ2, ?_, ?_, by omega, by omega, p2, s1.trans s2⟩
    · simp at en e1
      simp [runF, b21, evB, evS, evE, evEs, rd, rdO, bindT, List.replicate, fld0, fld1, e1, en, e2]
    · show (psD h1.length h2.length (.tup ((c :: cs).map prI)) && (psD r1.length r2.length (.tup (rs.map prI)) && (!false || nilD (.tup (rs.map prI))))) = true
      rw [c1, c2]
      rfl
abbrev alT (cs rs : List (Int × Int)) : D := .tup [.tup (cs.map prI), .tup (rs.map prI)]
end T.Lib
end

section
namespace T.Lib
open PySem PySem.Spec L2 T
/-! ### values of any kind -/
/-- atoms; n: how deep; w: how long tuples and lists are -/
inductive V (A : List D) : Nat → Nat → D → Prop
  | at {n w : Nat} {d : D} (h : d ∈ A) : V A n w d
  | tup {n w : Nat} {ds : List D} (l : ds.length ≤ w) (h : ∀ d ∈ ds, V A n w d) : V A (n + 1) w (.tup ds)
  | lst {n w : Nat} {ds : List D} (l : ds.length ≤ w) (h : ∀ d ∈ ds, V A n w d) : V A (n + 1) w (.lst ds)
  | dct0 {n w : Nat} : V A n w (.dct [] [])
  | dct1 {n w : Nat} {d : D} (h : V A n w d) : V A (n + 1) w (.dct [.inr "a"] [d])
theorem V.mono {A : List D} {n w : Nat} {d : D} (h : V A n w d) : ∀ {n' w' : Nat}, n ≤ n' → w ≤ w' → V A n' w' d := by
  induction h with
  | «at» h => intro _ _ _ _; exact .at h
  | @tup n w ds l h ih =>
    intro n' w' h1 h2
    obtain ⟨m, rfl⟩ : ∃ m, n' = m + 1 := ⟨n' - 1, by omega⟩
    exact .tup (Nat.le_trans l h2) fun d hd => ih d hd (by omega) h2
  | @lst n w ds l h ih =>
    intro n' w' h1 h2
    obtain ⟨m, rfl⟩ : ∃ m, n' = m + 1 := ⟨n' - 1, by omega⟩
    exact .lst (Nat.le_trans l h2) fun d hd => ih d hd (by omega) h2
  | dct0 => intro _ _ _ _; exact .dct0
  | @dct1 n w d h ih =>
    intro n' w' h1 h2
    obtain ⟨m, rfl⟩ : ∃ m, n' = m + 1 := ⟨n' - 1, by omega⟩
    exact .dct1 (ih (by omega) h2)
/-- what atoms have to keep -/
def okAt (A : List D) : Bool := A.all fun d => flatD d && (match toPy d with | some x => x.showable && decide (x.shown.length ≤ 40) && decide (x.depth = 0) | none => false)
def bnd (w : Nat) : Nat → Nat
  | 0 => 40
  | n + 1 => (max w 1) * (bnd w n + 2) + 10
theorem bnd_ge (w : Nat) : ∀ n, 40 ≤ bnd w n
  | 0 => Nat.le_refl _
  | n + 1 => by
    have h := bnd_ge w n
    have h2 : 1 * (bnd w n + 2) ≤ (max w 1) * (bnd w n + 2) := Nat.mul_le_mul_right _ (Nat.le_max_right _ _)
    simp only [bnd]
    omega
theorem bnd_dct (w n : Nat) : bnd w n + 7 ≤ bnd w (n + 1) := by
  have h2 : 1 * (bnd w n + 2) ≤ (max w 1) * (bnd w n + 2) := Nat.mul_le_mul_right _ (Nat.le_max_right _ _)
  simp only [bnd]
  omega
theorem bnd_seq {w l : Nat} (n : Nat) (h : l ≤ w) : l * (bnd w n + 2) + 3 ≤ bnd w (n + 1) := by
  have h2 : l * (bnd w n + 2) ≤ (max w 1) * (bnd w n + 2) := Nat.mul_le_mul_right _ (Nat.le_trans h (Nat.le_max_left _ _))
  simp only [bnd]
  omega
/-- a value as data: its depth, its text -/
structure Vx (d : D) (x : PyData) (n L : Nat) : Prop where
  py : toPy d = some x
  sh : x.showable = true
  dp : x.depth ≤ n
  ln : x.shown.length ≤ L
theorem vx_all {n L : Nat} : ∀ (ds : List D), (∀ d ∈ ds, ∃ x, Vx d x n L) → ∃ xs, toPys ds = some xs ∧ PyData.showableAll xs = true ∧ PyData.depthAll xs ≤ n ∧ piled (PyData.shownAll xs) ≤ ds.length * (L + 2)
  | [], _ => ⟨[], by simp [toPys], by simp [PyData.showableAll], by simp [PyData.depthAll], by simp [PyData.shownAll, piled]⟩
  | d :: ds, h => by
    obtain ⟨x, hx⟩ := h d List.mem_cons_self
    obtain ⟨xs, e, s, dp, p⟩ := vx_all ds fun y hy => h y (List.mem_cons_of_mem _ hy)
    refine ⟨x :: xs, by simp [toPys, hx.py, e], by simp [PyData.showableAll, hx.sh, s], by simp only [PyData.depthAll]; exact Nat.max_le.mpr ⟨hx.dp, dp⟩, ?_⟩
    simp only [PyData.shownAll, piled_cons]
    have := hx.ln
    rw [List.length_cons, Nat.succ_mul]
    omega
theorem list_len (ts : List Str) : (listText ts).length ≤ piled ts + 3 := by
  unfold listText
  rw [strLen_append]
  have e3 : ((("]" : String) : Str)).length = 1 := rfl
  have e1 : ((("[" : String) : Str)).length = 1 := rfl
  rw [e3]
  cases ts with
  | nil =>
    have : (textFrom 0 "[" []).length = 1 := rfl
    rw [this]
    omega
  | cons t ts =>
    have h := textFrom_length_pos ts 1 (("[" : Str) ++ (if (0 : Nat) > 0 then ", " else "" : String) ++ t) (Nat.succ_pos 0)
    have h2 : textFrom 0 "[" (t :: ts) = textFrom 1 (("[" : Str) ++ (if (0 : Nat) > 0 then ", " else "" : String) ++ t) ts := rfl
    rw [h2, h, strLen_append, strLen_append, piled_cons, e1]
    have e4 : (((if (0 : Nat) > 0 then ", " else "" : String) : Str)).length = 0 := rfl
    rw [e4]
    omega
theorem V.vx {A : List D} (hA : okAt A = true) {n w : Nat} {d : D} (h : V A n w d) : ∃ x, Vx d x (n + 1) (bnd w n) := by
  induction h with
  | @«at» n w d h =>
    have q := List.all_eq_true.mp hA d h
    obtain ⟨q1, q2⟩ := Bool.and_eq_true_iff.mp q
    cases e : toPy d with
    | none => rw [e] at q2; cases q2
    | some x =>
      rw [e] at q2
      simp only [Bool.and_eq_true, decide_eq_true_eq] at q2
      exact ⟨x, e, q2.1.1, by omega, Nat.le_trans q2.1.2 (bnd_ge w n)⟩
  | @tup n w ds l h ih =>
    obtain ⟨xs, e, s, dp, p⟩ := vx_all ds ih
    refine ⟨.tuple xs, by simp [toPy, e], by simpa [PyData.showable] using s, by simp only [PyData.depth]; omega, ?_⟩
    simp only [PyData.shown]
    have := tup_len (PyData.shownAll xs)
    have h2 := bnd_seq n l
    omega
  | @lst n w ds l h ih =>
    obtain ⟨xs, e, s, dp, p⟩ := vx_all ds ih
    refine ⟨.list xs, by simp [toPy, e], by simpa [PyData.showable] using s, by simp only [PyData.depth]; omega, ?_⟩
    simp only [PyData.shown]
    have := list_len (PyData.shownAll xs)
    have h2 := bnd_seq n l
    omega
  | @dct0 n w =>
    refine ⟨.dict [], by simp [toPy, toPys], by simp [PyData.showable, PyData.showableKv], ?_, ?_⟩
    · simp [PyData.depth, PyData.depthKv]
    · have : (PyData.dict []).shown.length = 2 := by decide +kernel
      have := bnd_ge w n
      omega
  | @dct1 n w d h ih =>
    obtain ⟨x, hx⟩ := ih
    refine ⟨.dict [(.str "a", x)], by simp [toPy, toPys, hx.py, kP], by simp [PyData.showable, PyData.showableKv, hx.sh], ?_, ?_⟩
    · have := hx.dp
      simp only [PyData.depth, PyData.depthKv]
      omega
    · simp only [PyData.shown, PyData.shownKv]
      have e1 : (dictText [(reprText "a" ++ ": " ++ x.shown : Str)]).length = 1 + (3 + 2 + x.shown.length) + 1 := by
        unfold dictText
        simp only [Str.join]
        rw [strLen_append, strLen_append, strLen_append, strLen_append]
        have q1 : (Str.ofString "{").length = 1 := by decide +kernel
        have q2 : (reprText (Str.ofString "a")).length = 3 := by decide +kernel
        have q3 : (Str.ofString ": ").length = 2 := by decide +kernel
        have q4 : (Str.ofString "}").length = 1 := by decide +kernel
        rw [q1, q2, q3, q4]
      have := hx.ln
      have h3 : (dictText [(reprText "a" ++ ": " ++ x.shown : Str)]).length ≤ bnd w (n + 1) := by
        rw [e1]
        have := bnd_dct w n
        omega
      exact h3
theorem V.nr {A : List D} (hA : okAt A = true) {n w : Nat} {d : D} (h : V A n w d) : NR d := by
  induction h with
  | @«at» n w d h =>
    have q := (Bool.and_eq_true_iff.mp (List.all_eq_true.mp hA d h)).1
    cases d <;> simp [flatD] at q <;> simp [NR, T.below]
  | tup l h ih =>
    simp only [NR, T.below]
    exact belows_all ih
  | lst l h ih =>
    simp only [NR, T.below]
    exact belows_all ih
  | dct0 => simp [NR, T.below, T.belows]
  | dct1 h ih =>
    have ih : T.below 0 _ = true := ih
    simp [NR, T.below, T.belows, ih]
/-- repr of a value -/
theorem V.repr {A : List D} (hA : okAt A = true) {n w : Nat} {d : D} (h : V A n w d) (hn : n ≤ 20) (hb : bnd w n ≤ 16777216) (μ : Store) : ∃ x : Str, biD μ .repr [d] = some (.str x) := by
  have hz := sizeLine_eq
  obtain ⟨x, hx⟩ := h.vx hA
  have hr := h.nr hA
  have hs : showable x = true := by
    have := hx.dp
    have := hx.ln
    unfold showable
    rw [hx.sh, Bool.true_and, Bool.and_eq_true, decide_eq_true_eq, decide_eq_true_eq]
    omega
  show ∃ y, biRepr μ [d] = some (.str y)
  have hp := hx.py
  have hl := hx.ln
  have hsh := hx.sh
  cases d with
  | ref n => simp [NR, T.below] at hr
  | non => exact ⟨_, rfl⟩
  | bl b => exact ⟨_, rfl⟩
  | int i =>
    simp [toPy] at hp
    subst hp
    simp [PyData.showable] at hsh
    exact ⟨toString i, by simp [biRepr, hsh]⟩
  | str z =>
    simp [toPy] at hp
    subst hp
    simp [PyData.shown] at hl
    exact ⟨reprText z, by simp [biRepr]; omega⟩
  | _ =>
    refine ⟨x.shown, ?_⟩
    simp only [biRepr, dview, hp, hs, if_true]
theorem V.inv_tup {A : List D} (hA : okAt A = true) {n w : Nat} {ds : List D} (h : V A n w (.tup ds)) : ∃ m, n = m + 1 ∧ ds.length ≤ w ∧ ∀ d ∈ ds, V A m w d := by
  cases h with
  | «at» h =>
    have q := (Bool.and_eq_true_iff.mp (List.all_eq_true.mp hA _ h)).1
    simp [flatD] at q
  | tup l h => exact ⟨_, rfl, l, h⟩
end T.Lib
end

section
namespace T.Lib
open PySem PySem.Spec L2 T
def b32 : IB := (.cons (.ret (.bo .And (.cons (.isi (.v 0) .int) (.cons (.nt (.isi (.v 0) .bool)) (.cons (.chain .LtE .LtE (.v 1) (.v 0) (.v 2)) .nil))))) .nil)
def b33 : IB := (.cons (.own 2 (.disp (.cons .non (.cons (.bl true) (.cons (.bl false) (.cons (.int 0) (.cons (.neg (.int 1)) (.cons (.int 1) (.cons (.int 2) (.cons (.int 3) (.cons (.int 1000) (.cons (.neg (.int 1000)) (.cons (.bin .Pow (.int 10) (.int 30)) (.cons (.str "") (.cons (.str "a") (.cons (.str "A") (.cons (.str "a1") (.cons (.str "abcdefghi") (.cons (.tup .nil) (.cons (.lst .fz (.disp .nil)) (.cons .dct0 .nil))))))))))))))))))))) (.cons (.own 2 (.cat (.v 2) (.lst .fz (.disp (.cons (.tup (.cons (.v 1) .nil)) (.cons (.lst .fz (.disp (.cons (.v 1) .nil))) (.cons (.dct1 "a" (.v 1)) (.cons (.tup (.cons (.tup .nil) .nil)) (.cons (.tup (.cons (.str "a") (.cons (.str "a") .nil))) (.cons (.tup (.cons (.int 1) (.cons (.str "a") .nil))) .nil)))))))))) (.cons (.iff (.isi (.v 1) .tuple) (.cons (.own 2 (.cat (.v 2) (.lst .fz (.rep (.lst .fz (.disp (.cons (.lst .fz (.listOf (.v 1))) (.cons (.bin .Add (.v 1) (.slc (.v 1) .no (.so (.int 1)))) (.cons (.slc (.v 1) (.so (.int 1)) .no) (.cons (.slc (.v 1) .no (.so (.neg (.int 1)))) (.cons (.rev (.v 1)) (.cons (.bin .Add (.v 1) (.tup (.cons .non .nil))) .nil)))))))) (.int 2))))) .nil) .nil) (.cons (.frz 2) (.cons (.ret (.call 2 (.cons (.v 0) (.cons (.v 2) .nil)))) .nil)))))
def b34 : IB := (.cons (.iff (.bo .Or (.cons (.cmp .Eq (.v 2) (.int 0)) (.cons (.nt (.isi (.v 1) .tuple)) (.cons (.eqNil (.v 1)) (.cons (.cmp .Eq (.call 1 (.cons (.v 0) (.cons (.int 4) .nil))) (.int 0)) .nil))))) (.cons (.ret (.call 33 (.cons (.v 0) (.cons (.v 1) .nil)))) .nil) .nil) (.cons (.set (.v 3) (.call 1 (.cons (.v 0) (.cons (.bi .len (.cons (.v 1) .nil)) .nil)))) (.cons (.ret (.bin .Add (.bin .Add (.slc (.v 1) .no (.so (.v 3))) (.tup (.cons (.call 34 (.cons (.v 0) (.cons (.ix (.v 1) (.v 3)) (.cons (.bin .Sub (.v 2) (.int 1)) .nil)))) .nil))) (.slc (.v 1) (.so (.bin .Add (.v 3) (.int 1))) .no))) .nil)))
def b35 : IB := (.cons (.iff (.nt (.isi (.v 0) .tuple)) (.cons (.ret (.bl false)) .nil) .nil) (.cons (.forr (.v 3) (.seq (.v 0)) (.cons (.iff (.bo .Or (.cons (.nt (.isi (.v 3) .tuple)) (.cons (.cmp .NotEq (.bi .len (.cons (.v 3) .nil)) (.int 2)) .nil))) (.cons (.ret (.bl false)) .nil) .nil) (.cons (.iff (.bo .Or (.cons (.nt (.call 32 (.cons (.ix (.v 3) (.int 0)) (.cons (.int 0) (.cons (.bin .Sub (.v 1) (.int 1)) .nil))))) (.cons (.nt (.call 32 (.cons (.ix (.v 3) (.int 1)) (.cons (.int 0) (.cons (.bin .Sub (.v 2) (.int 1)) .nil))))) .nil))) (.cons (.ret (.bl false)) .nil) .nil) .nil))) (.cons (.par 4 5 (.l (.comp (.ix (.v 3) (.int 0)) (.v 3) (.seq (.v 0)) .nil)) (.l (.comp (.ix (.v 3) (.int 1)) (.v 3) (.seq (.v 0)) .nil))) (.cons (.ret (.bo .And (.cons (.cmp .Eq (.v 4) (.lst .fz (.sortset (.v 4)))) (.cons (.cmp .Eq (.bi .lenset (.cons (.v 5) .nil)) (.bi .len (.cons (.v 5) .nil))) .nil)))) .nil))))
def b36 : IB := (.cons (.iff (.bo .Or (.cons (.nt (.isi (.v 2) .tuple)) (.cons (.cmp .NotEq (.bi .len (.cons (.v 2) .nil)) (.int 2)) .nil))) (.cons (.ret (.bl false)) .nil) .nil) (.cons (.iff (.nt (.call 35 (.cons (.ix (.v 2) (.int 0)) (.cons (.bi .len (.cons (.fld (.v 0) 0) .nil)) (.cons (.bi .len (.cons (.fld (.v 1) 0) .nil)) .nil))))) (.cons (.ret (.bl false)) .nil) .nil) (.cons (.iff (.nt (.call 35 (.cons (.ix (.v 2) (.int 1)) (.cons (.bi .len (.cons (.fld (.v 0) 1) .nil)) (.cons (.bi .len (.cons (.fld (.v 1) 1) .nil)) .nil))))) (.cons (.ret (.bl false)) .nil) .nil) (.cons (.ret (.bo .Or (.cons (.cmp .NotEq (.ix (.v 2) (.int 0)) (.tup .nil)) (.cons (.cmp .Eq (.ix (.v 2) (.int 1)) (.tup .nil)) .nil)))) .nil))))
structure Ho (pg : Pg) : Prop extends Hs pg where
  f32 : pg.fn 32 = some ⟨3, 3, b32⟩
  f33 : pg.fn 33 = some ⟨3, 2, b33⟩
  f34 : pg.fn 34 = some ⟨4, 3, b34⟩
/-! ### odd values -/
def base0 : List D := [.non, .bl true, .bl false, .int 0, .int (-1), .int 1, .int 2, .int 3, .int 1000, .int (-1000), .int 1000000000000000000000000000000, .str "", .str "a", .str "A", .str "a1", .str "abcdefghi"]
theorem cut_mem {ds : List D} {lo hi : Option Int} {d : D} (h : d ∈ cutD ds lo hi) : d ∈ ds := by
  unfold cutD at h
  exact List.mem_of_mem_drop (List.mem_of_mem_take h)
theorem cut_len (ds : List D) (lo hi : Option Int) : (cutD ds lo hi).length ≤ ds.length := by
  unfold cutD
  rw [List.length_take, List.length_drop]
  omega
theorem pow30 : binD .Pow (.int 10) (.int 30) = some (.int 1000000000000000000000000000000) := by kernel_rfl
def oddX (ds : List D) : List D := [.lst ds, .tup (ds ++ cutD ds none (some 1)), .tup (cutD ds (some 1) none), .tup (cutD ds none (some (-1))), .tup ds.reverse, .tup (ds ++ [.non])]
def oddA (t : D) : List D := base0 ++ [.tup [], .lst [], .dct [] []] ++ [.tup [t], .lst [t], .dct [.inr "a"] [t], .tup [.tup []], .tup [.str "a", .str "a"], .tup [.int 1, .str "a"]]
def oddL : D → List D
  | .tup ds => oddA (.tup ds) ++ (oddX ds ++ oddX ds)
  | t => oddA t
theorem odd_v {A : List D} (hB : ∀ d ∈ base0, d ∈ A) (hA : okAt A = true) {n w : Nat} {t d : D} (h : V A n w t) (hn : 1 ≤ n) (hw : 1 ≤ w) (hd : d ∈ oddL t) : V A (n + 1) (w + 1) d := by
  obtain ⟨n, rfl⟩ : ∃ m, n = m + 1 := ⟨n - 1, by omega⟩
  have e0 : ∀ {n w : Nat}, V A (n + 1) w (.tup []) := fun {n w} => .tup (Nat.zero_le _) (by simp)
  have a0 : ∀ {n w : Nat} {d : D}, d ∈ base0 → V A n w d := fun hd => .at (hB _ hd)
  have ha : d ∈ oddA t → V A (n + 1 + 1) (w + 1) d := by
    intro hd
    unfold oddA at hd
    simp only [List.mem_append] at hd
    rcases hd with (hd | hd) | hd
    · exact a0 hd
    · simp only [List.mem_cons, List.not_mem_nil, or_false] at hd
      rcases hd with rfl | rfl | rfl
      · exact e0
      · exact .lst (Nat.zero_le _) (by simp)
      · exact .dct0
    · simp only [List.mem_cons, List.not_mem_nil, or_false] at hd
      rcases hd with rfl | rfl | rfl | rfl | rfl | rfl
      · exact .tup (by simp) fun x hx => by simp at hx; subst hx; exact h.mono (Nat.le_refl _) (by omega)
      · exact .lst (by simp) fun x hx => by simp at hx; subst hx; exact h.mono (Nat.le_refl _) (by omega)
      · exact .dct1 (h.mono (Nat.le_refl _) (by omega))
      · exact .tup (by simp) fun x hx => by simp at hx; subst hx; exact e0
      · exact .tup (by simp; omega) fun x hx => by simp at hx; subst hx; exact a0 (by simp [base0])
      · refine .tup (by simp; omega) fun x hx => ?_
        simp at hx
        rcases hx with rfl | rfl <;> exact a0 (by simp [base0])
  cases t with
  | tup ds =>
    unfold oddL at hd
    rcases List.mem_append.mp hd with hd | hd
    · exact ha hd
    · obtain ⟨m, em, l, hx⟩ := h.inv_tup hA
      obtain rfl : n = m := by omega
      have hd : d ∈ oddX ds := by
        rcases List.mem_append.mp hd with hd | hd <;> exact hd
      unfold oddX at hd
      simp only [List.mem_cons, List.not_mem_nil, or_false] at hd
      have up : ∀ {x : D}, x ∈ ds → V A (n + 1) (w + 1) x := fun hx' => (hx _ hx').mono (by omega) (by omega)
      have c1 := cut_len ds none (some 1)
      have c2 := cut_len ds (some 1) none
      have c3 := cut_len ds none (some (-1))
      rcases hd with rfl | rfl | rfl | rfl | rfl | rfl
      · exact .lst (by omega) fun x hx' => up hx'
      · refine .tup ?_ fun x hx' => ?_
        · have : (cutD ds none (some 1)).length ≤ 1 := by
            rw [cut_to (by decide), List.length_take]
            exact Nat.min_le_left _ _
          rw [List.length_append]
          omega
        · rcases List.mem_append.mp hx' with hx' | hx'
          · exact up hx'
          · exact up (cut_mem hx')
      · exact .tup (by omega) fun x hx' => up (cut_mem hx')
      · exact .tup (by omega) fun x hx' => up (cut_mem hx')
      · exact .tup (by simp; omega) fun x hx' => up (List.mem_reverse.mp hx')
      · refine .tup (by simp; omega) fun x hx' => ?_
        rcases List.mem_append.mp hx' with hx' | hx'
        · exact up hx'
        · simp at hx'
          subst hx'
          exact a0 (by simp [base0])
  | _ => exact ha hd
theorem bin_tupW {ds es : List D} (h : ds.length + es.length ≤ sizeLine) : binD .Add (.tup ds) (.tup es) = some (.tup (ds ++ es)) := bin_tup h
theorem odd_run {pg : Pg} {cf : CF} (ha : AnyOk cf) {n N : Nat} {μ : Store} {t : D} (hr : NR t) (hl : ∀ ds, t = .tup ds → ds.length ≤ 1000) (p : PotB μ n (N + 1)) :
    ∃ d μ', runF pg cf ⟨3, 2, b33⟩ [.ref n, t] μ = .ok d μ' ∧ d ∈ oddL t ∧ PotB μ' n N ∧ Same n μ μ' := by
  have hz := sizeLine_eq
  have hlen : (oddL t).length < 1000000 := by
    cases t <;> simp [oddL, oddA, oddX, base0]
  obtain ⟨d, μ', e, hd, p', s⟩ := ha (ds := oddL t) p (by cases t <;> simp [oddL, oddA, base0]) hlen
  refine ⟨d, μ', runF_ret (σ := [.val (.ref n), .val t, .emp]) rfl rfl ?_, hd, p', s⟩
  have s1 : evS pg cf (.own 2 (.disp (.cons .non (.cons (.bl true) (.cons (.bl false) (.cons (.int 0) (.cons (.neg (.int 1)) (.cons (.int 1) (.cons (.int 2) (.cons (.int 3) (.cons (.int 1000) (.cons (.neg (.int 1000)) (.cons (.bin .Pow (.int 10) (.int 30)) (.cons (.str "") (.cons (.str "a") (.cons (.str "A") (.cons (.str "a1") (.cons (.str "abcdefghi") (.cons (.tup .nil) (.cons (.lst .fz (.disp .nil)) (.cons .dct0 .nil))))))))))))))))))))) [.val (.ref n), .val t, .emp] μ = .next [.val (.ref n), .val t, .own (base0 ++ [D.tup [], .lst [], .dct [] []])] μ := by
    have hp := pow30
    generalize binD .Pow (.int 10) (.int 30) = X30 at hp
    have e30 : evE pg cf false (.bin .Pow (.int 10) (.int 30)) [.val (.ref n), .val t, .emp] μ = .ok (.int 1000000000000000000000000000000) μ := by
      show Res.of (binD .Pow (.int 10) (.int 30)) μ = _
      rw [pow30]
      rfl
    generalize IE.bin .Pow (.int 10) (.int 30) = E30 at e30 ⊢
    unfold base0
    generalize D.int 1000000000000000000000000000000 = D30 at e30 ⊢
    simp [evS, evL, evEs, evE, e30]
  have s2 : evS pg cf (.own 2 (.cat (.v 2) (.lst .fz (.disp (.cons (.tup (.cons (.v 1) .nil)) (.cons (.lst .fz (.disp (.cons (.v 1) .nil))) (.cons (.dct1 "a" (.v 1)) (.cons (.tup (.cons (.tup .nil) .nil)) (.cons (.tup (.cons (.str "a") (.cons (.str "a") .nil))) (.cons (.tup (.cons (.int 1) (.cons (.str "a") .nil))) .nil)))))))))) [.val (.ref n), .val t, .own (base0 ++ [D.tup [], .lst [], .dct [] []])] μ = .next [.val (.ref n), .val t, .own (oddA t)] μ := by
    have lb : (base0 ++ [D.tup [], .lst [], .dct [] []]).length = 19 := by simp [base0]
    have hA : oddA t = (base0 ++ [D.tup [], .lst [], .dct [] []]) ++ [.tup [t], .lst [t], .dct [.inr "a"] [t], .tup [.tup []], .tup [.str "a", .str "a"], .tup [.int 1, .str "a"]] := rfl
    rw [hA]
    generalize (base0 ++ [D.tup [], .lst [], .dct [] []]) = L0 at lb ⊢
    have lv : ∀ ds : List D, lview μ (.lst ds) = some ds := fun _ => rfl
    have hlt : L0.length + 6 ≤ sizeLine := by omega
    simp [evS, evL, evEs, evE, rd, rdO, lv, hlt]
  have s3 : evS pg cf (.iff (.isi (.v 1) .tuple) (.cons (.own 2 (.cat (.v 2) (.lst .fz (.rep (.lst .fz (.disp (.cons (.lst .fz (.listOf (.v 1))) (.cons (.bin .Add (.v 1) (.slc (.v 1) .no (.so (.int 1)))) (.cons (.slc (.v 1) (.so (.int 1)) .no) (.cons (.slc (.v 1) .no (.so (.neg (.int 1)))) (.cons (.rev (.v 1)) (.cons (.bin .Add (.v 1) (.tup (.cons .non .nil))) .nil)))))))) (.int 2))))) .nil) .nil) [.val (.ref n), .val t, .own (oddA t)] μ = .next [.val (.ref n), .val t, .own (oddL t)] μ := by
    have lA : (oddA t).length = 25 := by simp [oddA, base0]
    have ht := ty_tup hr (μ := μ)
    cases t with
    | tup ds =>
      have hd := hl ds rfl
      have c1 := cut_len ds none (some 1)
      have hL : oddL (.tup ds) = oddA (.tup ds) ++ (oddX ds ++ oddX ds) := rfl
      rw [hL]
      generalize oddA (.tup ds) = L1 at lA ⊢
      have b1 := bin_tupW (ds := ds) (es := cutD ds none (some 1)) (by omega)
      have b2 := bin_tupW (ds := ds) (es := [.non]) (by simp; omega)
      have lv : ∀ ds : List D, lview μ (.lst ds) = some ds := fun _ => rfl
      have sv : sview μ (.tup ds) = some ds := rfl
      have eD : evL pg cf (.disp (.cons (.lst .fz (.listOf (.v 1))) (.cons (.bin .Add (.v 1) (.slc (.v 1) .no (.so (.int 1)))) (.cons (.slc (.v 1) (.so (.int 1)) .no) (.cons (.slc (.v 1) .no (.so (.neg (.int 1)))) (.cons (.rev (.v 1)) (.cons (.bin .Add (.v 1) (.tup (.cons .non .nil))) .nil))))))) [.val (.ref n), .val (.tup ds), .own L1] μ = .ok (oddX ds) μ := by
        unfold oddX
        simp [evL, evEs, evE, evI, rd, rdO, sv, b1, b2]
      generalize IL.disp (.cons (.lst .fz (.listOf (.v 1))) (.cons (.bin .Add (.v 1) (.slc (.v 1) .no (.so (.int 1)))) (.cons (.slc (.v 1) (.so (.int 1)) .no) (.cons (.slc (.v 1) .no (.so (.neg (.int 1)))) (.cons (.rev (.v 1)) (.cons (.bin .Add (.v 1) (.tup (.cons .non .nil))) .nil)))))) = L at eD ⊢
      have lX : (oddX ds).length = 6 := rfl
      generalize oddX ds = X at eD lX ⊢
      have hrep : (List.replicate 2 X).flatten = X ++ X := by simp [List.replicate]
      have er : evL pg cf (.rep (.lst .fz L) (.int 2)) [.val (.ref n), .val (.tup ds), .own L1] μ = .ok (X ++ X) μ := by
        have hc : -(2 ^ 63) ≤ (2 : Int) ∧ (2 : Int) < 2 ^ 63 ∧ X.length * (2 : Int).toNat ≤ sizeLine := ⟨by decide, by decide, by rw [lX, hz]; decide⟩
        have e1 : evE pg cf true (.lst .fz L) [.val (.ref n), .val (.tup ds), .own L1] μ = .ok (.lst X) μ := by simp [evE, eD]
        have e2 : evE pg cf false (.int 2) [.val (.ref n), .val (.tup ds), .own L1] μ = .ok (.int 2) μ := by simp [evE]
        unfold evL
        rw [e1, ok_bind, e2, ok_bind, lv]
        simp only
        rw [if_pos hc]
        exact congrArg (fun z => Res.ok z μ) hrep
      generalize IL.rep (.lst .fz L) (.int 2) = L' at er ⊢
      have hlt : L1.length + (X.length + X.length) ≤ sizeLine := by omega
      simp [evS, evL, evE, rdO, ht, lv, er, hlt, evB]
    | ref m => simp [NR, below] at hr
    | _ => simp [evS, evE, rdO, ht, evB, oddL]
  unfold b33
  rw [evB_cons, s1, next_bind, evB_cons, s2, next_bind, evB_cons, s3, next_bind]
  generalize oddL t = L at e ⊢
  simp [evB, evS, evE, evEs, rd, e]
/-! ### bent values -/
def OddOk (cf : CF) : Prop := ∀ {n N : Nat} {μ : Store} {t : D}, NR t → (∀ ds, t = .tup ds → ds.length ≤ 1000) → PotB μ n (N + 1) → ∃ d μ', cf 33 [.ref n, t] μ = .ok d μ' ∧ d ∈ oddL t ∧ PotB μ' n N ∧ Same n μ μ'
theorem oddOk {pg : Pg} (HS : Ho pg) {l : Nat} (h : 3 ≤ l) : OddOk (callI pg l) := by
  obtain ⟨k, rfl⟩ : ∃ k, l = k + 3 := ⟨l - 3, by omega⟩
  intro n N μ t hr hl p
  rw [callI_fn HS.f33]
  exact odd_run (@anyOk pg HS.toHs k) hr hl p
def BentOk (A : List D) (cf : CF) (m : Nat) : Prop := ∀ {p N n w : Nat} {μ : Store} {t : D}, V A n w t → m + 1 ≤ n → 1 ≤ w → w ≤ 900 → PotB μ p (N + 2 * m + 2) → ∃ d μ', cf 34 [.ref p, t, .int m] μ = .ok d μ' ∧ V A (n + 1) (w + 1) d ∧ PotB μ' p N ∧ Same p μ μ'
theorem bentOk {A : List D} (hA : okAt A = true) (hB : ∀ d ∈ base0, d ∈ A) {pg : Pg} (HS : Ho pg) : ∀ (m l : Nat), m + 4 ≤ l → BentOk A (callI pg l) m := by
  intro m
  induction m with
  | zero =>
    intro l hl p N n w μ t hv hn hw hw2 pt
    obtain ⟨l, rfl⟩ : ∃ k, l = k + 1 := ⟨l - 1, by omega⟩
    have ho : OddOk (callI pg l) := @oddOk pg HS l (by omega)
    obtain ⟨d, μ', e, hd, p', s⟩ := ho (N := N) (hv.nr hA) (fun ds hds => by subst hds; obtain ⟨_, _, q, _⟩ := hv.inv_tup hA; omega) (pt.less (by omega))
    refine ⟨d, μ', ?_, odd_v hB hA hv (by omega) hw hd, p', s⟩
    rw [callI_fn HS.f34]
    generalize callI pg l = cf at e
    refine runF_ret (σ := [.val (.ref p), .val t, .val (.int (0 : Nat)), .emp]) rfl rfl ?_
    simp [b34, evB, evS, evE, evEs, evBo, rd, rdO, e]
  | succ m ih =>
    intro l hl p N n w μ t hv hn hw hw2 pt
    obtain ⟨l, rfl⟩ : ∃ k, l = k + 1 := ⟨l - 1, by omega⟩
    have ho : OddOk (callI pg l) := @oddOk pg HS l (by omega)
    have hi : BentOk A (callI pg l) m := @ih l (by omega)
    have hdr : DrawOk (callI pg l) := by
      obtain ⟨j, rfl⟩ : ∃ j, l = j + 1 := ⟨l - 1, by omega⟩
      exact @drawOk pg HS.toHs j
    rw [callI_fn HS.f34]
    generalize callI pg l = cf at *
    have hr := hv.nr hA
    have hl' : ∀ ds, t = .tup ds → ds.length ≤ 1000 := fun ds hds => by subst hds; obtain ⟨_, _, q, _⟩ := hv.inv_tup hA; omega
    have hz := sizeLine_eq
    have ht := ty_tup hr (μ := μ)
    have hm0 : cmpD μ .Eq (.int ((m + 1 : Nat) : Int)) (.int 0) = some false := by
      show some (decide _) = _
      rw [decide_eq_false (by omega)]
    have hsub : ((m + 1 : Nat) : Int) - 1 = (m : Int) := by omega
    generalize ((m + 1 : Nat) : Int) = M0 at hm0 hsub ⊢
    -- the odd way
    have odd : ∀ (M : Nat) (μ1 : Store), N + 1 ≤ M → PotB μ1 p M → Same p μ μ1 → evS pg cf (.iff (.bo .Or (.cons (.cmp .Eq (.v 2) (.int 0)) (.cons (.nt (.isi (.v 1) .tuple)) (.cons (.eqNil (.v 1)) (.cons (.cmp .Eq (.call 1 (.cons (.v 0) (.cons (.int 4) .nil))) (.int 0)) .nil))))) (.cons (.ret (.call 33 (.cons (.v 0) (.cons (.v 1) .nil)))) .nil) .nil) [.val (.ref p), .val t, .val (.int M0), .emp] μ = evB pg cf (.cons (.ret (.call 33 (.cons (.v 0) (.cons (.v 1) .nil)))) .nil) [.val (.ref p), .val t, .val (.int M0), .emp] μ1 →
        ∃ d μ', runF pg cf ⟨4, 3, b34⟩ [.ref p, t, .int M0] μ = .ok d μ' ∧ V A (n + 1) (w + 1) d ∧ PotB μ' p N ∧ Same p μ μ' := by
      intro M μ1 hM p1 s1 es
      obtain ⟨d, μ2, e, hd, p2, s2⟩ := ho (N := N) hr hl' (p1.less hM)
      refine ⟨d, μ2, runF_ret (σ := [.val (.ref p), .val t, .val (.int M0), .emp]) rfl rfl ?_, odd_v hB hA hv (by omega) hw hd, p2, s1.trans s2⟩
      unfold b34
      rw [evB_cons, es]
      simp [evB, evS, evE, evEs, rd, e]
    cases t with
    | tup ds =>
      obtain ⟨n', rfl, lw, hx⟩ := hv.inv_tup hA
      cases ds with
      | nil =>
        refine odd (N + 2 * (m + 1) + 2) μ (by omega) pt .refl ?_
        simp [evS, evE, evEs, evBo, rdO, hm0, ht]
      | cons x xs =>
        obtain ⟨q, μ1, e1, q0, q1, p1, s1⟩ := hdr (N := N + 2 * m + 3) (pt.less (by omega)) (m := 4) (by decide) (by decide)
        have cq : cmpD μ1 .Eq (.int q) (.int 0) = some (decide (q = 0)) := rfl
        by_cases hq : q = 0
        · refine odd _ μ1 (by omega) p1 s1 ?_
          rw [decide_eq_true hq] at cq
          simp [evS, evE, evEs, evBo, rd, rdO, hm0, ht, e1, cq]
        · rw [decide_eq_false hq] at cq
          obtain ⟨a, μ2, e2, a0, a1, p2, s2⟩ := hdr (N := N + 2 * m + 2) p1 (m := (x :: xs).length) (by simp only [List.length_cons]; omega) (by have := hl' _ rfl; omega)
          obtain ⟨c, ec, hc⟩ := atI_nat a0 a1
          obtain ⟨d, μ3, e3, hd, p3, s3⟩ := hi ((hx c hc).mono (Nat.le_refl _) (Nat.le_refl _)) (n := n') (by omega) hw hw2 (N := N) p2
          have fin : V A (n' + 1 + 1) (w + 1) (.tup (putIn (x :: xs) a d)) := by
            refine .tup (by rw [putIn_len a0 a1]; omega) fun z hz => ?_
            rcases putIn_mem hz with rfl | hz
            · exact hd
            · exact (hx z hz).mono (by omega) (by omega)
          refine ⟨.tup (putIn (x :: xs) a d), μ3, runF_ret (σ := [.val (.ref p), .val (.tup (x :: xs)), .val (.int M0), .emp]) rfl rfl ?_, fin, p3, (s1.trans s2).trans s3⟩
          have lds : (x :: xs).length ≤ 1000 := hl' _ rfl
          generalize hds : x :: xs = ds at *
          have hne : ds.isEmpty = false := by subst hds; rfl
          have t1 : (ds.take a.toNat).length + [d].length ≤ sizeLine := by rw [List.length_take, List.length_singleton]; omega
          have t2 : (ds.take a.toNat ++ [d]).length + (ds.drop (a + 1).toNat).length ≤ sizeLine := by simp only [List.length_append, List.length_take, List.length_drop, List.length_singleton]; omega
          have u1 : evS pg cf (.iff (.bo .Or (.cons (.cmp .Eq (.v 2) (.int 0)) (.cons (.nt (.isi (.v 1) .tuple)) (.cons (.eqNil (.v 1)) (.cons (.cmp .Eq (.call 1 (.cons (.v 0) (.cons (.int 4) .nil))) (.int 0)) .nil))))) (.cons (.ret (.call 33 (.cons (.v 0) (.cons (.v 1) .nil)))) .nil) .nil) [.val (.ref p), .val (.tup ds), .val (.int M0), .emp] μ = .next [.val (.ref p), .val (.tup ds), .val (.int M0), .emp] μ1 := by
            simp [evS, evE, evEs, evBo, rd, rdO, hm0, ht, hne, e1, cq, evB]
          have u2 : evS pg cf (.set (.v 3) (.call 1 (.cons (.v 0) (.cons (.bi .len (.cons (.v 1) .nil)) .nil)))) [.val (.ref p), .val (.tup ds), .val (.int M0), .emp] μ1 = .next [.val (.ref p), .val (.tup ds), .val (.int M0), .val (.int a)] μ2 := by
            simp [evS, evE, evEs, rd, rdO, e2, bindT]
          have u3 : evS pg cf (.ret (.bin .Add (.bin .Add (.slc (.v 1) .no (.so (.v 3))) (.tup (.cons (.call 34 (.cons (.v 0) (.cons (.ix (.v 1) (.v 3)) (.cons (.bin .Sub (.v 2) (.int 1)) .nil)))) .nil))) (.slc (.v 1) (.so (.bin .Add (.v 3) (.int 1))) .no))) [.val (.ref p), .val (.tup ds), .val (.int M0), .val (.int a)] μ2 = .ret (.tup (putIn ds a d)) μ3 := by
            simp only [evS, evE, evEs, evI, rd, rdO, List.getElem?_cons_zero, List.getElem?_cons_succ, of_some, ok_bind, ok_st, if_true, if_false, ix_tup, ec, bin_sub, hsub, e3, bin_add, cut_to a0, cut_from (show 0 ≤ a + 1 by omega), bin_tup t1, bin_tup t2, Bool.false_eq_true]
            rfl
          unfold b34
          rw [evB_cons, u1, next_bind, evB_cons, u2, next_bind, evB_cons, u3]
          rfl
    | ref m => simp [NR, below] at hr
    | _ =>
      refine odd (N + 2 * (m + 1) + 2) μ (by omega) pt .refl ?_
      simp [evS, evE, evEs, evBo, rdO, hm0, ht]
end T.Lib
end

section
namespace T.Lib
open PySem PySem.Spec L2 T
structure Hl (pg : Pg) : Prop extends Hd pg where
  f32 : pg.fn 32 = some ⟨3, 3, b32⟩
  f33 : pg.fn 33 = some ⟨3, 2, b33⟩
  f34 : pg.fn 34 = some ⟨4, 3, b34⟩
  f35 : pg.fn 35 = some ⟨6, 3, b35⟩
  f36 : pg.fn 36 = some ⟨3, 3, b36⟩
theorem Hl.ho {pg : Pg} (h : Hl pg) : Ho pg := { toHs := h.toHs, f32 := h.f32, f33 := h.f33, f34 := h.f34 }
/-! ### the law's own look at alignments -/
def btD (a b : Int) : D → Bool
  | .int i => decide (a ≤ i) && decide (i ≤ b)
  | _ => false
theorem r_isint {pg : Pg} (cf : CF) {d : D} (h : NR d) (a b : Int) (μ : Store) : runF pg cf ⟨3, 3, b32⟩ [d, .int a, .int b] μ = .ok (.bl (btD a b d)) μ := by
  cases d with
  | int i =>
    unfold b32 btD
    have t1 : tyOf μ .int (.int i) = some true := rfl
    have t2 : tyOf μ .bool (.int i) = some false := rfl
    simp [runF, evB, evS, evE, evEs, evBo, rd, rdO, t1, t2]
    cases decide (a ≤ i) <;> simp
  | ref n => simp [NR, below] at h
  | _ => rfl
theorem bt_pl (m : Nat) (d : D) : btD 0 ((m : Int) - 1) d = plD m d := by
  cases d with
  | int i =>
    show (decide (0 ≤ i) && decide (i ≤ (m : Int) - 1)) = (decide (0 ≤ i) && decide (i < (m : Int)))
    congr 1
    exact decide_eq_decide.mpr (by omega)
  | _ => rfl
def tailB : IB := .cons (.par 4 5 (.l (.comp (.ix (.v 3) (.int 0)) (.v 3) (.seq (.v 0)) .nil)) (.l (.comp (.ix (.v 3) (.int 1)) (.v 3) (.seq (.v 0)) .nil))) (.cons (.ret (.bo .And (.cons (.cmp .Eq (.v 4) (.lst .fz (.sortset (.v 4)))) (.cons (.cmp .Eq (.bi .lenset (.cons (.v 5) .nil)) (.bi .len (.cons (.v 5) .nil))) .nil)))) .nil)
theorem tail_pairs {pg : Pg} {cf : CF} {ds : List D} {m n : Nat} (hb : ds.all (prD m n) = true) (hl : ds.length < 64) (a1 a2 : D) (s3 : Sl) (μ : Store) : evB pg cf tailB [.val (.tup ds), .val a1, .val a2, s3, .emp, .emp] μ = .ret (.bl (okP ds)) μ := by
  have hz := sizeLine_eq
  have hp : ∀ c ∈ ds, c = .tup [.int (fstD c), .int (sndD c)] := fun c hc => (prD_inv (List.all_eq_true.mp hb c hc)).1
  have ef := comp_map (pg := pg) (cf := cf) (e := .ix (.v 3) (.int 0)) (it := .seq (.v 0)) (i := 3) (σ := [.val (.tup ds), .val a1, .val a2, s3, .emp, .emp]) (μ := μ) (cs := ds) (f := fun c => .int (fstD c)) (by simp) (it_seq (d := .tup ds) rfl (.inl rfl)) (by omega) fun c hc => by
    rw [hp c hc]
    rfl
  have es := comp_map (pg := pg) (cf := cf) (e := .ix (.v 3) (.int 1)) (it := .seq (.v 0)) (i := 3) (σ := [.val (.tup ds), .val a1, .val a2, s3, .emp, .emp]) (μ := μ) (cs := ds) (f := fun c => .int (sndD c)) (by simp) (it_seq (d := .tup ds) rfl (.inl rfl)) (by omega) fun c hc => by
    rw [hp c hc]
    rfl
  have mf : ds.map (fun c => D.int (fstD c)) = (ds.map fstD).map .int := by simp
  have ms : ds.map (fun c => D.int (sndD c)) = (ds.map sndD).map .int := by simp
  rw [mf] at ef
  rw [ms] at es
  have s2 : evS pg cf (.par 4 5 (.l (.comp (.ix (.v 3) (.int 0)) (.v 3) (.seq (.v 0)) .nil)) (.l (.comp (.ix (.v 3) (.int 1)) (.v 3) (.seq (.v 0)) .nil))) [.val (.tup ds), .val a1, .val a2, s3, .emp, .emp] μ = .next [.val (.tup ds), .val a1, .val a2, s3, .own ((ds.map fstD).map .int), .own ((ds.map sndD).map .int)] μ := by
    generalize IL.comp (.ix (.v 3) (.int 0)) (.v 3) (.seq (.v 0)) .nil = L1 at ef
    generalize IL.comp (.ix (.v 3) (.int 1)) (.v 3) (.seq (.v 0)) .nil = L2 at es
    simp only [evS, evV, ef, es, ok_bind, ok_st]
    rfl
  unfold tailB
  rw [evB_cons, s2, next_bind, evB_cons]
  generalize hf : ds.map fstD = fs
  generalize hg : ds.map sndD = gs
  have lf : fs.length < 64 := by rw [← hf]; simpa using hl
  have lg : gs.length < 64 := by rw [← hg]; simpa using hl
  have eL : evL pg cf (.sortset (.v 4)) [.val (.tup ds), .val a1, .val a2, s3, .own (fs.map .int), .own (gs.map .int)] μ = .ok ((fs.eraseDups.mergeSort (fun a b => decide (a ≤ b))).map .int) μ := by
    unfold evL
    have : evE pg cf true (.v 4) [.val (.tup ds), .val a1, .val a2, s3, .own (fs.map .int), .own (gs.map .int)] μ = .ok (.lst (fs.map .int)) μ := by simp [evE, rdO]
    rw [this, ok_bind]
    have hv : (lview μ (.lst (fs.map .int))).bind intsD = some fs := intsD_map fs
    rw [hv]
    simp only
    rw [if_neg (by omega)]
  have el : biD μ .lenset [.lst (gs.map .int)] = some (.int gs.eraseDups.length) := by
    show ((some (gs.map D.int)).bind intsD).bind _ = _
    rw [Option.bind_some, intsD_map, Option.bind_some, if_pos lg]
  have en : biD μ .len [.lst (gs.map .int)] = some (.int gs.length) := by rw [bi_lenl, List.length_map]
  have q1 := eq_ints (μ := μ) fs (fs.eraseDups.mergeSort (fun a b => decide (a ≤ b)))
  have d1 : decide (fs = fs.eraseDups.mergeSort (fun a b => decide (a ≤ b))) = decide (fs.Pairwise (· < ·)) := decide_eq_decide.mpr (asc_iff fs)
  have d2 : decide ((gs.eraseDups.length : Int) = gs.length) = decide gs.Nodup := decide_eq_decide.mpr (by rw [← ed_len _ gs (Nat.le_refl _)]; omega)
  rw [d1] at q1
  simp only [evS, evE, evEs, evBo, rdO, List.getElem?_cons_zero, List.getElem?_cons_succ, of_some, ok_bind, ok_st, if_true, eL, q1, Option.map_some, tr_bl, el, en, cmp_eqi, d2, okP, hf, hg]
  cases decide (fs.Pairwise (· < ·)) <;> simp [el, en, d2]

def lpB : IB := .cons (.iff (.bo .Or (.cons (.nt (.isi (.v 3) .tuple)) (.cons (.cmp .NotEq (.bi .len (.cons (.v 3) .nil)) (.int 2)) .nil))) (.cons (.ret (.bl false)) .nil) .nil) (.cons (.iff (.bo .Or (.cons (.nt (.call 32 (.cons (.ix (.v 3) (.int 0)) (.cons (.int 0) (.cons (.bin .Sub (.v 1) (.int 1)) .nil))))) (.cons (.nt (.call 32 (.cons (.ix (.v 3) (.int 1)) (.cons (.int 0) (.cons (.bin .Sub (.v 2) (.int 1)) .nil))))) .nil))) (.cons (.ret (.bl false)) .nil) .nil) .nil)
def lpT (pg : Pg) (cf : CF) : D → Slots → Store → SR := fun x σ1 μ2 => match bindT (.v 3) x σ1 with
  | some σ2 => evB pg cf lpB σ2 μ2
  | none => .bad
def IsIntOk (cf : CF) : Prop := ∀ {d : D} (_ : NR d) (a b : Int) (μ : Store), cf 32 [d, .int a, .int b] μ = .ok (.bl (btD a b d)) μ
theorem lp_turn {pg : Pg} {cf : CF} (hi : IsIntOk cf) {d : D} (h : NR d) (m n : Nat) (v : D) (s3 : Sl) (μ : Store) : lpT pg cf d [.val v, .val (.int m), .val (.int n), s3, .emp, .emp] μ = if prD m n d = true then .next [.val v, .val (.int m), .val (.int n), .val d, .emp, .emp] μ else .ret (.bl false) μ := by
  show evB pg cf lpB [.val v, .val (.int m), .val (.int n), .val d, .emp, .emp] μ = _
  have ht := ty_tup h (μ := μ)
  unfold lpB
  cases d with
  | tup ds =>
    have hn := nr_tup h
    rcases ds with _ | ⟨a, _ | ⟨b, _ | ⟨c, ds⟩⟩⟩
    · simp [evB, evS, evE, evEs, evBo, rd, rdO, ht, prD, cmp_ne_int]
    · simp [evB, evS, evE, evEs, evBo, rd, rdO, ht, prD, cmp_ne_int]
    · have ha := hi (nr_mem hn (by simp : a ∈ [a, b])) 0 ((m : Int) - 1) μ
      have hb := hi (nr_mem hn (by simp : b ∈ [a, b])) 0 ((n : Int) - 1) μ
      rw [bt_pl] at ha hb
      have i0 : atI [a, b] 0 = some a := rfl
      have i1 : atI [a, b] 1 = some b := rfl
      have p : prD m n (.tup [a, b]) = (plD m a && plD n b) := rfl
      rw [p]
      cases q1 : plD m a <;> cases q2 : plD n b <;> rw [q1] at ha <;> rw [q2] at hb <;> simp [evB, evS, evE, evEs, evBo, rd, rdO, ht, cmp_ne_int, i0, i1, ha, hb]
    · have : ¬ ((ds.length : Int) + 1 + 1 + 1 = 2) := by omega
      simp [evB, evS, evE, evEs, evBo, rd, rdO, ht, prD, cmp_ne_int, this]
  | ref n => simp [NR, below] at h
  | _ => simp [evB, evS, evE, evEs, evBo, rd, rdO, ht, prD]
theorem lp_turns {pg : Pg} {cf : CF} (hi : IsIntOk cf) (m n : Nat) (v : D) (μ : Store) : ∀ (ds : List D), belows 0 ds = true → ∀ s3 : Sl, ∃ s3', forGo (lpT pg cf) ds [.val v, .val (.int m), .val (.int n), s3, .emp, .emp] μ = if ds.all (prD m n) = true then .next [.val v, .val (.int m), .val (.int n), s3', .emp, .emp] μ else .ret (.bl false) μ
  | [], _, s3 => ⟨s3, rfl⟩
  | d :: ds, h, s3 => by
    have hd := nr_mem h (List.mem_cons_self)
    simp only [belows, Bool.and_eq_true] at h
    obtain ⟨s3', e⟩ := lp_turns (pg := pg) hi m n v μ ds h.2 (.val d)
    refine ⟨s3', ?_⟩
    show (match lpT pg cf d [.val v, .val (.int m), .val (.int n), s3, .emp, .emp] μ with | .next σ1 μ1 => _ | .cont σ1 μ1 => _ | .brk σ1 μ1 => _ | r => _) = _
    rw [lp_turn hi hd]
    cases q : prD m n d with
    | true =>
      rw [if_pos rfl]
      simp only [e, List.all_cons, q, Bool.true_and]
    | false =>
      rw [if_neg Bool.false_ne_true]
      simp only [List.all_cons, q, Bool.false_and]
      rfl
theorem c_lpairs {pg : Pg} (HS : Hl pg) (k : Nat) {d : D} (h : NR d) (hs : ∀ ds, d = .tup ds → ds.length < 64) (m n : Nat) (μ : Store) : callI pg (k + 2) 35 [d, .int m, .int n] μ = .ok (.bl (psD m n d)) μ := by
  have hi : IsIntOk (callI pg (k + 1)) := fun {d} h a b μ => by
    rw [callI_fn HS.f32]
    exact r_isint _ h a b μ
  rw [callI_fn HS.f35]
  generalize callI pg (k + 1) = cf at hi
  have ht := ty_tup h (μ := μ)
  have hz := sizeLine_eq
  cases d with
  | tup ds =>
    obtain ⟨s3', e⟩ := lp_turns (pg := pg) hi m n (.tup ds) μ ds (nr_tup h) .emp
    refine runF_ret (σ := [.val (.tup ds), .val (.int m), .val (.int n), .emp, .emp, .emp]) rfl rfl ?_
    have s1 : evS pg cf (.iff (.nt (.isi (.v 0) .tuple)) (.cons (.ret (.bl false)) .nil) .nil) [.val (.tup ds), .val (.int m), .val (.int n), .emp, .emp, .emp] μ = .next [.val (.tup ds), .val (.int m), .val (.int n), .emp, .emp, .emp] μ := by
      simp [evS, evE, rdO, ht, evB]
    have s2 : evS pg cf (.forr (.v 3) (.seq (.v 0)) lpB) [.val (.tup ds), .val (.int m), .val (.int n), .emp, .emp, .emp] μ = if ds.all (prD m n) = true then .next [.val (.tup ds), .val (.int m), .val (.int n), s3', .emp, .emp] μ else .ret (.bl false) μ := by
      unfold evS
      rw [it_seq (d := .tup ds) (ds := ds) rfl (.inl rfl), ok_st]
      exact e
    rw [show b35 = .cons (.iff (.nt (.isi (.v 0) .tuple)) (.cons (.ret (.bl false)) .nil) .nil) (.cons (.forr (.v 3) (.seq (.v 0)) lpB) tailB) from rfl]
    rw [evB_cons, s1, next_bind, evB_cons, s2]
    cases q : ds.all (prD m n) with
    | false =>
      rw [if_neg Bool.false_ne_true]
      simp [psD, q]
    | true =>
      rw [if_pos rfl, next_bind, tail_pairs q (hs ds rfl)]
      simp [psD, q]
  | ref n => simp [NR, below] at h
  | _ => simp [runF, b35, evB, evS, evE, evEs, evBo, rd, rdO, ht, psD]
theorem c_islaid {pg : Pg} (HS : Hl pg) (k : Nat) {d : D} (h : NR d) (hs : ∀ x y, d = .tup [x, y] → (∀ ds, x = .tup ds → ds.length < 64) ∧ (∀ ds, y = .tup ds → ds.length < 64)) (h1 r1 h2 r2 : List D) (μ : Store) :
    callI pg (k + 3) 36 [tabD h1 r1, tabD h2 r2, d] μ = .ok (.bl (alD h1.length h2.length r1.length r2.length d)) μ := by
  have e := fun {d : D} (h : NR d) (hs : ∀ ds, d = .tup ds → ds.length < 64) (m n : Nat) => c_lpairs HS k h hs m n μ
  rw [callI_fn HS.f36]
  generalize callI pg (k + 2) = cf at e
  have ht := ty_tup h (μ := μ)
  cases d with
  | tup ds =>
    have hn := nr_tup h
    rcases ds with _ | ⟨x, _ | ⟨y, _ | ⟨z, ds⟩⟩⟩
    · simp [runF, b36, evB, evS, evE, evEs, evBo, rd, rdO, ht, alD, cmp_ne_int]
    · simp [runF, b36, evB, evS, evE, evEs, evBo, rd, rdO, ht, alD, cmp_ne_int]
    · obtain ⟨s1, s2⟩ := hs x y rfl
      have ex := e (nr_mem hn (by simp : x ∈ [x, y])) s1 h1.length h2.length
      have ey := e (nr_mem hn (by simp : y ∈ [x, y])) s2 r1.length r2.length
      have i0 : atI [x, y] 0 = some x := rfl
      have i1 : atI [x, y] 1 = some y := rfl
      have c1 : psD h1.length h2.length x = true → cmpD μ .NotEq x (.tup []) = some !nilD x := fun hp => by
        obtain ⟨ds, rfl, ha⟩ := ps_tup hp
        rw [ne_of_eq (eq_nil (pr_sh ha) (by decide))]
        cases ds <;> rfl
      have c2 : psD r1.length r2.length y = true → cmpD μ .Eq y (.tup []) = some (nilD y) := fun hp => by
        obtain ⟨ds, rfl, ha⟩ := ps_tup hp
        rw [eq_nil (pr_sh ha) (by decide)]
        cases ds <;> rfl
      cases q1 : psD h1.length h2.length x with
      | false =>
        rw [q1] at ex
        simp [runF, b36, evB, evS, evE, evEs, evBo, rd, rdO, ht, alD, cmp_ne_int, fld0, fld1, i0, ex, q1]
      | true =>
        rw [q1] at ex
        have c1 := c1 q1
        cases q2 : psD r1.length r2.length y with
        | false =>
          rw [q2] at ey
          simp [runF, b36, evB, evS, evE, evEs, evBo, rd, rdO, ht, alD, cmp_ne_int, fld0, fld1, i0, i1, ex, ey, q1, q2]
        | true =>
          rw [q2] at ey
          have c2 := c2 q2
          cases q3 : nilD x <;> rw [q3] at c1 <;> simp [runF, b36, evB, evS, evE, evEs, evBo, rd, rdO, ht, alD, cmp_ne_int, fld0, fld1, i0, i1, ex, ey, q1, q2, q3, c1, c2]
    · have : ¬ ((ds.length : Int) + 1 + 1 + 1 = 2) := by omega
      simp [runF, b36, evB, evS, evE, evEs, evBo, rd, rdO, ht, alD, cmp_ne_int, this]
  | ref n => simp [NR, below] at h
  | _ => simp [runF, b36, evB, evS, evE, evEs, evBo, rd, rdO, ht, alD]
end T.Lib
end

section
namespace T.Lib
open PySem PySem.Spec L2 T
/-! ### costs: the functions -/
def c22 : IB := (.cons (.iff (.nt (.call 18 (.cons (.v 0) (.cons (.v 1) (.cons (.v 2) .nil))))) (.cons (.rais 4 (.v 2)) .nil) .nil) (.cons (.ret (.v 2)) .nil))
def b37 : IB := (.cons (.ret (.call 38 (.cons (.v 0) (.cons (.v 1) (.cons (.v 2) (.cons (.call 22 (.cons (.v 0) (.cons (.v 1) (.cons (.v 3) .nil)))) .nil)))))) .nil)
def b38 : IB := (.cons (.set (.t2 (.v 4) (.v 5)) (.v 3)) (.cons (.set (.v 6) (.bin .Sub (.bin .Add (.bi .len (.cons (.fld (.v 0) 1) .nil)) (.bi .len (.cons (.fld (.v 1) 1) .nil))) (.bin .Mult (.int 2) (.bi .len (.cons (.v 5) .nil))))) (.cons (.set (.v 9) (.bi .sum (.cons (.lst .fz (.comp (.call 40 (.cons (.v 0) (.cons (.v 1) (.cons (.v 4) (.cons (.v 7) (.cons (.v 8) .nil)))))) (.t2 (.v 7) (.v 8)) (.seq (.v 5)) .nil)) .nil))) (.cons (.ret (.bin .Add (.bin .Add (.call 39 (.cons (.v 0) (.cons (.v 1) (.cons (.v 2) (.cons (.v 4) .nil))))) (.bin .Mult (.v 6) (.fld (.v 2) 3))) (.bin .Mult (.v 9) (.fld (.v 2) 2)))) .nil))))
def b39 : IB := (.cons (.set (.v 4) (.bin .Sub (.bin .Add (.bi .len (.cons (.fld (.v 0) 0) .nil)) (.bi .len (.cons (.fld (.v 1) 0) .nil))) (.bin .Mult (.int 2) (.bi .len (.cons (.v 3) .nil))))) (.cons (.set (.v 7) (.bi .len (.cons (.lst .fz (.comp (.v 5) (.t2 (.v 5) (.v 6)) (.seq (.v 3)) (.cons (.cmp .NotEq (.ix (.fld (.v 0) 0) (.v 5)) (.ix (.fld (.v 1) 0) (.v 6))) .nil))) .nil))) (.cons (.set (.v 8) (.bin .Sub (.bi .len (.cons (.v 3) .nil)) (.call 41 (.cons (.lst .fz (.comp (.v 6) (.t2 (.v 5) (.v 6)) (.seq (.v 3)) .nil)) .nil)))) (.cons (.ret (.bin .Add (.bin .Add (.bin .Mult (.v 4) (.fld (.v 2) 4)) (.bin .Mult (.v 7) (.fld (.v 2) 5))) (.bin .Mult (.v 8) (.fld (.v 2) 6)))) .nil))))
def b40 : IB := (.cons (.par 5 6 (.e (.ix (.fld (.v 0) 1) (.v 3))) (.e (.ix (.fld (.v 1) 1) (.v 4)))) (.cons (.ret (.bi .len (.cons (.lst .fz (.comp (.v 7) (.t2 (.v 7) (.v 8)) (.seq (.v 2)) (.cons (.cmp .NotEq (.ix (.v 5) (.v 7)) (.ix (.v 6) (.v 8))) .nil))) .nil))) .nil))
def b41 : IB := (.cons (.own 1 (.disp .nil)) (.cons (.forr (.t2 (.v 2) (.v 3)) (.enum (.v 0)) (.cons (.own 5 (.comp (.ix (.v 1) (.v 4)) (.v 4) (.range1 (.v 2)) (.cons (.cmp .Lt (.ix (.v 0) (.v 4)) (.v 3)) .nil))) (.cons (.frz 5) (.cons (.app 1 (.bin .Add (.int 1) (.bi .max (.cons (.lst .fz (.dispS (.int 0) (.v 5))) .nil)))) .nil)))) (.cons (.frz 1) (.cons (.ret (.bi .max (.cons (.lst .fz (.dispS (.int 0) (.v 1))) .nil))) .nil))))
def b42 : IB := (.cons (.forr (.v 6) (.seq (.tup (.cons (.v 1) (.cons (.v 2) (.cons (.v 3) (.cons (.v 4) (.cons (.v 5) .nil))))))) (.cons (.iff (.nt (.call 13 (.cons (.v 6) (.cons (.int 1) (.cons (.gi "MOST_COST" 50) .nil))))) (.cons (.rais 6 (.v 6)) .nil) .nil) .nil)) (.cons (.setfld (.v 0) 2 (.v 1)) (.cons (.setfld (.v 0) 3 (.v 2)) (.cons (.setfld (.v 0) 4 (.v 3)) (.cons (.setfld (.v 0) 5 (.v 4)) (.cons (.setfld (.v 0) 6 (.v 5)) .nil))))))
def b45 : IB := (.cons (.ret (.newk 1 [.ar 0, .ar 1, .ar 2, .ar 3, .ar 4] .nil (.cons (.ix (.v 0) (.int 0)) (.cons (.ix (.v 0) (.int 1)) (.cons (.ix (.v 0) (.int 2)) (.cons (.ix (.v 0) (.int 3)) (.cons (.ix (.v 0) (.int 4)) .nil))))))) .nil)
def b46 : IB := (.cons (.ret (.lst .fz (.comp (.call 2 (.cons (.v 0) (.cons (.lst .fz (.disp (.cons (.int 3) (.cons (.int 1) (.cons (.int 2) (.cons (.int 5) (.cons (.int 50) .nil))))))) .nil))) (.v 1) (.range1 (.int 5)) .nil))) .nil)
def b47 : IB := (.cons (.set (.t2 (.v 4) (.v 5)) (.v 3)) (.cons (.set (.v 6) (.bin .Mult (.ix (.v 2) (.int 4)) (.call 48 (.cons (.v 4) .nil)))) (.cons (.set (.v 6) (.bin .Add (.v 6) (.bin .Mult (.ix (.v 2) (.int 2)) (.bin .Add (.bi .len (.cons (.fld (.v 0) 0) .nil)) (.bi .len (.cons (.fld (.v 1) 0) .nil)))))) (.cons (.set (.v 6) (.bin .Add (.v 6) (.bin .Mult (.ix (.v 2) (.int 1)) (.bin .Add (.bi .len (.cons (.fld (.v 0) 1) .nil)) (.bi .len (.cons (.fld (.v 1) 1) .nil)))))) (.cons (.set (.v 6) (.bin .Sub (.v 6) (.bin .Mult (.int 2) (.bin .Add (.bin .Mult (.ix (.v 2) (.int 2)) (.bi .len (.cons (.v 4) .nil))) (.bin .Mult (.ix (.v 2) (.int 1)) (.bi .len (.cons (.v 5) .nil))))))) (.cons (.forr (.t2 (.v 7) (.v 8)) (.seq (.v 4)) (.cons (.par 9 10 (.e (.ix (.fld (.v 0) 0) (.v 7))) (.e (.ix (.fld (.v 1) 0) (.v 8)))) (.cons (.set (.v 6) (.bin .Add (.v 6) (.bin .Mult (.ix (.v 2) (.int 3)) (.bi .int (.cons (.cmp .NotEq (.v 9) (.v 10)) .nil))))) (.cons (.forr (.t2 (.v 11) (.v 12)) (.seq (.v 5)) (.cons (.par 9 10 (.e (.ix (.fld (.v 0) 1) (.v 11))) (.e (.ix (.fld (.v 1) 1) (.v 12)))) (.cons (.set (.v 6) (.bin .Add (.v 6) (.bin .Mult (.ix (.v 2) (.int 0)) (.bi .int (.cons (.cmp .NotEq (.ix (.v 9) (.v 7)) (.ix (.v 10) (.v 8))) .nil))))) .nil))) .nil)))) (.cons (.ret (.v 6)) .nil)))))))
def b48 : IB := (.cons (.par 2 3 (.l (.disp (.cons (.lst .fz (.disp .nil)) .nil))) (.l (.comp (.ix (.v 1) (.int 1)) (.v 1) (.seq (.v 0)) .nil))) (.cons (.frz 3) (.cons (.forr (.v 4) (.seq (.v 3)) (.cons (.own 2 (.cat (.v 2) (.lst .fz (.comp (.lst .fz (.cat (.v 5) (.lst .fz (.disp (.cons (.v 4) .nil))))) (.v 5) (.seq (.v 2)) .nil)))) .nil)) (.cons (.ret (.bin .Sub (.bi .len (.cons (.v 3) .nil)) (.bi .max (.cons (.lst .fz (.comp (.bi .len (.cons (.v 5) .nil)) (.v 5) (.seq (.v 2)) (.cons (.cmp .Eq (.v 5) (.lst .fz (.sorti (.v 5)))) .nil))) .nil)))) .nil))))
structure Hc (pg : Pg) : Prop extends Ha pg where
  f22 : pg.fn 22 = some ⟨3, 3, c22⟩
  f37 : pg.fn 37 = some ⟨4, 4, b37⟩
  f38 : pg.fn 38 = some ⟨10, 4, b38⟩
  f39 : pg.fn 39 = some ⟨9, 4, b39⟩
  f40 : pg.fn 40 = some ⟨9, 5, b40⟩
  f41 : pg.fn 41 = some ⟨6, 1, b41⟩
  f42 : pg.fn 42 = some ⟨7, 6, b42⟩
  i1 : pg.init 1 = 42
structure Hc45 (pg : Pg) : Prop extends Hc pg where
  f45 : pg.fn 45 = some ⟨1, 1, b45⟩
/-! ### cells -/
def CkD (d : D) : Prop := d = .non ∨ (∃ i, d = .int i) ∨ ∃ x, d = .str x
def ceq (a b : D) : Bool := (scalD a b).getD false
theorem ck_ne {a b : D} (ha : CkD a) (hb : CkD b) (μ : Store) : cmpD μ .NotEq a b = some (!ceq a b) := by
  rcases ha with rfl | ⟨i, rfl⟩ | ⟨x, rfl⟩ <;> rcases hb with rfl | ⟨j, rfl⟩ | ⟨y, rfl⟩ <;> rfl
theorem ck_cells {d : D} (h : d ∈ cells) : CkD d := by
  simp only [cells, List.mem_cons, List.not_mem_nil, or_false] at h
  rcases h with rfl | rfl | rfl | rfl | rfl | rfl | rfl | rfl | rfl | rfl | rfl | rfl <;> first | exact .inl rfl | exact .inr (.inl ⟨_, rfl⟩) | exact .inr (.inr ⟨_, rfl⟩)
/-- an item -/
def gD (ds : List D) (i : Int) : D := ds.getD i.toNat .non
theorem at_get {ds : List D} {i : Int} (h0 : 0 ≤ i) (h1 : i < ds.length) : atI ds i = some (gD ds i) := by
  have hl : i.toNat < ds.length := by omega
  unfold atI ixN gD
  rw [if_pos h0, if_pos h1, List.getD_eq_getElem?_getD]
  simp [hl]
theorem get_mem {ds : List D} {i : Int} (h0 : 0 ≤ i) (h1 : i < ds.length) : gD ds i ∈ ds := by
  have hl : i.toNat < ds.length := by omega
  unfold gD
  rw [List.getD_eq_getElem?_getD, List.getElem?_eq_getElem hl]
  exact List.getElem_mem _
/-- a table's data -/
structure Tb (h r : List D) : Prop where
  hd : ∀ d ∈ h, CkD d
  rw_ : ∀ x ∈ r, ∃ ds, x = .tup ds ∧ ds.length = h.length ∧ ∀ c ∈ ds, CkD c
  hl : h.length ≤ 1000
  rl : r.length ≤ 1000
theorem Fit.tb {hs rows : List D} (f : Fit hs rows) : Tb hs rows := by
  refine ⟨fun d hd => ?_, fun x hx => ?_, by have := f.hi; omega, by have := f.m; omega⟩
  · obtain ⟨xs, rfl, _⟩ := f.h
    obtain ⟨x, _, rfl⟩ := List.mem_map.mp hd
    exact .inr (.inr ⟨_, rfl⟩)
  · obtain ⟨ds, e, l, o⟩ := f.r x hx
    exact ⟨ds, e, l, fun c hc => ck_cells (o c hc)⟩
def rowG (r : List D) (i : Int) : List D := match gD r i with
  | .tup ds => ds
  | _ => []
theorem Tb.row {h r : List D} (t : Tb h r) {i : Int} (h0 : 0 ≤ i) (h1 : i < r.length) : gD r i = .tup (rowG r i) ∧ (rowG r i).length = h.length ∧ ∀ c ∈ rowG r i, CkD c := by
  obtain ⟨ds, e, l, o⟩ := t.rw_ _ (get_mem h0 h1)
  have : rowG r i = ds := by
    unfold rowG
    rw [e]
  rw [this]
  exact ⟨e, l, o⟩
/-- pairs of places -/
def Prs (m n : Nat) (ps : List (Int × Int)) : Prop := ∀ p ∈ ps, (0 ≤ p.1 ∧ p.1 < m) ∧ 0 ≤ p.2 ∧ p.2 < n
/-! ### comprehensions with a test -/
theorem lc_fm {α : Type} {step : D → Store → Res (Option D)} {μ : Store} {m : α → D} {g : α → Bool} {f : α → D} : ∀ (cs : List α), (∀ c ∈ cs, step (m c) μ = .ok (if g c then some (f c) else none) μ) → lcGo step (cs.map m) μ = .ok ((cs.filter g).map f) μ
  | [], _ => rfl
  | c :: cs, h => by
    have e := h c List.mem_cons_self
    have ih := lc_fm cs fun x hx => h x (List.mem_cons_of_mem _ hx)
    show (step (m c) μ).bind _ = _
    rw [e, ok_bind, ih, ok_bind, List.filter_cons]
    cases g c <;> rfl
theorem comp_fm {α : Type} {pg : Pg} {cf : CF} {e : IE} {it : IT} {i : Nat} {σ : Slots} {μ : Store} {cs : List α} {m : α → D} {co : IEs} {g : α → Bool} {f : α → D} (hi : i < σ.length) (ei : evIt pg cf true it σ μ = .ok (cs.map m) μ) (hl : cs.length ≤ sizeLine)
    (h : ∀ c ∈ cs, evTs pg cf co (σ.set i (.val (m c))) μ = .ok (g c) μ ∧ (g c = true → evE pg cf false e (σ.set i (.val (m c))) μ = .ok (f c) μ)) :
    evL pg cf (.comp e (.v i) it co) σ μ = .ok ((cs.filter g).map f) μ := by
  have e2 : lcGo (lcStep pg cf e (.v i) co σ) (cs.map m) μ = .ok ((cs.filter g).map f) μ := by
    refine lc_fm cs fun x hx => ?_
    have hb : bindT (.v i) (m x) (wipeS σ [i]) = some ((wipeS σ [i]).set i (.val (m x))) := bindT_v (by rw [wipeS_len]; exact hi)
    rw [wipe1] at hb
    obtain ⟨e1, e3⟩ := h x hx
    unfold lcStep
    simp only [Tg.slots, hb, e1, ok_bind]
    cases hg : g x
    · rfl
    · simp only [if_true, e3 hg, ok_bind]
  rw [evL_comp, ei, ok_bind, if_neg (by rw [List.length_map]; omega), e2, ok_nox]
theorem bind_t2 {i j : Nat} {σ : Slots} {x y : D} (hij : i ≠ j) (hi : i < σ.length) (hj : j < σ.length) : bindT (.t2 (.v i) (.v j)) (.tup [x, y]) (wipeS σ [i, j]) = some ((σ.set i (.val x)).set j (.val y)) := by
  have e : wipeS σ [i, j] = (σ.set j .emp).set i .emp := rfl
  rw [e]
  show ((bindT (.v i) x _).bind (bindT (.v j) y)) = _
  rw [bindT_v (by simpa using hi), Option.bind_some, bindT_v (by simpa using hj), List.set_set, List.set_comm _ _ (Ne.symm hij), List.set_set]
theorem comp2 {pg : Pg} {cf : CF} {e : IE} {it : IT} {i j : Nat} {σ : Slots} {μ : Store} {ps : List (Int × Int)} {co : IEs} {g : Int × Int → Bool} {f : Int × Int → D} (hij : i ≠ j) (hi : i < σ.length) (hj : j < σ.length) (ei : evIt pg cf true it σ μ = .ok (ps.map prI) μ) (hl : ps.length ≤ sizeLine)
    (h : ∀ p ∈ ps, evTs pg cf co ((σ.set i (.val (.int p.1))).set j (.val (.int p.2))) μ = .ok (g p) μ ∧ (g p = true → evE pg cf false e ((σ.set i (.val (.int p.1))).set j (.val (.int p.2))) μ = .ok (f p) μ)) :
    evL pg cf (.comp e (.t2 (.v i) (.v j)) it co) σ μ = .ok ((ps.filter g).map f) μ := by
  have e2 : lcGo (lcStep pg cf e (.t2 (.v i) (.v j)) co σ) (ps.map prI) μ = .ok ((ps.filter g).map f) μ := by
    refine lc_fm ps fun x hx => ?_
    obtain ⟨e1, e3⟩ := h x hx
    have hb := bind_t2 (x := .int x.1) (y := .int x.2) hij hi hj
    unfold lcStep prI
    simp only [Tg.slots, List.singleton_append, hb, e1, ok_bind]
    cases hg : g x
    · rfl
    · simp only [if_true, e3 hg, ok_bind]
  rw [evL_comp, ei, ok_bind, if_neg (by rw [List.length_map]; omega), e2, ok_nox]
theorem evTs_nil {pg : Pg} {cf : CF} {σ : Slots} {μ : Store} : evTs pg cf .nil σ μ = .ok true μ := rfl
theorem evTs_one {pg : Pg} {cf : CF} {a : IE} {σ : Slots} {μ : Store} {b : Bool} (h : evE pg cf true a σ μ = .ok (.bl b) μ) : evTs pg cf (.cons a .nil) σ μ = .ok b μ := by
  show (evE pg cf true a σ μ).tst.bind _ = _
  rw [h]
  cases b <;> rfl
theorem len_lst {pg : Pg} {cf : CF} {o : Bool} {L : IL} {σ : Slots} {μ : Store} {ds : List D} (h : evL pg cf L σ μ = .ok ds μ) : evE pg cf o (.bi .len (.cons (.lst .fz L) .nil)) σ μ = .ok (.int ds.length) μ := by
  show ((evE pg cf true (.lst .fz L) σ μ).bind _).bind _ = _
  show (((evL pg cf L σ μ).bind _).bind _).bind _ = _
  rw [h]
  rfl
end T.Lib
end

section
namespace T.Lib
open PySem PySem.Spec L2 T
theorem forGo_next {turn : D → Slots → Store → SR} {x : D} {xs : List D} {σ σ1 : Slots} {μ μ1 : Store} (h : turn x σ μ = .next σ1 μ1) : forGo turn (x :: xs) σ μ = forGo turn xs σ1 μ1 := by
  show (match turn x σ μ with | .next σ1 μ1 => _ | .cont σ1 μ1 => _ | .brk σ1 μ1 => _ | r => _) = _
  rw [h]
/-! ### rising -/
def stepR (ns L : List Int) (i : Nat) (x : Int) : Int := 1 + greatest 0 (((List.range i).filter fun a => decide (ns.getD a 0 < x)).map fun a => L.getD a 0)
def riseGo (ns : List Int) : List Int → Nat → List Int → List Int
  | [], _, L => L
  | x :: xs, i, L => riseGo ns xs (i + 1) (L ++ [stepR ns L i x])
def rise (ns : List Int) : Int := greatest 0 (riseGo ns ns 0 [])
theorem at_ints {ns : List Int} {a : Nat} (h : a < ns.length) : atI (ns.map D.int) (0 + (a : Int)) = some (.int (ns.getD a 0)) := by
  rw [Int.zero_add, at_get (by omega) (by simpa using h)]
  unfold gD
  rw [List.getD_eq_getElem?_getD, List.getD_eq_getElem?_getD, Int.toNat_natCast, List.getElem?_map, List.getElem?_eq_getElem h]
  rfl
def riseB : IB := .cons (.own 5 (.comp (.ix (.v 1) (.v 4)) (.v 4) (.range1 (.v 2)) (.cons (.cmp .Lt (.ix (.v 0) (.v 4)) (.v 3)) .nil))) (.cons (.frz 5) (.cons (.app 1 (.bin .Add (.int 1) (.bi .max (.cons (.lst .fz (.dispS (.int 0) (.v 5))) .nil)))) .nil))
def riseT (pg : Pg) (cf : CF) : D → Slots → Store → SR := fun x σ1 μ2 => match bindT (.t2 (.v 2) (.v 3)) x σ1 with
  | some σ2 => evB pg cf riseB σ2 μ2
  | none => .bad
theorem max_disp {pg : Pg} {cf : CF} {o : Bool} {a : IE} {σ : Slots} {μ : Store} {is : List Int} (h : evE pg cf true a σ μ = .ok (.lst (is.map .int)) μ) (hl : is.length ≤ 1000) : evE pg cf o (.bi .max (.cons (.lst .fz (.dispS (.int 0) a)) .nil)) σ μ = .ok (.int (greatest 0 is)) μ := by
  have hz := sizeLine_eq
  have el : evL pg cf (.dispS (.int 0) a) σ μ = .ok (.int 0 :: is.map .int) μ := by
    unfold evL
    show (Res.ok (D.int 0) μ).bind _ = _
    rw [ok_bind, h, ok_bind]
    show (if (is.map D.int).length < sizeLine then _ else _) = _
    rw [if_pos (by rw [List.length_map]; omega)]
  show ((evE pg cf true (.lst .fz (.dispS (.int 0) a)) σ μ).bind _).bind _ = _
  show (((evL pg cf (.dispS (.int 0) a) σ μ).bind _).bind _).bind _ = _
  rw [el]
  have e : intsD (.int 0 :: is.map .int) = some (0 :: is) := intsD_map (0 :: is)
  show Res.of (((some (D.int 0 :: is.map .int)).bind intsD).bind _) μ = _
  rw [Option.bind_some, e]
  rfl
theorem rise_turn {pg : Pg} {cf : CF} {ns L : List Int} {x : Int} {μ : Store} (hn : ns.length ≤ 1000) (hL : L.length < ns.length) (s2 s3 s5 : Sl) : riseT pg cf (.tup [.int (L.length : Nat), .int x]) [.val (.lst (ns.map .int)), .own (L.map .int), s2, s3, .emp, s5] μ =
    .next [.val (.lst (ns.map .int)), .own ((L ++ [stepR ns L L.length x]).map .int), .val (.int (L.length : Nat)), .val (.int x), .emp, .val (.lst ((((List.range L.length).filter fun a => decide (ns.getD a 0 < x)).map fun a => L.getD a 0).map .int))] μ := by
  have hz := sizeLine_eq
  show evB pg cf riseB [.val (.lst (ns.map .int)), .own (L.map .int), .val (.int (L.length : Nat)), .val (.int x), .emp, s5] μ = _
  have ei : evIt pg cf true (.range1 (.v 2)) [.val (.lst (ns.map .int)), .own (L.map .int), .val (.int (L.length : Nat)), .val (.int x), .emp, s5] μ = .ok ((List.range L.length).map fun k => .int (0 + (k : Nat))) μ := it_range1 rfl (by omega) (by omega)
  have e := comp_fm (pg := pg) (cf := cf) (e := .ix (.v 1) (.v 4)) (it := .range1 (.v 2)) (i := 4) (σ := [.val (.lst (ns.map .int)), .own (L.map .int), .val (.int (L.length : Nat)), .val (.int x), .emp, s5]) (μ := μ) (co := .cons (.cmp .Lt (.ix (.v 0) (.v 4)) (.v 3)) .nil) (g := fun a => decide (ns.getD a 0 < x)) (f := fun a => .int (L.getD a 0)) (by simp) ei (by rw [List.length_range]; omega) fun a ha => by
    have ha := List.mem_range.mp ha
    refine ⟨evTs_one ?_, fun _ => ?_⟩
    · have q := at_ints (ns := ns) (a := a) (by omega)
      simp only [evE, rdO, rd, List.set_cons_succ, List.set_cons_zero, List.getElem?_cons_zero, List.getElem?_cons_succ, if_true, if_false, Bool.false_eq_true, of_some, ok_bind, ix_lst, q, cmp_lt, Option.map_some]
    · have q := at_ints (ns := L) (a := a) ha
      simp only [evE, rdO, rd, List.set_cons_succ, List.set_cons_zero, List.getElem?_cons_zero, List.getElem?_cons_succ, if_true, if_false, Bool.false_eq_true, of_some, ok_bind, ix_lst, q]
  have em : ((List.range L.length).filter fun a => decide (ns.getD a 0 < x)).map (fun a => D.int (L.getD a 0)) = (((List.range L.length).filter fun a => decide (ns.getD a 0 < x)).map fun a => L.getD a 0).map .int := by rw [List.map_map]; rfl
  rw [em] at e
  have hs : (((List.range L.length).filter fun a => decide (ns.getD a 0 < x)).map fun a => L.getD a 0).length ≤ 1000 := by
    rw [List.length_map]
    have := List.length_filter_le (fun a => decide (ns.getD a 0 < x)) (List.range L.length)
    rw [List.length_range] at this
    omega
  have est : stepR ns L L.length x = 1 + greatest 0 (((List.range L.length).filter fun a => decide (ns.getD a 0 < x)).map fun a => L.getD a 0) := rfl
  generalize (((List.range L.length).filter fun a => decide (ns.getD a 0 < x)).map fun a => L.getD a 0) = S at e hs est ⊢
  have mx := max_disp (pg := pg) (cf := cf) (o := false) (a := .v 5) (σ := [.val (.lst (ns.map .int)), .own (L.map .int), .val (.int (L.length : Nat)), .val (.int x), .emp, .val (.lst (S.map .int))]) (μ := μ) (is := S) rfl hs
  have e1 : evS pg cf (.own 5 (.comp (.ix (.v 1) (.v 4)) (.v 4) (.range1 (.v 2)) (.cons (.cmp .Lt (.ix (.v 0) (.v 4)) (.v 3)) .nil))) [.val (.lst (ns.map .int)), .own (L.map .int), .val (.int (L.length : Nat)), .val (.int x), .emp, s5] μ = .next [.val (.lst (ns.map .int)), .own (L.map .int), .val (.int (L.length : Nat)), .val (.int x), .emp, .own (S.map .int)] μ := by
    unfold evS
    rw [e, ok_st]
    rfl
  have e3 : evS pg cf (.app 1 (.bin .Add (.int 1) (.bi .max (.cons (.lst .fz (.dispS (.int 0) (.v 5))) .nil)))) [.val (.lst (ns.map .int)), .own (L.map .int), .val (.int (L.length : Nat)), .val (.int x), .emp, .val (.lst (S.map .int))] μ = .next [.val (.lst (ns.map .int)), .own ((L ++ [stepR ns L L.length x]).map .int), .val (.int (L.length : Nat)), .val (.int x), .emp, .val (.lst (S.map .int))] μ := by
    rw [est]
    generalize IE.bi .max (.cons (.lst .fz (.dispS (.int 0) (.v 5))) .nil) = M at mx ⊢
    have eb : evE pg cf false (.bin .Add (.int 1) M) [.val (.lst (ns.map .int)), .own (L.map .int), .val (.int (L.length : Nat)), .val (.int x), .emp, .val (.lst (S.map .int))] μ = .ok (.int (1 + greatest 0 S)) μ := by
      unfold evE
      show (Res.ok (D.int 1) μ).bind _ = _
      rw [ok_bind, mx, ok_bind]
      rfl
    unfold evS
    show (evE pg cf false (.bin .Add (.int 1) M) _ μ).st _ _ = _
    rw [eb, ok_st]
    show (if (L.map D.int).length < sizeLine then _ else _) = _
    rw [if_pos (by rw [List.length_map]; omega), List.map_append]
    rfl
  unfold riseB
  rw [evB_cons, e1, next_bind, evB_cons]
  show (SR.next [.val (.lst (ns.map .int)), .own (L.map .int), .val (.int (L.length : Nat)), .val (.int x), .emp, .val (.lst (S.map .int))] μ).bind _ = _
  rw [next_bind, evB_cons, e3, next_bind]
  rfl
theorem rise_turns {pg : Pg} {cf : CF} {ns : List Int} {μ : Store} (hn : ns.length ≤ 1000) : ∀ (xs : List Int) (L : List Int) (s2 s3 s5 : Sl), L.length + xs.length = ns.length →
    ∃ t2 t3 t5, forGo (riseT pg cf) ((xs.zipIdx L.length).map fun p => .tup [.int (p.2 : Nat), .int p.1]) [.val (.lst (ns.map .int)), .own (L.map .int), s2, s3, .emp, s5] μ = .next [.val (.lst (ns.map .int)), .own ((riseGo ns xs L.length L).map .int), t2, t3, .emp, t5] μ
  | [], L, s2, s3, s5, _ => ⟨s2, s3, s5, rfl⟩
  | x :: xs, L, s2, s3, s5, h => by
    rw [List.length_cons] at h
    have e := rise_turn (pg := pg) (cf := cf) (ns := ns) (L := L) (x := x) (μ := μ) hn (by omega) s2 s3 s5
    obtain ⟨t2, t3, t5, e2⟩ := rise_turns (pg := pg) (cf := cf) (μ := μ) hn xs (L ++ [stepR ns L L.length x]) (.val (.int (L.length : Nat))) (.val (.int x)) (.val (.lst ((((List.range L.length).filter fun a => decide (ns.getD a 0 < x)).map fun a => L.getD a 0).map .int))) (by rw [List.length_append, List.length_singleton]; omega)
    refine ⟨t2, t3, t5, ?_⟩
    rw [List.zipIdx_cons, List.map_cons]
    rw [List.length_append, List.length_singleton] at e2
    rw [forGo_next e]
    exact e2
theorem riseGo_len (ns : List Int) : ∀ (xs : List Int) (i : Nat) (L : List Int), (riseGo ns xs i L).length = L.length + xs.length
  | [], i, L => rfl
  | x :: xs, i, L => by
    show (riseGo ns xs (i + 1) (L ++ [stepR ns L i x])).length = _
    rw [riseGo_len, List.length_append, List.length_singleton, List.length_cons]
    omega
theorem rise_run {pg : Pg} {cf : CF} {ns : List Int} {μ : Store} (hn : ns.length ≤ 1000) : runF pg cf ⟨6, 1, b41⟩ [.lst (ns.map .int)] μ = .ok (.int (rise ns)) μ := by
  obtain ⟨t2, t3, t5, e⟩ := rise_turns (pg := pg) (cf := cf) (μ := μ) hn ns [] .emp .emp .emp (by simp)
  refine runF_ret (σ := [.val (.lst (ns.map .int)), .emp, .emp, .emp, .emp, .emp]) rfl rfl ?_
  have ei : evIt pg cf false (.enum (.v 0)) [.val (.lst (ns.map .int)), .own [], .emp, .emp, .emp, .emp] μ = .ok ((ns.zipIdx 0).map fun p => .tup [.int (p.2 : Nat), .int p.1]) μ := by
    unfold evIt
    show Res.ok ((ns.map D.int).zipIdx.map fun p => D.tup [.int (p.2 : Nat), p.1]) μ = _
    rw [List.zipIdx_map, List.map_map]
    rfl
  have e1 : evS pg cf (.forr (.t2 (.v 2) (.v 3)) (.enum (.v 0)) riseB) [.val (.lst (ns.map .int)), .own [], .emp, .emp, .emp, .emp] μ = .next [.val (.lst (ns.map .int)), .own ((riseGo ns ns 0 []).map .int), t2, t3, .emp, t5] μ := by
    unfold evS
    rw [ei, ok_st]
    exact e
  have mx := max_disp (pg := pg) (cf := cf) (o := false) (a := .v 1) (σ := [.val (.lst (ns.map .int)), .val (.lst ((riseGo ns ns 0 []).map .int)), t2, t3, .emp, t5]) (μ := μ) (is := riseGo ns ns 0 []) rfl (by rw [riseGo_len]; simp; omega)
  rw [show b41 = .cons (.own 1 (.disp .nil)) (.cons (.forr (.t2 (.v 2) (.v 3)) (.enum (.v 0)) riseB) (.cons (.frz 1) (.cons (.ret (.bi .max (.cons (.lst .fz (.dispS (.int 0) (.v 1))) .nil))) .nil))) from rfl]
  rw [evB_cons]
  show (SR.next [.val (.lst (ns.map .int)), .own [], .emp, .emp, .emp, .emp] μ).bind _ = _
  rw [next_bind, evB_cons, e1, next_bind, evB_cons]
  show (SR.next [.val (.lst (ns.map .int)), .val (.lst ((riseGo ns ns 0 []).map .int)), t2, t3, .emp, t5] μ).bind _ = _
  rw [next_bind]
  generalize IE.bi .max (.cons (.lst .fz (.dispS (.int 0) (.v 1))) .nil) = M at mx ⊢
  simp [evB, evS, mx, rise]
/-! ### unlike_cells, columns_cost -/
structure Bl where
  cell : Int
  row : Int
  col : Int
  nm : Int
  mv : Int
def Bl.ok (B : Bl) : Prop := (1 ≤ B.cell ∧ B.cell ≤ 50) ∧ (1 ≤ B.row ∧ B.row ≤ 50) ∧ (1 ≤ B.col ∧ B.col ≤ 50) ∧ (1 ≤ B.nm ∧ B.nm ≤ 50) ∧ 1 ≤ B.mv ∧ B.mv ≤ 50
def Bl.ds (B : Bl) : List D := [.int B.cell, .int B.row, .int B.col, .int B.nm, .int B.mv]
def cstD (B : Bl) : D := .ins 1 [2, 3, 4, 5, 6] B.ds
def unl (r1 r2 : List D) (cs : List (Int × Int)) (q : Int × Int) : Nat := (cs.filter fun p => !ceq (gD (rowG r1 q.1) p.1) (gD (rowG r2 q.2) p.2)).length
def named (h1 h2 : List D) (cs : List (Int × Int)) : Nat := (cs.filter fun p => !ceq (gD h1 p.1) (gD h2 p.2)).length
def colV (B : Bl) (h1 h2 : List D) (cs : List (Int × Int)) : Int := ((h1.length : Int) + h2.length - 2 * cs.length) * B.col + named h1 h2 cs * B.nm + (cs.length - rise (cs.map (·.2))) * B.mv
theorem unl_run {pg : Pg} {cf : CF} {h1 r1 h2 r2 : List D} {cs : List (Int × Int)} {q : Int × Int} {μ : Store} (t1 : Tb h1 r1) (t2 : Tb h2 r2) (hc : Prs h1.length h2.length cs) (hl : cs.length ≤ 1000) (q1 : 0 ≤ q.1 ∧ q.1 < r1.length) (q2 : 0 ≤ q.2 ∧ q.2 < r2.length) :
    runF pg cf ⟨9, 5, b40⟩ [tabD h1 r1, tabD h2 r2, .tup (cs.map prI), .int q.1, .int q.2] μ = .ok (.int (unl r1 r2 cs q)) μ := by
  have hz := sizeLine_eq
  obtain ⟨e1, l1, o1⟩ := t1.row q1.1 q1.2
  obtain ⟨e2, l2, o2⟩ := t2.row q2.1 q2.2
  have a1 := at_get q1.1 q1.2
  have a2 := at_get q2.1 q2.2
  rw [e1] at a1
  rw [e2] at a2
  unfold unl
  generalize rowG r1 q.1 = ra at *
  generalize rowG r2 q.2 = rb at *
  have f1 := fld1 (μ := μ) h1 r1
  have f2 := fld1 (μ := μ) h2 r2
  generalize tabD h1 r1 = TA at *
  generalize tabD h2 r2 = TB at *
  refine runF_ret (σ := [.val TA, .val TB, .val (.tup (cs.map prI)), .val (.int q.1), .val (.int q.2), .emp, .emp, .emp, .emp]) rfl rfl ?_
  have s1 : evS pg cf (.par 5 6 (.e (.ix (.fld (.v 0) 1) (.v 3))) (.e (.ix (.fld (.v 1) 1) (.v 4)))) [.val TA, .val TB, .val (.tup (cs.map prI)), .val (.int q.1), .val (.int q.2), .emp, .emp, .emp, .emp] μ = .next [.val TA, .val TB, .val (.tup (cs.map prI)), .val (.int q.1), .val (.int q.2), .val (.tup ra), .val (.tup rb), .emp, .emp] μ := by
    simp [evS, evV, evE, rd, f1, f2, a1, a2]
  have e := comp2 (pg := pg) (cf := cf) (e := .v 7) (it := .seq (.v 2)) (i := 7) (j := 8) (σ := [.val TA, .val TB, .val (.tup (cs.map prI)), .val (.int q.1), .val (.int q.2), .val (.tup ra), .val (.tup rb), .emp, .emp]) (μ := μ) (ps := cs) (co := .cons (.cmp .NotEq (.ix (.v 5) (.v 7)) (.ix (.v 6) (.v 8))) .nil) (g := fun p => !ceq (gD ra p.1) (gD rb p.2)) (f := fun p => .int p.1) (by decide) (by simp) (by simp) (it_seq (d := .tup (cs.map prI)) rfl (.inl rfl)) (by omega) fun p hp => by
    obtain ⟨⟨p1, p2⟩, p3, p4⟩ := hc p hp
    have b1 := at_get (ds := ra) p1 (by omega)
    have b2 := at_get (ds := rb) p3 (by omega)
    have cc := ck_ne (o1 _ (get_mem (ds := ra) p1 (by omega))) (o2 _ (get_mem (ds := rb) p3 (by omega))) μ
    refine ⟨evTs_one ?_, fun _ => rfl⟩
    simp only [evE, rdO, rd, List.set_cons_succ, List.set_cons_zero, List.getElem?_cons_zero, List.getElem?_cons_succ, if_true, if_false, Bool.false_eq_true, of_some, ok_bind, ix_tup, b1, b2, cc, Option.map_some]
  have el := len_lst (o := false) e
  rw [List.length_map] at el
  rw [show b40 = .cons (.par 5 6 (.e (.ix (.fld (.v 0) 1) (.v 3))) (.e (.ix (.fld (.v 1) 1) (.v 4)))) (.cons (.ret (.bi .len (.cons (.lst .fz (.comp (.v 7) (.t2 (.v 7) (.v 8)) (.seq (.v 2)) (.cons (.cmp .NotEq (.ix (.v 5) (.v 7)) (.ix (.v 6) (.v 8))) .nil))) .nil))) .nil) from rfl]
  rw [evB_cons, s1, next_bind]
  generalize IE.bi .len (.cons (.lst .fz (.comp (.v 7) (.t2 (.v 7) (.v 8)) (.seq (.v 2)) (.cons (.cmp .NotEq (.ix (.v 5) (.v 7)) (.ix (.v 6) (.v 8))) .nil))) .nil) = M at el ⊢
  simp [evB, evS, el]
theorem fldB {μ : Store} (B : Bl) : fldD μ (cstD B) 2 = some (.int B.cell) ∧ fldD μ (cstD B) 3 = some (.int B.row) ∧ fldD μ (cstD B) 4 = some (.int B.col) ∧ fldD μ (cstD B) 5 = some (.int B.nm) ∧ fldD μ (cstD B) 6 = some (.int B.mv) := ⟨rfl, rfl, rfl, rfl, rfl⟩
theorem len_rest {pg : Pg} {cf : CF} {o : Bool} {σ : Slots} {μ : Store} {i : Nat} {ds : List D} (h : evE pg cf true (.v i) σ μ = .ok (.tup ds) μ) : evE pg cf o (.bi .len (.cons (.v i) .nil)) σ μ = .ok (.int ds.length) μ := by
  show ((evE pg cf true (.v i) σ μ).bind _).bind _ = _
  rw [h]
  rfl
end T.Lib
end

section
namespace T.Lib
open PySem PySem.Spec L2 T
theorem cc_last {pg : Pg} {cf : CF} {μ : Store} {CB : D} {s0 s1 s3 s5 s6 : Sl} {AL NM MV a b c : Int} (g4 : fldD μ CB 4 = some (.int a)) (g5 : fldD μ CB 5 = some (.int b)) (g6 : fldD μ CB 6 = some (.int c)) (h4 : binD .Mult (.int AL) (.int a) = some (.int (AL * a))) (h5 : binD .Mult (.int NM) (.int b) = some (.int (NM * b))) (h6 : binD .Mult (.int MV) (.int c) = some (.int (MV * c))) :
    evS pg cf (.ret (.bin .Add (.bin .Add (.bin .Mult (.v 4) (.fld (.v 2) 4)) (.bin .Mult (.v 7) (.fld (.v 2) 5))) (.bin .Mult (.v 8) (.fld (.v 2) 6)))) [s0, s1, .val CB, s3, .val (.int AL), s5, s6, .val (.int NM), .val (.int MV)] μ = .ret (.int (AL * a + NM * b + MV * c)) μ := by
  simp only [evS, evE, rd, List.getElem?_cons_zero, List.getElem?_cons_succ, if_false, Bool.false_eq_true, of_some, ok_bind, ok_st, g4, g5, g6, h4, h5, h6, bin_add]
theorem cc_run {pg : Pg} {cf : CF} {h1 r1 h2 r2 : List D} {B : Bl} {cs : List (Int × Int)} {μ : Store} (hB : B.ok) (t1 : Tb h1 r1) (t2 : Tb h2 r2) (hc : Prs h1.length h2.length cs) (hl : cs.length ≤ 1000)
    (hr : cf 41 [.lst ((cs.map (·.2)).map .int)] μ = .ok (.int (rise (cs.map (·.2)))) μ) : runF pg cf ⟨9, 4, b39⟩ [tabD h1 r1, tabD h2 r2, cstD B, .tup (cs.map prI)] μ = .ok (.int (colV B h1 h2 cs)) μ := by
  have hz := sizeLine_eq
  obtain ⟨g2, g3, g4, g5, g6⟩ := fldB (μ := μ) B
  obtain ⟨b1, b2, b3, b4, b5⟩ := hB
  have f1 := fld0 (μ := μ) h1 r1
  have f2 := fld0 (μ := μ) h2 r2
  have oh1 := t1.hd
  have oh2 := t2.hd
  unfold colV
  generalize tabD h1 r1 = TA at *
  generalize tabD h2 r2 = TB at *
  generalize cstD B = CB at *
  generalize hN : (named h1 h2 cs : Int) = NM
  generalize hR : rise (cs.map (·.2)) = RR at *
  refine runF_ret (σ := [.val TA, .val TB, .val CB, .val (.tup (cs.map prI)), .emp, .emp, .emp, .emp, .emp]) rfl rfl ?_
  have m2 : mulOk 2 (cs.length : Int) = true := mulOk_l _ _ (by decide)
  have m3 : ∀ a : Int, mulOk a B.col = true := fun a => mulOk_r _ _ (by omega)
  have m4 : ∀ a : Int, mulOk a B.nm = true := fun a => mulOk_r _ _ (by omega)
  have m5 : ∀ a : Int, mulOk a B.mv = true := fun a => mulOk_r _ _ (by omega)
  have s0 : evS pg cf (.set (.v 4) (.bin .Sub (.bin .Add (.bi .len (.cons (.fld (.v 0) 0) .nil)) (.bi .len (.cons (.fld (.v 1) 0) .nil))) (.bin .Mult (.int 2) (.bi .len (.cons (.v 3) .nil))))) [.val TA, .val TB, .val CB, .val (.tup (cs.map prI)), .emp, .emp, .emp, .emp, .emp] μ = .next [.val TA, .val TB, .val CB, .val (.tup (cs.map prI)), .val (.int ((h1.length : Int) + h2.length - 2 * cs.length)), .emp, .emp, .emp, .emp] μ := by
    simp [evS, evE, evEs, rd, rdO, f1, f2, bin_mul m2, bindT]
  generalize (h1.length : Int) + h2.length - 2 * cs.length = AL at s0 ⊢
  have e1 := comp2 (pg := pg) (cf := cf) (e := .v 5) (it := .seq (.v 3)) (i := 5) (j := 6) (σ := [.val TA, .val TB, .val CB, .val (.tup (cs.map prI)), .val (.int AL), .emp, .emp, .emp, .emp]) (μ := μ) (ps := cs) (co := .cons (.cmp .NotEq (.ix (.fld (.v 0) 0) (.v 5)) (.ix (.fld (.v 1) 0) (.v 6))) .nil) (g := fun p => !ceq (gD h1 p.1) (gD h2 p.2)) (f := fun p => .int p.1) (by decide) (by simp) (by simp) (it_seq (d := .tup (cs.map prI)) rfl (.inl rfl)) (by omega) fun p hp => by
    obtain ⟨⟨p1, p2⟩, p3, p4⟩ := hc p hp
    have b1 := at_get (ds := h1) p1 p2
    have b2 := at_get (ds := h2) p3 p4
    have cc := ck_ne (oh1 _ (get_mem (ds := h1) p1 p2)) (oh2 _ (get_mem (ds := h2) p3 p4)) μ
    refine ⟨evTs_one ?_, fun _ => rfl⟩
    simp only [evE, rdO, rd, List.set_cons_succ, List.set_cons_zero, List.getElem?_cons_zero, List.getElem?_cons_succ, if_true, if_false, Bool.false_eq_true, of_some, ok_bind, f1, f2, ix_tup, b1, b2, cc, Option.map_some]
  have el := len_lst (o := false) e1
  rw [List.length_map] at el
  have el : evE pg cf false _ _ μ = .ok (.int (named h1 h2 cs)) μ := el
  rw [hN] at el
  have s1 : evS pg cf (.set (.v 7) (.bi .len (.cons (.lst .fz (.comp (.v 5) (.t2 (.v 5) (.v 6)) (.seq (.v 3)) (.cons (.cmp .NotEq (.ix (.fld (.v 0) 0) (.v 5)) (.ix (.fld (.v 1) 0) (.v 6))) .nil))) .nil))) [.val TA, .val TB, .val CB, .val (.tup (cs.map prI)), .val (.int AL), .emp, .emp, .emp, .emp] μ = .next [.val TA, .val TB, .val CB, .val (.tup (cs.map prI)), .val (.int AL), .emp, .emp, .val (.int NM), .emp] μ := by
    generalize IE.bi .len (.cons (.lst .fz (.comp (.v 5) (.t2 (.v 5) (.v 6)) (.seq (.v 3)) (.cons (.cmp .NotEq (.ix (.fld (.v 0) 0) (.v 5)) (.ix (.fld (.v 1) 0) (.v 6))) .nil))) .nil) = M at el ⊢
    simp [evS, el, bindT]
  have e2 := comp2 (pg := pg) (cf := cf) (e := .v 6) (it := .seq (.v 3)) (i := 5) (j := 6) (σ := [.val TA, .val TB, .val CB, .val (.tup (cs.map prI)), .val (.int AL), .emp, .emp, .val (.int NM), .emp]) (μ := μ) (ps := cs) (co := .nil) (g := fun p => true) (f := fun p => .int p.2) (by decide) (by simp) (by simp) (it_seq (d := .tup (cs.map prI)) rfl (.inl rfl)) (by omega) fun p hp => ⟨rfl, fun _ => rfl⟩
  have ef : (cs.filter fun _ => true).map (fun p => D.int p.2) = (cs.map (·.2)).map .int := by
    rw [List.filter_eq_self.mpr fun _ _ => rfl, List.map_map]
    rfl
  rw [ef] at e2
  have s2 : evS pg cf (.set (.v 8) (.bin .Sub (.bi .len (.cons (.v 3) .nil)) (.call 41 (.cons (.lst .fz (.comp (.v 6) (.t2 (.v 5) (.v 6)) (.seq (.v 3)) .nil)) .nil)))) [.val TA, .val TB, .val CB, .val (.tup (cs.map prI)), .val (.int AL), .emp, .emp, .val (.int NM), .emp] μ = .next [.val TA, .val TB, .val CB, .val (.tup (cs.map prI)), .val (.int AL), .emp, .emp, .val (.int NM), .val (.int (cs.length - RR))] μ := by
    generalize (cs.map (·.2)).map D.int = LS at e2 hr
    generalize IL.comp (.v 6) (.t2 (.v 5) (.v 6)) (.seq (.v 3)) .nil = L at e2 ⊢
    simp [evS, evE, evEs, rd, rdO, e2, hr, bindT]
  have s3 := cc_last (pg := pg) (cf := cf) (s0 := .val TA) (s1 := .val TB) (s3 := .val (.tup (cs.map prI))) (s5 := .emp) (s6 := .emp) g4 g5 g6 (bin_mul (m3 AL)) (bin_mul (m4 NM)) (bin_mul (m5 (cs.length - RR)))
  rw [show b39 = .cons (.set (.v 4) (.bin .Sub (.bin .Add (.bi .len (.cons (.fld (.v 0) 0) .nil)) (.bi .len (.cons (.fld (.v 1) 0) .nil))) (.bin .Mult (.int 2) (.bi .len (.cons (.v 3) .nil))))) (.cons (.set (.v 7) (.bi .len (.cons (.lst .fz (.comp (.v 5) (.t2 (.v 5) (.v 6)) (.seq (.v 3)) (.cons (.cmp .NotEq (.ix (.fld (.v 0) 0) (.v 5)) (.ix (.fld (.v 1) 0) (.v 6))) .nil))) .nil))) (.cons (.set (.v 8) (.bin .Sub (.bi .len (.cons (.v 3) .nil)) (.call 41 (.cons (.lst .fz (.comp (.v 6) (.t2 (.v 5) (.v 6)) (.seq (.v 3)) .nil)) .nil)))) (.cons (.ret (.bin .Add (.bin .Add (.bin .Mult (.v 4) (.fld (.v 2) 4)) (.bin .Mult (.v 7) (.fld (.v 2) 5))) (.bin .Mult (.v 8) (.fld (.v 2) 6)))) .nil))) from rfl]
  rw [evB_cons, s0, next_bind, evB_cons, s1, next_bind, evB_cons, s2, next_bind, evB_cons, s3, ret_bind]
end T.Lib
end

section
namespace T.Lib
open PySem PySem.Spec L2 T
/-! ### full_cost -/
theorem sum_lst {pg : Pg} {cf : CF} {o : Bool} {L : IL} {σ : Slots} {μ : Store} {is : List Int} (h : evL pg cf L σ μ = .ok (is.map .int) μ) : evE pg cf o (.bi .sum (.cons (.lst .fz L) .nil)) σ μ = .ok (.int is.sum) μ := by
  show ((evE pg cf true (.lst .fz L) σ μ).bind _).bind _ = _
  show (((evL pg cf L σ μ).bind _).bind _).bind _ = _
  rw [h]
  show Res.of (((some (is.map D.int)).bind intsD).map fun is => D.int is.sum) μ = _
  rw [Option.bind_some, intsD_map]
  rfl
def fullV (B : Bl) (h1 r1 h2 r2 : List D) (cs rs : List (Int × Int)) : Int := colV B h1 h2 cs + ((r1.length : Int) + r2.length - 2 * rs.length) * B.row + (rs.map fun q => (unl r1 r2 cs q : Int)).sum * B.cell
theorem full_run {pg : Pg} {cf : CF} {TA TB : D} {h1 r1 h2 r2 : List D} {B : Bl} {cs rs : List (Int × Int)} {μ : Store} (hB : B.ok) (f1 : fldD μ TA 1 = some (.tup r1)) (f2 : fldD μ TB 1 = some (.tup r2)) (hl : rs.length ≤ 1000)
    (h40 : ∀ q ∈ rs, cf 40 [TA, TB, .tup (cs.map prI), .int q.1, .int q.2] μ = .ok (.int (unl r1 r2 cs q)) μ) (h39 : cf 39 [TA, TB, cstD B, .tup (cs.map prI)] μ = .ok (.int (colV B h1 h2 cs)) μ) :
    runF pg cf ⟨10, 4, b38⟩ [TA, TB, cstD B, .tup [.tup (cs.map prI), .tup (rs.map prI)]] μ = .ok (.int (fullV B h1 r1 h2 r2 cs rs)) μ := by
  have hz := sizeLine_eq
  obtain ⟨g2, g3, g4, g5, g6⟩ := fldB (μ := μ) B
  obtain ⟨b1, b2, b3, b4, b5⟩ := hB
  unfold fullV
  generalize cstD B = CB at *
  generalize colV B h1 h2 cs = CV at *
  have m2 : mulOk 2 (rs.length : Int) = true := mulOk_l _ _ (by decide)
  have m3 : ∀ a : Int, mulOk a B.row = true := fun a => mulOk_r _ _ (by omega)
  have m4 : ∀ a : Int, mulOk a B.cell = true := fun a => mulOk_r _ _ (by omega)
  have lr : (rs.map prI).length = rs.length := List.length_map _
  have ei : ∀ σ : Slots, evE pg cf true (.v 5) σ μ = .ok (.tup (rs.map prI)) μ → evIt pg cf true (.seq (.v 5)) σ μ = .ok (rs.map prI) μ := fun σ h => it_seq h (.inl rfl)
  generalize cs.map prI = CS at *
  have key : ∀ AL : Int, evL pg cf (.comp (.call 40 (.cons (.v 0) (.cons (.v 1) (.cons (.v 4) (.cons (.v 7) (.cons (.v 8) .nil)))))) (.t2 (.v 7) (.v 8)) (.seq (.v 5)) .nil) [.val TA, .val TB, .val CB, .val (.tup [.tup CS, .tup (rs.map prI)]), .val (.tup CS), .val (.tup (rs.map prI)), .val (.int AL), .emp, .emp, .emp] μ = .ok ((rs.map fun q => (unl r1 r2 cs q : Int)).map .int) μ := fun AL => by
    have e := comp2 (pg := pg) (cf := cf) (e := .call 40 (.cons (.v 0) (.cons (.v 1) (.cons (.v 4) (.cons (.v 7) (.cons (.v 8) .nil)))))) (it := .seq (.v 5)) (i := 7) (j := 8) (σ := [.val TA, .val TB, .val CB, .val (.tup [.tup CS, .tup (rs.map prI)]), .val (.tup CS), .val (.tup (rs.map prI)), .val (.int AL), .emp, .emp, .emp]) (μ := μ) (ps := rs) (co := .nil) (g := fun _ => true) (f := fun q => .int (unl r1 r2 cs q)) (by decide) (by simp) (by simp) (ei _ rfl) (by omega) fun q hq => ⟨rfl, fun _ => by
      have := h40 q hq
      simp only [evE, evEs, rd, List.set_cons_succ, List.set_cons_zero, List.getElem?_cons_zero, List.getElem?_cons_succ, if_false, Bool.false_eq_true, of_some, ok_bind, this]⟩
    rw [List.filter_eq_self.mpr fun _ _ => rfl] at e
    rw [List.map_map]
    exact e
  refine runF_ret (σ := [.val TA, .val TB, .val CB, .val (.tup [.tup CS, .tup (rs.map prI)]), .emp, .emp, .emp, .emp, .emp, .emp]) rfl rfl ?_
  have s0 : evS pg cf (.set (.t2 (.v 4) (.v 5)) (.v 3)) [.val TA, .val TB, .val CB, .val (.tup [.tup CS, .tup (rs.map prI)]), .emp, .emp, .emp, .emp, .emp, .emp] μ = .next [.val TA, .val TB, .val CB, .val (.tup [.tup CS, .tup (rs.map prI)]), .val (.tup CS), .val (.tup (rs.map prI)), .emp, .emp, .emp, .emp] μ := rfl
  have s1 : evS pg cf (.set (.v 6) (.bin .Sub (.bin .Add (.bi .len (.cons (.fld (.v 0) 1) .nil)) (.bi .len (.cons (.fld (.v 1) 1) .nil))) (.bin .Mult (.int 2) (.bi .len (.cons (.v 5) .nil))))) [.val TA, .val TB, .val CB, .val (.tup [.tup CS, .tup (rs.map prI)]), .val (.tup CS), .val (.tup (rs.map prI)), .emp, .emp, .emp, .emp] μ = .next [.val TA, .val TB, .val CB, .val (.tup [.tup CS, .tup (rs.map prI)]), .val (.tup CS), .val (.tup (rs.map prI)), .val (.int ((r1.length : Int) + r2.length - 2 * rs.length)), .emp, .emp, .emp] μ := by
    generalize rs.map prI = RS at *
    have hq : (RS.length : Int) = rs.length := by rw [lr]
    simp [evS, evE, evEs, rd, rdO, f1, f2, hq, bin_mul m2, bindT]
  generalize (r1.length : Int) + r2.length - 2 * rs.length = AL at s1 ⊢
  have sm := sum_lst (o := false) (key AL)
  generalize (rs.map fun q => (unl r1 r2 cs q : Int)).sum = US at sm ⊢
  generalize rs.map prI = RS at *
  have s2 : evS pg cf (.set (.v 9) (.bi .sum (.cons (.lst .fz (.comp (.call 40 (.cons (.v 0) (.cons (.v 1) (.cons (.v 4) (.cons (.v 7) (.cons (.v 8) .nil)))))) (.t2 (.v 7) (.v 8)) (.seq (.v 5)) .nil)) .nil))) [.val TA, .val TB, .val CB, .val (.tup [.tup CS, .tup RS]), .val (.tup CS), .val (.tup RS), .val (.int AL), .emp, .emp, .emp] μ = .next [.val TA, .val TB, .val CB, .val (.tup [.tup CS, .tup RS]), .val (.tup CS), .val (.tup RS), .val (.int AL), .emp, .emp, .val (.int US)] μ := by
    generalize IL.comp (.call 40 (.cons (.v 0) (.cons (.v 1) (.cons (.v 4) (.cons (.v 7) (.cons (.v 8) .nil)))))) (.t2 (.v 7) (.v 8)) (.seq (.v 5)) .nil = L at sm ⊢
    unfold evS
    rw [sm]
    rfl
  rw [show b38 = .cons (.set (.t2 (.v 4) (.v 5)) (.v 3)) (.cons (.set (.v 6) (.bin .Sub (.bin .Add (.bi .len (.cons (.fld (.v 0) 1) .nil)) (.bi .len (.cons (.fld (.v 1) 1) .nil))) (.bin .Mult (.int 2) (.bi .len (.cons (.v 5) .nil))))) (.cons (.set (.v 9) (.bi .sum (.cons (.lst .fz (.comp (.call 40 (.cons (.v 0) (.cons (.v 1) (.cons (.v 4) (.cons (.v 7) (.cons (.v 8) .nil)))))) (.t2 (.v 7) (.v 8)) (.seq (.v 5)) .nil)) .nil))) (.cons (.ret (.bin .Add (.bin .Add (.call 39 (.cons (.v 0) (.cons (.v 1) (.cons (.v 2) (.cons (.v 4) .nil))))) (.bin .Mult (.v 6) (.fld (.v 2) 3))) (.bin .Mult (.v 9) (.fld (.v 2) 2)))) .nil))) from rfl]
  rw [evB_cons, s0, next_bind, evB_cons, s1, next_bind, evB_cons, s2, next_bind]
  simp [evB, evS, evE, evEs, rd, g2, g3, h39, bin_mul (m3 _), bin_mul (m4 _)]
/-! ### cost_of -/
theorem chk_run {pg : Pg} {cf : CF} {TA TB d : D} {b : Bool} {μ : Store} (h : cf 18 [TA, TB, d] μ = .ok (.bl b) μ) : runF pg cf ⟨3, 3, c22⟩ [TA, TB, d] μ = if b then .ok d μ else .exn ⟨4, [d]⟩ μ := by
  cases b
  · show _ = Res.exn _ _
    simp [runF, c22, evB, evS, evE, evEs, rd, h, SR.bind, Res.st]
  · simp [runF, c22, evB, evS, evE, evEs, rd, h]
theorem al_inv {a b c e : Nat} {cs rs : List (Int × Int)} (h : alD a b c e (.tup [.tup (cs.map prI), .tup (rs.map prI)]) = true) : Prs a b cs ∧ Prs c e rs ∧ (cs.map (·.2)).Nodup ∧ (rs.map (·.2)).Nodup := by
  have ps : ∀ {m n : Nat} {ps : List (Int × Int)}, psD m n (.tup (ps.map prI)) = true → Prs m n ps ∧ (ps.map (·.2)).Nodup := fun {m n ps} h => by
    have h : ((ps.map prI).all (prD m n) && okP (ps.map prI)) = true := h
    obtain ⟨h1, h2⟩ := Bool.and_eq_true_iff.mp h
    refine ⟨fun p hp => ?_, ?_⟩
    · obtain ⟨_, q1, q2, q3, q4⟩ := prD_inv (List.all_eq_true.mp h1 _ (List.mem_map_of_mem (f := prI) hp))
      exact ⟨⟨q1, q2⟩, q3, q4⟩
    · have q := of_decide_eq_true (Bool.and_eq_true_iff.mp h2).2
      rw [List.map_map] at q
      exact q
  have h : (psD a b (.tup (cs.map prI)) && (psD c e (.tup (rs.map prI)) && (!nilD (.tup (cs.map prI)) || nilD (.tup (rs.map prI))))) = true := h
  simp only [Bool.and_eq_true] at h
  obtain ⟨p1, n1⟩ := ps h.1
  obtain ⟨p2, n2⟩ := ps h.2.1
  exact ⟨p1, p2, n1, n2⟩
theorem prs_nr (ps : List (Int × Int)) : belows 0 (ps.map prI) = true := by
  induction ps with
  | nil => rfl
  | cons p ps ih => simp [belows, below, prI, ih]
theorem al_nr (cs rs : List (Int × Int)) : NR (.tup [.tup (cs.map prI), .tup (rs.map prI)]) := by
  simp [NR, below, belows, prs_nr]
/-- cost_of of any value; what it is of an alignment -/
theorem c_cost {pg : Pg} (HS : Hc pg) (k : Nat) {h1 r1 h2 r2 : List D} {B : Bl} {cs rs : List (Int × Int)} {μ : Store} (hB : B.ok) (t1 : Tb h1 r1) (t2 : Tb h2 r2) (hv : alD h1.length h2.length r1.length r2.length (.tup [.tup (cs.map prI), .tup (rs.map prI)]) = true) (l1 : cs.length < 64) (l2 : rs.length < 64) :
    callI pg (k + 7) 37 [tabD h1 r1, tabD h2 r2, cstD B, .tup [.tup (cs.map prI), .tup (rs.map prI)]] μ = .ok (.int (fullV B h1 r1 h2 r2 cs rs)) μ := by
  obtain ⟨p1, p2, _, _⟩ := al_inv hv
  have e41 : ∀ k, callI pg (k + 1) 41 [.lst ((cs.map (·.2)).map .int)] μ = .ok (.int (rise (cs.map (·.2)))) μ := fun k => by
    rw [callI_fn HS.f41]
    exact rise_run (by simp; omega)
  have e39 : ∀ k, callI pg (k + 2) 39 [tabD h1 r1, tabD h2 r2, cstD B, .tup (cs.map prI)] μ = .ok (.int (colV B h1 h2 cs)) μ := fun k => by
    rw [callI_fn HS.f39]
    exact cc_run hB t1 t2 p1 (by omega) (e41 k)
  have e40 : ∀ k, ∀ q ∈ rs, callI pg (k + 1) 40 [tabD h1 r1, tabD h2 r2, .tup (cs.map prI), .int q.1, .int q.2] μ = .ok (.int (unl r1 r2 cs q)) μ := fun k q hq => by
    rw [callI_fn HS.f40]
    exact unl_run t1 t2 p1 (by omega) (p2 q hq).1 (p2 q hq).2
  have e38 : ∀ k, callI pg (k + 3) 38 [tabD h1 r1, tabD h2 r2, cstD B, .tup [.tup (cs.map prI), .tup (rs.map prI)]] μ = .ok (.int (fullV B h1 r1 h2 r2 cs rs)) μ := fun k => by
    rw [callI_fn HS.f38]
    exact full_run hB (fld1 _ _) (fld1 _ _) (by omega) (e40 (k + 1)) (e39 k)
  have e18 := c_alignment HS.toHa k (al_nr cs rs) (fun x y e => by
    cases e
    exact ⟨fun ds e => by cases e; simpa using l1, fun ds e => by cases e; simpa using l2⟩) h1 r1 h2 r2 μ
  rw [hv] at e18
  have e22 : callI pg (k + 6) 22 [tabD h1 r1, tabD h2 r2, .tup [.tup (cs.map prI), .tup (rs.map prI)]] μ = .ok (.tup [.tup (cs.map prI), .tup (rs.map prI)]) μ := by
    rw [callI_fn HS.f22, chk_run e18]
    rfl
  have e38 := e38 (k + 3)
  rw [callI_fn HS.f37]
  generalize callI pg (k + 6) = cf at e22 e38
  generalize D.tup [.tup (cs.map prI), .tup (rs.map prI)] = AL at *
  generalize tabD h1 r1 = TA at *
  generalize tabD h2 r2 = TB at *
  generalize cstD B = CB at *
  simp [runF, b37, evB, evS, evE, evEs, rd, e22, e38]
theorem c_cost_bad {pg : Pg} (HS : Hc pg) (k : Nat) {h1 r1 h2 r2 : List D} {C d : D} {μ : Store} (h : NR d) (hs : ∀ x y, d = .tup [x, y] → (∀ ds, x = .tup ds → ds.length < 64) ∧ (∀ ds, y = .tup ds → ds.length < 64)) (hv : alD h1.length h2.length r1.length r2.length d = false) :
    callI pg (k + 7) 37 [tabD h1 r1, tabD h2 r2, C, d] μ = .exn ⟨4, [d]⟩ μ := by
  have e18 := c_alignment HS.toHa k h hs h1 r1 h2 r2 μ
  rw [hv] at e18
  have e22 : callI pg (k + 6) 22 [tabD h1 r1, tabD h2 r2, d] μ = .exn ⟨4, [d]⟩ μ := by
    rw [callI_fn HS.f22, chk_run e18]
    rfl
  rw [callI_fn HS.f37]
  generalize callI pg (k + 6) = cf at e22
  generalize tabD h1 r1 = TA at *
  generalize tabD h2 r2 = TB at *
  simp [runF, b37, evB, evS, evE, evEs, rd, e22, Res.bind, Res.st, SR.bind]
/-! ### Costs() -/
theorem c_init5 {pg : Pg} (HS : Hc pg) (k : Nat) {B : Bl} (hB : B.ok) {μ : Store} : callI pg (k + 3) 42 [.ref μ.length, .int B.cell, .int B.row, .int B.col, .int B.nm, .int B.mv] (μ ++ [.ins 1 [] []]) = .ok .non (μ ++ [.ins 1 [2, 3, 4, 5, 6] B.ds]) := by
  obtain ⟨b1, b2, b3, b4, b5⟩ := hB
  have e : ∀ {i : Int}, 1 ≤ i ∧ i ≤ 50 → callI pg (k + 2) 13 [.int i, .int 1, .int 50] (μ ++ [.ins 1 [] []]) = .ok (.bl true) (μ ++ [.ins 1 [] []]) := fun {i} h => by
    rw [c_within HS.toHs k i 1 50]
    simp [h]
  have e1 := e b1
  have e2 := e b2
  have e3 := e b3
  have e4 := e b4
  have e5 := e b5
  rw [callI_fn HS.f42]
  generalize callI pg (k + 2) = cf at e1 e2 e3 e4 e5
  unfold Bl.ds
  generalize B.cell = c1 at *
  generalize B.row = c2 at *
  generalize B.col = c3 at *
  generalize B.nm = c4 at *
  generalize B.mv = c5 at *
  refine runF_next (σ := [.val (.ref μ.length), .val (.int c1), .val (.int c2), .val (.int c3), .val (.int c4), .val (.int c5), .emp]) (σ' := [.val (.ref μ.length), .val (.int c1), .val (.int c2), .val (.int c3), .val (.int c4), .val (.int c5), .val (.int c5)]) rfl rfl ?_
  have s0 : evS pg cf (.forr (.v 6) (.seq (.tup (.cons (.v 1) (.cons (.v 2) (.cons (.v 3) (.cons (.v 4) (.cons (.v 5) .nil))))))) (.cons (.iff (.nt (.call 13 (.cons (.v 6) (.cons (.int 1) (.cons (.gi "MOST_COST" 50) .nil))))) (.cons (.rais 6 (.v 6)) .nil) .nil) .nil)) [.val (.ref μ.length), .val (.int c1), .val (.int c2), .val (.int c3), .val (.int c4), .val (.int c5), .emp] (μ ++ [.ins 1 [] []]) = .next [.val (.ref μ.length), .val (.int c1), .val (.int c2), .val (.int c3), .val (.int c4), .val (.int c5), .val (.int c5)] (μ ++ [.ins 1 [] []]) := by
    simp [evS, evIt, evE, evEs, rd, forGo, bindT, evB, e1, e2, e3, e4, e5]
  rw [show b42 = .cons (.forr (.v 6) (.seq (.tup (.cons (.v 1) (.cons (.v 2) (.cons (.v 3) (.cons (.v 4) (.cons (.v 5) .nil))))))) (.cons (.iff (.nt (.call 13 (.cons (.v 6) (.cons (.int 1) (.cons (.gi "MOST_COST" 50) .nil))))) (.cons (.rais 6 (.v 6)) .nil) .nil) .nil)) (.cons (.setfld (.v 0) 2 (.v 1)) (.cons (.setfld (.v 0) 3 (.v 2)) (.cons (.setfld (.v 0) 4 (.v 3)) (.cons (.setfld (.v 0) 5 (.v 4)) (.cons (.setfld (.v 0) 6 (.v 5)) .nil))))) from rfl]
  rw [evB_cons, s0, next_bind]
  simp [evB, evS, evE, rd, putAt]
theorem c_new5 {pg : Pg} (HS : Hc pg) (k : Nat) {B : Bl} (hB : B.ok) {μ : Store} (hp : Pots μ) : newD pg (callI pg (k + 3)) 1 B.ds μ = .ok (cstD B) μ := by
  have q := c_init5 HS k hB (μ := μ)
  unfold newD
  rw [HS.i1]
  show (match callI pg (k + 3) 42 [.ref μ.length, .int B.cell, .int B.row, .int B.col, .int B.nm, .int B.mv] (μ ++ [.ins 1 [] []]) with | .ok d μ2 => _ | .exn x μ2 => _ | .bad => _) = _
  rw [q]
  have hb : belows μ.length B.ds = true := by simp [Bl.ds, belows, below]
  simp [hb, pots_below hp, cstD]
theorem c_costs {pg : Pg} (HS : Hc45 pg) (k : Nat) {B : Bl} (hB : B.ok) {μ : Store} (hp : Pots μ) : callI pg (k + 4) 45 [.lst B.ds] μ = .ok (cstD B) μ := by
  have e := c_new5 HS.toHc k hB hp
  rw [callI_fn HS.f45]
  generalize callI pg (k + 3) = cf at e
  refine runF_ret (σ := [.val (.lst B.ds)]) rfl rfl ?_
  unfold Bl.ds at e ⊢
  have i0 : ∀ {a b c d e : D}, atI [a, b, c, d, e] 0 = some a := rfl
  have i1 : ∀ {a b c d e : D}, atI [a, b, c, d, e] 1 = some b := rfl
  have i2 : ∀ {a b c d e : D}, atI [a, b, c, d, e] 2 = some c := rfl
  have i3 : ∀ {a b c d e : D}, atI [a, b, c, d, e] 3 = some d := rfl
  have i4 : ∀ {a b c d e : D}, atI [a, b, c, d, e] 4 = some e := rfl
  simp [b45, evB, evS, evE, evEs, rd, rdO, i0, i1, i2, i3, i4, fill, e]
end T.Lib
end

section
namespace T.Lib
open PySem PySem.Spec L2 T
/-! ### _law_moved -/
def subsD (S : List (List Int)) : List D := S.map fun k => .lst (k.map .int)
def allS : List Int → List (List Int) → List (List Int)
  | [], S => S
  | x :: xs, S => allS xs (S ++ S.map (· ++ [x]))
def sortedB (k : List Int) : Bool := decide (k = k.mergeSort fun a b => decide (a ≤ b))
def lensS (S : List (List Int)) : List Int := (S.filter sortedB).map fun k => (k.length : Int)
def movedV (ps : List Int) : Int := ps.length - greatest 0 (lensS (allS ps [[]]))
def catL : IL := .cat (.v 2) (.lst .fz (.comp (.lst .fz (.cat (.v 5) (.lst .fz (.disp (.cons (.v 4) .nil))))) (.v 5) (.seq (.v 2)) .nil))
def movB : IB := .cons (.own 2 catL) .nil
def movT (pg : Pg) (cf : CF) : D → Slots → Store → SR := fun x σ1 μ2 => match bindT (.v 4) x σ1 with
  | some σ2 => evB pg cf movB σ2 μ2
  | none => .bad
theorem cat_eval {pg : Pg} {cf : CF} {a b : IE} {σ : Slots} {μ : Store} {ds es : List D} (ha : evE pg cf true a σ μ = .ok (.lst ds) μ) (hb : evE pg cf true b σ μ = .ok (.lst es) μ) (hl : ds.length + es.length ≤ sizeLine) : evL pg cf (.cat a b) σ μ = .ok (ds ++ es) μ := by
  unfold evL
  rw [ha, ok_bind, hb, ok_bind]
  show (if ds.length + es.length ≤ sizeLine then _ else _) = _
  rw [if_pos hl]
theorem lst_eval {pg : Pg} {cf : CF} {o : Bool} {L : IL} {σ : Slots} {μ : Store} {ds : List D} (h : evL pg cf L σ μ = .ok ds μ) : evE pg cf o (.lst .fz L) σ μ = .ok (.lst ds) μ := by
  show (evL pg cf L σ μ).bind _ = _
  rw [h]
  rfl
theorem mov_turn {pg : Pg} {cf : CF} {S : List (List Int)} {x : Int} {μ : Store} {s0 s3 s4 : Sl} (hS : S.length ≤ 1000) (hk : ∀ k ∈ S, k.length ≤ 1000) : movT pg cf (.int x) [s0, .emp, .own (subsD S), s3, s4, .emp] μ = .next [s0, .emp, .own (subsD (S ++ S.map (· ++ [x]))), s3, .val (.int x), .emp] μ := by
  have hz := sizeLine_eq
  show evB pg cf movB [s0, .emp, .own (subsD S), s3, .val (.int x), .emp] μ = _
  have e := comp_fm (pg := pg) (cf := cf) (e := .lst .fz (.cat (.v 5) (.lst .fz (.disp (.cons (.v 4) .nil))))) (it := .seq (.v 2)) (i := 5) (σ := [s0, .emp, .own (subsD S), s3, .val (.int x), .emp]) (μ := μ) (cs := S) (m := fun k => .lst (k.map .int)) (co := .nil) (g := fun _ => true) (f := fun k => .lst ((k ++ [x]).map .int)) (by simp) (it_seq (d := .lst (subsD S)) rfl (.inr rfl)) (by omega) fun k hkm => ⟨rfl, fun _ => by
    refine lst_eval ?_
    have := cat_eval (pg := pg) (cf := cf) (a := .v 5) (b := .lst .fz (.disp (.cons (.v 4) .nil))) (σ := [s0, .emp, .own (subsD S), s3, .val (.int x), .val (.lst (k.map .int))]) (μ := μ) (ds := k.map .int) (es := [.int x]) rfl rfl (by have := hk k hkm; simp; omega)
    rw [List.map_append]
    exact this⟩
  rw [List.filter_eq_self.mpr fun _ _ => rfl] at e
  have e2 := cat_eval (pg := pg) (cf := cf) (a := .v 2) (σ := [s0, .emp, .own (subsD S), s3, .val (.int x), .emp]) (μ := μ) (ds := subsD S) rfl (lst_eval e) (by simp [subsD]; omega)
  have e3 : subsD S ++ (S.map fun k => D.lst ((k ++ [x]).map .int)) = subsD (S ++ S.map (· ++ [x])) := by
    unfold subsD
    rw [List.map_append, List.map_map]
    rfl
  rw [e3] at e2
  unfold movB
  rw [evB_cons]
  have s1 : evS pg cf (.own 2 catL) [s0, .emp, .own (subsD S), s3, .val (.int x), .emp] μ = .next [s0, .emp, .own (subsD (S ++ S.map (· ++ [x]))), s3, .val (.int x), .emp] μ := by
    unfold evS
    show (evL pg cf (.cat (.v 2) _) _ μ).st _ _ = _
    rw [e2]
    rfl
  rw [s1, next_bind]
  rfl
theorem mov_turns {pg : Pg} {cf : CF} {μ : Store} {s0 s3 : Sl} : ∀ (xs : List Int) (S : List (List Int)) (s4 : Sl), S.length * 2 ^ xs.length ≤ 1000 → (∀ k ∈ S, k.length + xs.length ≤ 1000) →
    ∃ t4, forGo (movT pg cf) (xs.map .int) [s0, .emp, .own (subsD S), s3, s4, .emp] μ = .next [s0, .emp, .own (subsD (allS xs S)), s3, t4, .emp] μ
  | [], S, s4, _, _ => ⟨s4, rfl⟩
  | x :: xs, S, s4, h, hk => by
    have hp : 1 ≤ 2 ^ xs.length := Nat.one_le_two_pow
    rw [List.length_cons, Nat.pow_succ] at h
    have h1 : S.length ≤ S.length * (2 ^ xs.length * 2) := Nat.le_mul_of_pos_right _ (by omega)
    have e := mov_turn (pg := pg) (cf := cf) (S := S) (x := x) (μ := μ) (s0 := s0) (s3 := s3) (s4 := s4) (by omega) fun k hk' => by have := hk k hk'; omega
    have h2 : (S ++ S.map (· ++ [x])).length * 2 ^ xs.length = S.length * (2 ^ xs.length * 2) := by
      rw [List.length_append, List.length_map, ← Nat.mul_two, Nat.mul_assoc, Nat.mul_comm 2]
    obtain ⟨t4, e2⟩ := mov_turns (pg := pg) (cf := cf) (μ := μ) (s0 := s0) (s3 := s3) xs (S ++ S.map (· ++ [x])) (.val (.int x)) (by omega) fun k hk' => by
      rcases List.mem_append.mp hk' with hk' | hk'
      · have := hk k hk'; rw [List.length_cons] at this; omega
      · obtain ⟨j, hj, rfl⟩ := List.mem_map.mp hk'
        have := hk j hj
        rw [List.length_cons] at this
        rw [List.length_append, List.length_singleton]
        omega
    refine ⟨t4, ?_⟩
    rw [List.map_cons]
    rw [forGo_next e]
    exact e2
theorem allS_hd : ∀ (xs : List Int) (S : List (List Int)) (r : List (List Int)), S = [] :: r → ∃ r', allS xs S = [] :: r'
  | [], S, r, h => ⟨r, h⟩
  | x :: xs, S, r, h => by
    subst h
    exact allS_hd xs _ _ (List.cons_append ..)
theorem greatest0 (is : List Int) : greatest 0 (0 :: is) = greatest 0 is := rfl
theorem allS_len : ∀ (xs : List Int) (S : List (List Int)), (allS xs S).length = S.length * 2 ^ xs.length
  | [], S => by simp [allS]
  | x :: xs, S => by
    show (allS xs _).length = _
    rw [allS_len xs, List.length_append, List.length_map, List.length_cons, Nat.pow_succ, ← Nat.mul_two, Nat.mul_assoc, Nat.mul_comm 2]
theorem moved_run {pg : Pg} {cf : CF} {cs : List (Int × Int)} {μ : Store} (hl : cs.length ≤ 3) : runF pg cf ⟨6, 1, b48⟩ [.tup (cs.map prI)] μ = .ok (.int (movedV (cs.map (·.2)))) μ := by
  have hz := sizeLine_eq
  have hp8 : 2 ^ cs.length ≤ 8 := by
    have : cs.length = 0 ∨ cs.length = 1 ∨ cs.length = 2 ∨ cs.length = 3 := by omega
    rcases this with h | h | h | h <;> rw [h] <;> decide
  refine runF_ret (σ := [.val (.tup (cs.map prI)), .emp, .emp, .emp, .emp, .emp]) rfl rfl ?_
  have e0 := comp_fm (pg := pg) (cf := cf) (e := .ix (.v 1) (.int 1)) (it := .seq (.v 0)) (i := 1) (σ := [.val (.tup (cs.map prI)), .emp, .emp, .emp, .emp, .emp]) (μ := μ) (cs := cs) (m := prI) (co := .nil) (g := fun _ => true) (f := fun p => .int p.2) (by simp) (it_seq (d := .tup (cs.map prI)) rfl (.inl rfl)) (by omega) fun p hp => ⟨rfl, fun _ => rfl⟩
  have ef : (cs.filter fun _ => true).map (fun p => D.int p.2) = (cs.map (·.2)).map .int := by
    rw [List.filter_eq_self.mpr fun _ _ => rfl, List.map_map]
    rfl
  rw [ef] at e0
  have lp : (cs.map (·.2)).length = cs.length := List.length_map _
  have hlp : (cs.map (·.2)).length ≤ 3 := by omega
  unfold movedV
  generalize cs.map (·.2) = ps at *
  generalize cs.map prI = CS at *
  have s0 : evS pg cf (.par 2 3 (.l (.disp (.cons (.lst .fz (.disp .nil)) .nil))) (.l (.comp (.ix (.v 1) (.int 1)) (.v 1) (.seq (.v 0)) .nil))) [.val (.tup CS), .emp, .emp, .emp, .emp, .emp] μ = .next [.val (.tup CS), .emp, .own (subsD [[]]), .own (ps.map .int), .emp, .emp] μ := by
    generalize IL.comp (.ix (.v 1) (.int 1)) (.v 1) (.seq (.v 0)) .nil = L at e0 ⊢
    simp [evS, evV, evL, evE, evEs, e0, subsD]
  obtain ⟨t4, e2⟩ := mov_turns (pg := pg) (cf := cf) (μ := μ) (s0 := .val (.tup CS)) (s3 := .val (.lst (ps.map .int))) ps [[]] .emp (by rw [lp]; simpa using Nat.le_trans hp8 (by decide)) (by simp; omega)
  have s2 : evS pg cf (.forr (.v 4) (.seq (.v 3)) movB) [.val (.tup CS), .emp, .own (subsD [[]]), .val (.lst (ps.map .int)), .emp, .emp] μ = .next [.val (.tup CS), .emp, .own (subsD (allS ps [[]])), .val (.lst (ps.map .int)), t4, .emp] μ := by
    unfold evS
    rw [it_seq (d := .lst (ps.map .int)) (ds := ps.map .int) rfl (.inr rfl), ok_st]
    exact e2
  have hL := allS_len ps [[]]
  obtain ⟨r, hr⟩ := allS_hd ps [[]] [] rfl
  have e3 := comp_fm (pg := pg) (cf := cf) (e := .bi .len (.cons (.v 5) .nil)) (it := .seq (.v 2)) (i := 5) (σ := [.val (.tup CS), .emp, .own (subsD (allS ps [[]])), .val (.lst (ps.map .int)), t4, .emp]) (μ := μ) (cs := allS ps [[]]) (m := fun k => .lst (k.map .int)) (co := .cons (.cmp .Eq (.v 5) (.lst .fz (.sorti (.v 5)))) .nil) (g := sortedB) (f := fun k => .int (k.length : Nat)) (by simp) (it_seq (d := .lst (subsD (allS ps [[]]))) rfl (.inr rfl)) (by rw [hL, lp]; simp; omega) fun k hk => by
    have q := eq_ints (μ := μ) k (k.mergeSort fun a b => decide (a ≤ b))
    have el : evL pg cf (.sorti (.v 5)) [.val (.tup CS), .emp, .own (subsD (allS ps [[]])), .val (.lst (ps.map .int)), t4, .val (.lst (k.map .int))] μ = .ok ((k.mergeSort fun a b => decide (a ≤ b)).map .int) μ := by
      unfold evL
      show (Res.ok (D.lst (k.map .int)) μ).bind _ = _
      rw [ok_bind]
      have hv : (lview μ (.lst (k.map .int))).bind intsD = some k := intsD_map k
      rw [hv]
    refine ⟨evTs_one ?_, fun _ => ?_⟩
    · show (evE pg cf true (.cmp .Eq (.v 5) (.lst .fz (.sorti (.v 5)))) [.val (.tup CS), .emp, .own (subsD (allS ps [[]])), .val (.lst (ps.map .int)), t4, .val (.lst (k.map .int))] μ) = _
      have e5 : evE pg cf true (.v 5) [.val (.tup CS), .emp, .own (subsD (allS ps [[]])), .val (.lst (ps.map .int)), t4, .val (.lst (k.map .int))] μ = .ok (.lst (k.map .int)) μ := rfl
      have e6 := lst_eval (o := true) el
      generalize IE.lst .fz (.sorti (.v 5)) = M at e6 ⊢
      unfold evE
      rw [e5, ok_bind, e6, ok_bind, q]
      rfl
    · show evE pg cf false (.bi .len (.cons (.v 5) .nil)) [.val (.tup CS), .emp, .own (subsD (allS ps [[]])), .val (.lst (ps.map .int)), t4, .val (.lst (k.map .int))] μ = _
      show Res.of (some (D.int (k.map D.int).length)) μ = _
      rw [List.length_map]
      rfl
  have em : ((allS ps [[]]).filter sortedB).map (fun k => D.int (k.length : Nat)) = (lensS (allS ps [[]])).map .int := by
    unfold lensS
    rw [List.map_map]
    rfl
  rw [em] at e3
  have hh : ∃ is, lensS (allS ps [[]]) = 0 :: is := by
    rw [hr]
    refine ⟨lensS r, ?_⟩
    unfold lensS
    rw [List.filter_cons_of_pos (by simp [sortedB])]
    rfl
  obtain ⟨is, his⟩ := hh
  rw [his] at e3 ⊢
  rw [greatest0]
  have mx : evE pg cf false (.bi .max (.cons (.lst .fz (.comp (.bi .len (.cons (.v 5) .nil)) (.v 5) (.seq (.v 2)) (.cons (.cmp .Eq (.v 5) (.lst .fz (.sorti (.v 5)))) .nil))) .nil)) [.val (.tup CS), .emp, .own (subsD (allS ps [[]])), .val (.lst (ps.map .int)), t4, .emp] μ = .ok (.int (greatest 0 is)) μ := by
    generalize IL.comp (.bi .len (.cons (.v 5) .nil)) (.v 5) (.seq (.v 2)) (.cons (.cmp .Eq (.v 5) (.lst .fz (.sorti (.v 5)))) .nil) = L at e3 ⊢
    show ((evE pg cf true (.lst .fz L) _ μ).bind _).bind _ = _
    rw [lst_eval e3]
    have e : intsD ((0 :: is).map .int) = some (0 :: is) := intsD_map (0 :: is)
    show Res.of (((some ((0 :: is).map D.int)).bind intsD).bind _) μ = _
    rw [Option.bind_some, e]
    rfl
  rw [show b48 = .cons (.par 2 3 (.l (.disp (.cons (.lst .fz (.disp .nil)) .nil))) (.l (.comp (.ix (.v 1) (.int 1)) (.v 1) (.seq (.v 0)) .nil))) (.cons (.frz 3) (.cons (.forr (.v 4) (.seq (.v 3)) movB) (.cons (.ret (.bin .Sub (.bi .len (.cons (.v 3) .nil)) (.bi .max (.cons (.lst .fz (.comp (.bi .len (.cons (.v 5) .nil)) (.v 5) (.seq (.v 2)) (.cons (.cmp .Eq (.v 5) (.lst .fz (.sorti (.v 5)))) .nil))) .nil)))) .nil))) from rfl]
  rw [evB_cons, s0, next_bind, evB_cons]
  show (SR.next [.val (.tup CS), .emp, .own (subsD [[]]), .val (.lst (ps.map .int)), .emp, .emp] μ).bind _ = _
  rw [next_bind, evB_cons, s2, next_bind]
  generalize IE.bi .max (.cons (.lst .fz (.comp (.bi .len (.cons (.v 5) .nil)) (.v 5) (.seq (.v 2)) (.cons (.cmp .Eq (.v 5) (.lst .fz (.sorti (.v 5)))) .nil))) .nil) = M at mx ⊢
  simp [evB, evS, evE, evEs, rdO, mx]
/-- the law's count of moves is the program's -/
theorem sortedB_pw (k : List Int) : sortedB k = decide (k.Pairwise (· ≤ ·)) := by
  refine decide_eq_decide.mpr ⟨fun h => ?_, fun h => ?_⟩
  · have so := List.pairwise_mergeSort (le := fun a b : Int => decide (a ≤ b)) (fun a b c h1 h2 => by simp at *; omega) (fun a b => by simp; omega) k
    rw [← h] at so
    exact so.imp fun h => by simpa using h
  · exact sorted_perm (List.Perm.refl _) h
theorem moved_eq {ps : List Int} (hl : ps.length ≤ 3) (nd : ps.Nodup) : movedV ps = ps.length - rise ps := by
  have key : greatest 0 (lensS (allS ps [[]])) = rise ps := by
    match ps, hl, nd with
    | [], _, _ => simp [allS, lensS, sortedB_pw, rise, riseGo, greatest]
    | [x], _, _ => simp [allS, lensS, sortedB_pw, rise, riseGo, stepR, greatest]
    | [x, y], _, nd =>
      have h : x ≠ y := by simpa using nd
      by_cases h1 : x < y
      · have : x ≤ y := by omega
        simp [allS, lensS, sortedB_pw, rise, riseGo, stepR, greatest, List.range_succ, h1, this]
      · have : ¬ x ≤ y := by omega
        simp [allS, lensS, sortedB_pw, rise, riseGo, stepR, greatest, List.range_succ, h1, this]
    | [x, y, z], _, nd =>
      have h : (x ≠ y ∧ x ≠ z) ∧ y ≠ z := by simpa using nd
      obtain ⟨⟨h12, h13⟩, h23⟩ := h
      by_cases h1 : x < y <;> by_cases h2 : x < z <;> by_cases h3 : y < z
      all_goals first | (exfalso; omega) | skip
      all_goals
        have d1 : (x ≤ y) = (x < y) := propext (by omega)
        have d2 : (x ≤ z) = (x < z) := propext (by omega)
        have d3 : (y ≤ z) = (y < z) := propext (by omega)
        simp [allS, lensS, sortedB_pw, rise, riseGo, stepR, greatest, List.range_succ, d1, d2, d3, h1, h2, h3]
  unfold movedV
  rw [key]
/-! ### _law_price -/
def b2i (b : Bool) : Int := if b then 1 else 0
def inV (B : Bl) (r1 r2 : List D) (p : Int × Int) (rs : List (Int × Int)) : Int := (rs.map fun q => B.cell * b2i (!ceq (gD (rowG r1 q.1) p.1) (gD (rowG r2 q.2) p.2))).sum
def outV (B : Bl) (h1 r1 h2 r2 : List D) (cs rs : List (Int × Int)) : Int := (cs.map fun p => B.nm * b2i (!ceq (gD h1 p.1) (gD h2 p.2)) + inV B r1 r2 p rs).sum
def priceV (B : Bl) (h1 r1 h2 r2 : List D) (cs rs : List (Int × Int)) : Int := B.mv * movedV (cs.map (·.2)) + B.col * ((h1.length : Int) + h2.length) + B.row * ((r1.length : Int) + r2.length) - 2 * (B.col * cs.length + B.row * rs.length) + outV B h1 r1 h2 r2 cs rs
/-- the rows' part -/
def prB : IB := .cons (.par 9 10 (.e (.ix (.fld (.v 0) 1) (.v 11))) (.e (.ix (.fld (.v 1) 1) (.v 12)))) (.cons (.set (.v 6) (.bin .Add (.v 6) (.bin .Mult (.ix (.v 2) (.int 0)) (.bi .int (.cons (.cmp .NotEq (.ix (.v 9) (.v 7)) (.ix (.v 10) (.v 8))) .nil))))) .nil)
def prT (pg : Pg) (cf : CF) : D → Slots → Store → SR := fun x σ1 μ2 => match bindT (.t2 (.v 11) (.v 12)) x σ1 with
  | some σ2 => evB pg cf prB σ2 μ2
  | none => .bad
abbrev Y (TA TB BL AL CS RS : D) (t c d : Int) (s9 s10 s11 s12 : Sl) : Slots := [.val TA, .val TB, .val BL, .val AL, .val CS, .val RS, .val (.int t), .val (.int c), .val (.int d), s9, s10, s11, s12]
theorem b2i_bd (b : Bool) : 0 ≤ b2i b ∧ b2i b ≤ 1 := by cases b <;> decide
theorem pr_turn {pg : Pg} {cf : CF} {TA TB BL AL CS RS : D} {h1 r1 h2 r2 : List D} {cell : Int} {μ : Store} (f1 : fldD μ TA 1 = some (.tup r1)) (f2 : fldD μ TB 1 = some (.tup r2)) (hb : ixD μ BL (.int 0) = some (.int cell)) (t1 : Tb h1 r1) (t2 : Tb h2 r2) {t c d : Int} {q : Int × Int}
    (pc : (0 ≤ c ∧ c < h1.length) ∧ 0 ≤ d ∧ d < h2.length) (pq : (0 ≤ q.1 ∧ q.1 < r1.length) ∧ 0 ≤ q.2 ∧ q.2 < r2.length) (s9 s10 s11 s12 : Sl) :
    prT pg cf (prI q) (Y TA TB BL AL CS RS t c d s9 s10 s11 s12) μ = .next (Y TA TB BL AL CS RS (t + cell * b2i (!ceq (gD (rowG r1 q.1) c) (gD (rowG r2 q.2) d))) c d (.val (.tup (rowG r1 q.1))) (.val (.tup (rowG r2 q.2))) (.val (.int q.1)) (.val (.int q.2))) μ := by
  obtain ⟨e1, l1, o1⟩ := t1.row pq.1.1 pq.1.2
  obtain ⟨e2, l2, o2⟩ := t2.row pq.2.1 pq.2.2
  have a1 := at_get pq.1.1 pq.1.2
  have a2 := at_get pq.2.1 pq.2.2
  rw [e1] at a1
  rw [e2] at a2
  show evB pg cf prB (Y TA TB BL AL CS RS t c d s9 s10 (.val (.int q.1)) (.val (.int q.2))) μ = _
  generalize rowG r1 q.1 = ra at *
  generalize rowG r2 q.2 = rb at *
  have b1 := at_get (ds := ra) pc.1.1 (by omega)
  have b2 := at_get (ds := rb) pc.2.1 (by omega)
  have cc := ck_ne (o1 _ (get_mem (ds := ra) pc.1.1 (by omega))) (o2 _ (get_mem (ds := rb) pc.2.1 (by omega))) μ
  generalize gD ra c = x at *
  generalize gD rb d = y at *
  generalize (!ceq x y) = b at *
  have m : binD .Mult (.int cell) (.int (if b then 1 else 0)) = some (.int (cell * b2i b)) := bin_mul (mulOk_r _ _ (by have := b2i_bd b; unfold b2i at this; omega))
  have s1 : evS pg cf (.par 9 10 (.e (.ix (.fld (.v 0) 1) (.v 11))) (.e (.ix (.fld (.v 1) 1) (.v 12)))) (Y TA TB BL AL CS RS t c d s9 s10 (.val (.int q.1)) (.val (.int q.2))) μ = .next (Y TA TB BL AL CS RS t c d (.val (.tup ra)) (.val (.tup rb)) (.val (.int q.1)) (.val (.int q.2))) μ := by
    simp [evS, evV, evE, rd, f1, f2, a1, a2]
  have s2 : evS pg cf (.set (.v 6) (.bin .Add (.v 6) (.bin .Mult (.ix (.v 2) (.int 0)) (.bi .int (.cons (.cmp .NotEq (.ix (.v 9) (.v 7)) (.ix (.v 10) (.v 8))) .nil))))) (Y TA TB BL AL CS RS t c d (.val (.tup ra)) (.val (.tup rb)) (.val (.int q.1)) (.val (.int q.2))) μ = .next (Y TA TB BL AL CS RS (t + cell * b2i b) c d (.val (.tup ra)) (.val (.tup rb)) (.val (.int q.1)) (.val (.int q.2))) μ := by
    simp only [evS, evE, evEs, rd, rdO, List.getElem?_cons_zero, List.getElem?_cons_succ, if_true, if_false, Bool.false_eq_true, of_some, ok_bind, ok_st, hb, ix_tup, b1, b2, cc, Option.map_some, bi_intb, m, bin_add]
    rfl
  unfold prB
  rw [evB_cons, s1, next_bind, evB_cons, s2, next_bind]
  rfl
theorem pr_turns {pg : Pg} {cf : CF} {TA TB BL AL CS RS : D} {h1 r1 h2 r2 : List D} {B : Bl} {μ : Store} (f1 : fldD μ TA 1 = some (.tup r1)) (f2 : fldD μ TB 1 = some (.tup r2)) (hb : ixD μ BL (.int 0) = some (.int B.cell)) (t1 : Tb h1 r1) (t2 : Tb h2 r2) {c d : Int} (pc : (0 ≤ c ∧ c < h1.length) ∧ 0 ≤ d ∧ d < h2.length) :
    ∀ (rs : List (Int × Int)), Prs r1.length r2.length rs → ∀ (t : Int) (s9 s10 s11 s12 : Sl), ∃ t9 t10 t11 t12, forGo (prT pg cf) (rs.map prI) (Y TA TB BL AL CS RS t c d s9 s10 s11 s12) μ = .next (Y TA TB BL AL CS RS (t + inV B r1 r2 (c, d) rs) c d t9 t10 t11 t12) μ
  | [], _, t, s9, s10, s11, s12 => ⟨s9, s10, s11, s12, by simp [forGo, inV]⟩
  | q :: rs, h, t, s9, s10, s11, s12 => by
    have e := pr_turn (pg := pg) (cf := cf) (AL := AL) (CS := CS) (RS := RS) f1 f2 hb t1 t2 (t := t) pc (h q List.mem_cons_self) s9 s10 s11 s12
    obtain ⟨t9, t10, t11, t12, e2⟩ := pr_turns (pg := pg) (cf := cf) (AL := AL) (CS := CS) (RS := RS) f1 f2 hb t1 t2 pc rs (fun x hx => h x (List.mem_cons_of_mem _ hx)) (t + B.cell * b2i (!ceq (gD (rowG r1 q.1) c) (gD (rowG r2 q.2) d))) (.val (.tup (rowG r1 q.1))) (.val (.tup (rowG r2 q.2))) (.val (.int q.1)) (.val (.int q.2))
    refine ⟨t9, t10, t11, t12, ?_⟩
    rw [List.map_cons, forGo_next e, e2]
    unfold inV
    rw [List.map_cons, List.sum_cons, Int.add_assoc]
/-- the columns' part -/
def pcB : IB := .cons (.par 9 10 (.e (.ix (.fld (.v 0) 0) (.v 7))) (.e (.ix (.fld (.v 1) 0) (.v 8)))) (.cons (.set (.v 6) (.bin .Add (.v 6) (.bin .Mult (.ix (.v 2) (.int 3)) (.bi .int (.cons (.cmp .NotEq (.v 9) (.v 10)) .nil))))) (.cons (.forr (.t2 (.v 11) (.v 12)) (.seq (.v 5)) prB) .nil))
def pcT (pg : Pg) (cf : CF) : D → Slots → Store → SR := fun x σ1 μ2 => match bindT (.t2 (.v 7) (.v 8)) x σ1 with
  | some σ2 => evB pg cf pcB σ2 μ2
  | none => .bad
abbrev Y2 (TA TB BL AL CS RS : D) (t : Int) (s7 s8 s9 s10 s11 s12 : Sl) : Slots := [.val TA, .val TB, .val BL, .val AL, .val CS, .val RS, .val (.int t), s7, s8, s9, s10, s11, s12]
theorem pc_turn {pg : Pg} {cf : CF} {TA TB BL AL CS : D} {h1 r1 h2 r2 : List D} {B : Bl} {rs : List (Int × Int)} {μ : Store} (g1 : fldD μ TA 0 = some (.tup h1)) (g2 : fldD μ TB 0 = some (.tup h2)) (f1 : fldD μ TA 1 = some (.tup r1)) (f2 : fldD μ TB 1 = some (.tup r2)) (hb : ixD μ BL (.int 0) = some (.int B.cell)) (hb3 : ixD μ BL (.int 3) = some (.int B.nm)) (t1 : Tb h1 r1) (t2 : Tb h2 r2) {t : Int} {p : Int × Int}
    (pc : (0 ≤ p.1 ∧ p.1 < h1.length) ∧ 0 ≤ p.2 ∧ p.2 < h2.length) (pr : Prs r1.length r2.length rs) (s7 s8 s9 s10 s11 s12 : Sl) :
    ∃ t7 t8 t9 t10 t11 t12, pcT pg cf (prI p) (Y2 TA TB BL AL CS (.tup (rs.map prI)) t s7 s8 s9 s10 s11 s12) μ = .next (Y2 TA TB BL AL CS (.tup (rs.map prI)) (t + (B.nm * b2i (!ceq (gD h1 p.1) (gD h2 p.2)) + inV B r1 r2 p rs)) t7 t8 t9 t10 t11 t12) μ := by
  have b1 := at_get pc.1.1 pc.1.2
  have b2 := at_get pc.2.1 pc.2.2
  have cc := ck_ne (t1.hd _ (get_mem pc.1.1 pc.1.2)) (t2.hd _ (get_mem pc.2.1 pc.2.2)) μ
  obtain ⟨t9, t10, t11, t12, e⟩ := pr_turns (pg := pg) (cf := cf) (AL := AL) (CS := CS) (RS := .tup (rs.map prI)) f1 f2 hb t1 t2 pc rs pr (t + B.nm * b2i (!ceq (gD h1 p.1) (gD h2 p.2))) (.val (gD h1 p.1)) (.val (gD h2 p.2)) s11 s12
  refine ⟨.val (.int p.1), .val (.int p.2), t9, t10, t11, t12, ?_⟩
  show evB pg cf pcB (Y TA TB BL AL CS (.tup (rs.map prI)) t p.1 p.2 s9 s10 s11 s12) μ = _
  generalize gD h1 p.1 = x at *
  generalize gD h2 p.2 = y at *
  generalize (!ceq x y) = b at *
  have m : binD .Mult (.int B.nm) (.int (if b then 1 else 0)) = some (.int (B.nm * b2i b)) := bin_mul (mulOk_r _ _ (by have := b2i_bd b; unfold b2i at this; omega))
  generalize hRS : rs.map prI = RS at *
  have s1 : evS pg cf (.par 9 10 (.e (.ix (.fld (.v 0) 0) (.v 7))) (.e (.ix (.fld (.v 1) 0) (.v 8)))) (Y TA TB BL AL CS (.tup RS) t p.1 p.2 s9 s10 s11 s12) μ = .next (Y TA TB BL AL CS (.tup RS) t p.1 p.2 (.val x) (.val y) s11 s12) μ := by
    simp [evS, evV, evE, rd, g1, g2, b1, b2]
  have s2 : evS pg cf (.set (.v 6) (.bin .Add (.v 6) (.bin .Mult (.ix (.v 2) (.int 3)) (.bi .int (.cons (.cmp .NotEq (.v 9) (.v 10)) .nil))))) (Y TA TB BL AL CS (.tup RS) t p.1 p.2 (.val x) (.val y) s11 s12) μ = .next (Y TA TB BL AL CS (.tup RS) (t + B.nm * b2i b) p.1 p.2 (.val x) (.val y) s11 s12) μ := by
    simp only [evS, evE, evEs, rd, rdO, List.getElem?_cons_zero, List.getElem?_cons_succ, if_true, if_false, Bool.false_eq_true, of_some, ok_bind, ok_st, hb3, cc, Option.map_some, bi_intb, m, bin_add]
    rfl
  have s3 : evS pg cf (.forr (.t2 (.v 11) (.v 12)) (.seq (.v 5)) prB) (Y TA TB BL AL CS (.tup RS) (t + B.nm * b2i b) p.1 p.2 (.val x) (.val y) s11 s12) μ = .next (Y TA TB BL AL CS (.tup RS) (t + B.nm * b2i b + inV B r1 r2 p rs) p.1 p.2 t9 t10 t11 t12) μ := by
    unfold evS
    rw [it_seq (d := .tup RS) (ds := RS) rfl (.inl rfl), ok_st]
    exact e
  unfold pcB
  rw [evB_cons, s1, next_bind, evB_cons, s2, next_bind, evB_cons, s3, next_bind, Int.add_assoc]
  rfl
theorem pc_turns {pg : Pg} {cf : CF} {TA TB BL AL CS : D} {h1 r1 h2 r2 : List D} {B : Bl} {rs : List (Int × Int)} {μ : Store} (g1 : fldD μ TA 0 = some (.tup h1)) (g2 : fldD μ TB 0 = some (.tup h2)) (f1 : fldD μ TA 1 = some (.tup r1)) (f2 : fldD μ TB 1 = some (.tup r2)) (hb : ixD μ BL (.int 0) = some (.int B.cell)) (hb3 : ixD μ BL (.int 3) = some (.int B.nm)) (t1 : Tb h1 r1) (t2 : Tb h2 r2) (pr : Prs r1.length r2.length rs) :
    ∀ (cs : List (Int × Int)), Prs h1.length h2.length cs → ∀ (t : Int) (s7 s8 s9 s10 s11 s12 : Sl), ∃ t7 t8 t9 t10 t11 t12, forGo (pcT pg cf) (cs.map prI) (Y2 TA TB BL AL CS (.tup (rs.map prI)) t s7 s8 s9 s10 s11 s12) μ = .next (Y2 TA TB BL AL CS (.tup (rs.map prI)) (t + outV B h1 r1 h2 r2 cs rs) t7 t8 t9 t10 t11 t12) μ
  | [], _, t, s7, s8, s9, s10, s11, s12 => ⟨s7, s8, s9, s10, s11, s12, by simp [forGo, outV]⟩
  | p :: cs, h, t, s7, s8, s9, s10, s11, s12 => by
    obtain ⟨u7, u8, u9, u10, u11, u12, e⟩ := pc_turn (pg := pg) (cf := cf) (AL := AL) (CS := CS) g1 g2 f1 f2 hb hb3 t1 t2 (t := t) (h p List.mem_cons_self) pr s7 s8 s9 s10 s11 s12
    obtain ⟨t7, t8, t9, t10, t11, t12, e2⟩ := pc_turns (pg := pg) (cf := cf) (AL := AL) (CS := CS) g1 g2 f1 f2 hb hb3 t1 t2 pr cs (fun x hx => h x (List.mem_cons_of_mem _ hx)) (t + (B.nm * b2i (!ceq (gD h1 p.1) (gD h2 p.2)) + inV B r1 r2 p rs)) u7 u8 u9 u10 u11 u12
    refine ⟨t7, t8, t9, t10, t11, t12, ?_⟩
    rw [List.map_cons, forGo_next e, e2]
    unfold outV
    rw [List.map_cons, List.sum_cons, Int.add_assoc]
end T.Lib
end

section
namespace T.Lib
open PySem PySem.Spec L2 T
section
variable {pg : Pg} {cf : CF} {μ : Store} {TA TB BL AL : D} {CS RS hs gs rs1 rs2 : List D} {s7 s8 s9 s10 s11 s12 s6 : Sl} {t mv MV co ro X Z a b c d : Int}
abbrev W (TA TB BL AL : D) (CS RS : List D) (s6 s7 s8 s9 s10 s11 s12 : Sl) : Slots := [.val TA, .val TB, .val BL, .val AL, .val (.tup CS), .val (.tup RS), s6, s7, s8, s9, s10, s11, s12]
theorem p_1 (h4 : ixD μ BL (.int 4) = some (.int mv)) (e : cf 48 [.tup CS] μ = .ok (.int MV) μ) (m : binD .Mult (.int mv) (.int MV) = some (.int (mv * MV))) :
    evS pg cf (.set (.v 6) (.bin .Mult (.ix (.v 2) (.int 4)) (.call 48 (.cons (.v 4) .nil)))) (W TA TB BL AL CS RS s6 s7 s8 s9 s10 s11 s12) μ = .next (W TA TB BL AL CS RS (.val (.int (mv * MV))) s7 s8 s9 s10 s11 s12) μ := by
  simp only [evS, evE, evEs, rd, rdO, List.getElem?_cons_zero, List.getElem?_cons_succ, if_true, if_false, Bool.false_eq_true, of_some, ok_bind, ok_st, h4, e, m]
  rfl
theorem p_2 (h2 : ixD μ BL (.int 2) = some (.int co)) (g1 : fldD μ TA 0 = some (.tup hs)) (g2 : fldD μ TB 0 = some (.tup gs)) (m : binD .Mult (.int co) (.int ((hs.length : Int) + gs.length)) = some (.int (co * ((hs.length : Int) + gs.length)))) :
    evS pg cf (.set (.v 6) (.bin .Add (.v 6) (.bin .Mult (.ix (.v 2) (.int 2)) (.bin .Add (.bi .len (.cons (.fld (.v 0) 0) .nil)) (.bi .len (.cons (.fld (.v 1) 0) .nil)))))) (W TA TB BL AL CS RS (.val (.int t)) s7 s8 s9 s10 s11 s12) μ = .next (W TA TB BL AL CS RS (.val (.int (t + co * ((hs.length : Int) + gs.length)))) s7 s8 s9 s10 s11 s12) μ := by
  simp only [evS, evE, evEs, rd, rdO, List.getElem?_cons_zero, List.getElem?_cons_succ, if_true, if_false, Bool.false_eq_true, of_some, ok_bind, ok_st, h2, g1, g2, bi_lent, m, bin_add]
  rfl
theorem p_3 (h1 : ixD μ BL (.int 1) = some (.int ro)) (g1 : fldD μ TA 1 = some (.tup rs1)) (g2 : fldD μ TB 1 = some (.tup rs2)) (m : binD .Mult (.int ro) (.int ((rs1.length : Int) + rs2.length)) = some (.int (ro * ((rs1.length : Int) + rs2.length)))) :
    evS pg cf (.set (.v 6) (.bin .Add (.v 6) (.bin .Mult (.ix (.v 2) (.int 1)) (.bin .Add (.bi .len (.cons (.fld (.v 0) 1) .nil)) (.bi .len (.cons (.fld (.v 1) 1) .nil)))))) (W TA TB BL AL CS RS (.val (.int t)) s7 s8 s9 s10 s11 s12) μ = .next (W TA TB BL AL CS RS (.val (.int (t + ro * ((rs1.length : Int) + rs2.length)))) s7 s8 s9 s10 s11 s12) μ := by
  simp only [evS, evE, evEs, rd, rdO, List.getElem?_cons_zero, List.getElem?_cons_succ, if_true, if_false, Bool.false_eq_true, of_some, ok_bind, ok_st, h1, g1, g2, bi_lent, m, bin_add]
  rfl
theorem p_4 (h1 : ixD μ BL (.int 1) = some (.int ro)) (h2 : ixD μ BL (.int 2) = some (.int co)) (m1 : binD .Mult (.int co) (.int (CS.length : Nat)) = some (.int (co * CS.length))) (m2 : binD .Mult (.int ro) (.int (RS.length : Nat)) = some (.int (ro * RS.length))) (m3 : binD .Mult (.int 2) (.int (co * CS.length + ro * RS.length)) = some (.int (2 * (co * CS.length + ro * RS.length)))) :
    evS pg cf (.set (.v 6) (.bin .Sub (.v 6) (.bin .Mult (.int 2) (.bin .Add (.bin .Mult (.ix (.v 2) (.int 2)) (.bi .len (.cons (.v 4) .nil))) (.bin .Mult (.ix (.v 2) (.int 1)) (.bi .len (.cons (.v 5) .nil))))))) (W TA TB BL AL CS RS (.val (.int t)) s7 s8 s9 s10 s11 s12) μ = .next (W TA TB BL AL CS RS (.val (.int (t - 2 * (co * CS.length + ro * RS.length)))) s7 s8 s9 s10 s11 s12) μ := by
  simp only [evS, evE, evEs, rd, rdO, List.getElem?_cons_zero, List.getElem?_cons_succ, if_true, if_false, Bool.false_eq_true, of_some, ok_bind, ok_st, h1, h2, bi_lent, m1, m2, bin_add, m3, bin_sub]
  rfl
end
theorem price_run {pg : Pg} {cf : CF} {h1 r1 h2 r2 : List D} {B : Bl} {cs rs : List (Int × Int)} {μ : Store} (hB : B.ok) (t1 : Tb h1 r1) (t2 : Tb h2 r2) (hc : Prs h1.length h2.length cs) (hr : Prs r1.length r2.length rs)
    (e48 : cf 48 [.tup (cs.map prI)] μ = .ok (.int (movedV (cs.map (·.2)))) μ) : runF pg cf ⟨13, 4, b47⟩ [tabD h1 r1, tabD h2 r2, .lst B.ds, .tup [.tup (cs.map prI), .tup (rs.map prI)]] μ = .ok (.int (priceV B h1 r1 h2 r2 cs rs)) μ := by
  obtain ⟨b1, b2, b3, b4, b5⟩ := hB
  have i0 : ixD μ (.lst B.ds) (.int 0) = some (.int B.cell) := rfl
  have i1 : ixD μ (.lst B.ds) (.int 1) = some (.int B.row) := rfl
  have i2 : ixD μ (.lst B.ds) (.int 2) = some (.int B.col) := rfl
  have i3 : ixD μ (.lst B.ds) (.int 3) = some (.int B.nm) := rfl
  have i4 : ixD μ (.lst B.ds) (.int 4) = some (.int B.mv) := rfl
  have f1 := fld1 (μ := μ) h1 r1
  have f2 := fld1 (μ := μ) h2 r2
  have g1 := fld0 (μ := μ) h1 r1
  have g2 := fld0 (μ := μ) h2 r2
  have mm : ∀ {a b : Int}, 1 ≤ a ∧ a ≤ 50 → binD .Mult (.int a) (.int b) = some (.int (a * b)) := fun {a b} h => bin_mul (mulOk_l _ _ (by omega))
  have lc : (cs.map prI).length = cs.length := List.length_map _
  have lr : (rs.map prI).length = rs.length := List.length_map _
  generalize D.lst B.ds = BL at *
  generalize tabD h1 r1 = TA at *
  generalize tabD h2 r2 = TB at *
  obtain ⟨t7, t8, t9, t10, t11, t12, e5⟩ := pc_turns (pg := pg) (cf := cf) (AL := .tup [.tup (cs.map prI), .tup (rs.map prI)]) (CS := .tup (cs.map prI)) g1 g2 f1 f2 i0 i3 t1 t2 hr cs hc (B.mv * movedV (cs.map (·.2)) + B.col * ((h1.length : Int) + h2.length) + B.row * ((r1.length : Int) + r2.length) - 2 * (B.col * (cs.map prI).length + B.row * (rs.map prI).length)) .emp .emp .emp .emp .emp .emp
  have u1 := p_1 (pg := pg) (cf := cf) (TA := TA) (TB := TB) (AL := .tup [.tup (cs.map prI), .tup (rs.map prI)]) (RS := rs.map prI) (s6 := .emp) (s7 := .emp) (s8 := .emp) (s9 := .emp) (s10 := .emp) (s11 := .emp) (s12 := .emp) i4 e48 (mm b5)
  have u2 := p_2 (pg := pg) (cf := cf) (AL := .tup [.tup (cs.map prI), .tup (rs.map prI)]) (CS := cs.map prI) (RS := rs.map prI) (t := B.mv * movedV (cs.map (·.2))) (s7 := .emp) (s8 := .emp) (s9 := .emp) (s10 := .emp) (s11 := .emp) (s12 := .emp) i2 g1 g2 (mm b3)
  have u3 := p_3 (pg := pg) (cf := cf) (AL := .tup [.tup (cs.map prI), .tup (rs.map prI)]) (CS := cs.map prI) (RS := rs.map prI) (t := B.mv * movedV (cs.map (·.2)) + B.col * ((h1.length : Int) + h2.length)) (s7 := .emp) (s8 := .emp) (s9 := .emp) (s10 := .emp) (s11 := .emp) (s12 := .emp) i1 f1 f2 (mm b2)
  have u4 := p_4 (pg := pg) (cf := cf) (TA := TA) (TB := TB) (AL := .tup [.tup (cs.map prI), .tup (rs.map prI)]) (CS := cs.map prI) (RS := rs.map prI) (t := B.mv * movedV (cs.map (·.2)) + B.col * ((h1.length : Int) + h2.length) + B.row * ((r1.length : Int) + r2.length)) (s7 := .emp) (s8 := .emp) (s9 := .emp) (s10 := .emp) (s11 := .emp) (s12 := .emp) i1 i2 (mm b3) (mm b2) (bin_mul (mulOk_l _ _ (by decide)))
  have hV : priceV B h1 r1 h2 r2 cs rs = (B.mv * movedV (cs.map (·.2)) + B.col * ((h1.length : Int) + h2.length) + B.row * ((r1.length : Int) + r2.length) - 2 * (B.col * (cs.map prI).length + B.row * (rs.map prI).length)) + outV B h1 r1 h2 r2 cs rs := by
    rw [lc, lr]
    rfl
  rw [hV]
  generalize B.mv * movedV (cs.map (·.2)) + B.col * ((h1.length : Int) + h2.length) + B.row * ((r1.length : Int) + r2.length) - 2 * (B.col * (cs.map prI).length + B.row * (rs.map prI).length) = V0 at *
  generalize outV B h1 r1 h2 r2 cs rs = O at *
  generalize cs.map prI = CS at *
  generalize rs.map prI = RS at *
  refine runF_ret (σ := W TA TB BL (.tup [.tup CS, .tup RS]) [] [] .emp .emp .emp .emp .emp .emp .emp |>.set 4 .emp |>.set 5 .emp) rfl rfl ?_
  have s5 : evS pg cf (.forr (.t2 (.v 7) (.v 8)) (.seq (.v 4)) pcB) (W TA TB BL (.tup [.tup CS, .tup RS]) CS RS (.val (.int V0)) .emp .emp .emp .emp .emp .emp) μ = .next (W TA TB BL (.tup [.tup CS, .tup RS]) CS RS (.val (.int (V0 + O))) t7 t8 t9 t10 t11 t12) μ := by
    unfold evS
    rw [it_seq (d := .tup CS) (ds := CS) rfl (.inl rfl), ok_st]
    exact e5
  rw [show b47 = .cons (.set (.t2 (.v 4) (.v 5)) (.v 3)) (.cons (.set (.v 6) (.bin .Mult (.ix (.v 2) (.int 4)) (.call 48 (.cons (.v 4) .nil)))) (.cons (.set (.v 6) (.bin .Add (.v 6) (.bin .Mult (.ix (.v 2) (.int 2)) (.bin .Add (.bi .len (.cons (.fld (.v 0) 0) .nil)) (.bi .len (.cons (.fld (.v 1) 0) .nil)))))) (.cons (.set (.v 6) (.bin .Add (.v 6) (.bin .Mult (.ix (.v 2) (.int 1)) (.bin .Add (.bi .len (.cons (.fld (.v 0) 1) .nil)) (.bi .len (.cons (.fld (.v 1) 1) .nil)))))) (.cons (.set (.v 6) (.bin .Sub (.v 6) (.bin .Mult (.int 2) (.bin .Add (.bin .Mult (.ix (.v 2) (.int 2)) (.bi .len (.cons (.v 4) .nil))) (.bin .Mult (.ix (.v 2) (.int 1)) (.bi .len (.cons (.v 5) .nil))))))) (.cons (.forr (.t2 (.v 7) (.v 8)) (.seq (.v 4)) pcB) (.cons (.ret (.v 6)) .nil)))))) from rfl]
  rw [evB_cons]
  show (SR.next (W TA TB BL (.tup [.tup CS, .tup RS]) CS RS .emp .emp .emp .emp .emp .emp .emp) μ).bind _ = _
  rw [next_bind, evB_cons, u1, next_bind, evB_cons, u2, next_bind, evB_cons, u3, next_bind, evB_cons, u4, next_bind, evB_cons, s5, next_bind]
  rfl
/-! ### both are the same -/
theorem sum_b2i {α : Type} (a : Int) (g : α → Bool) : ∀ l : List α, (l.map fun x => a * b2i (g x)).sum = a * (l.filter g).length
  | [] => by simp
  | x :: l => by
    rw [List.map_cons, List.sum_cons, sum_b2i a g l, List.filter_cons]
    cases g x
    · simp [b2i]
    · simp only [b2i, if_true, List.length_cons]
      rw [Int.natCast_add, Int.mul_add]
      simp
      omega
theorem sum_add {α : Type} (f g : α → Int) : ∀ l : List α, (l.map fun x => f x + g x).sum = (l.map f).sum + (l.map g).sum
  | [] => rfl
  | x :: l => by
    rw [List.map_cons, List.sum_cons, sum_add f g l, List.map_cons, List.map_cons, List.sum_cons, List.sum_cons]
    omega
theorem filt_b2i {α : Type} (g : α → Bool) : ∀ l : List α, ((l.filter g).length : Int) = (l.map fun x => b2i (g x)).sum := fun l => by
  have := sum_b2i 1 g l
  simpa using this.symm
theorem out_eq (B : Bl) (h1 r1 h2 r2 : List D) (rs : List (Int × Int)) : ∀ cs : List (Int × Int), outV B h1 r1 h2 r2 cs rs = B.nm * named h1 h2 cs + B.cell * (rs.map fun q => (unl r1 r2 cs q : Int)).sum
  | [] => by
    have : (rs.map fun q => ((unl r1 r2 [] q : Nat) : Int)).sum = 0 := by
      induction rs with
      | nil => rfl
      | cons q rs ih => rw [List.map_cons, List.sum_cons, ih]; rfl
    rw [this]
    simp [outV, named]
  | p :: cs => by
    have ih := out_eq B h1 r1 h2 r2 rs cs
    have e1 : outV B h1 r1 h2 r2 (p :: cs) rs = B.nm * b2i (!ceq (gD h1 p.1) (gD h2 p.2)) + inV B r1 r2 p rs + outV B h1 r1 h2 r2 cs rs := by
      unfold outV
      rw [List.map_cons, List.sum_cons]
    have e2 : (named h1 h2 (p :: cs) : Int) = b2i (!ceq (gD h1 p.1) (gD h2 p.2)) + named h1 h2 cs := by
      unfold named
      rw [filt_b2i, filt_b2i, List.map_cons, List.sum_cons]
    have e3 : (rs.map fun q => (unl r1 r2 (p :: cs) q : Int)).sum = (rs.map fun q => b2i (!ceq (gD (rowG r1 q.1) p.1) (gD (rowG r2 q.2) p.2))).sum + (rs.map fun q => (unl r1 r2 cs q : Int)).sum := by
      rw [← sum_add]
      congr 1
      refine List.map_congr_left fun q _ => ?_
      unfold unl
      rw [filt_b2i, filt_b2i, List.map_cons, List.sum_cons]
    have e4 : inV B r1 r2 p rs = B.cell * (rs.map fun q => b2i (!ceq (gD (rowG r1 q.1) p.1) (gD (rowG r2 q.2) p.2))).sum := by
      unfold inV
      rw [sum_b2i B.cell (fun q : Int × Int => !ceq (gD (rowG r1 q.1) p.1) (gD (rowG r2 q.2) p.2)), filt_b2i]
    rw [e1, e2, e3, ih, e4, Int.mul_add, Int.mul_add]
    omega
theorem price_eq {B : Bl} {h1 r1 h2 r2 : List D} {cs rs : List (Int × Int)} (hl : cs.length ≤ 3) (nd : (cs.map (·.2)).Nodup) : priceV B h1 r1 h2 r2 cs rs = fullV B h1 r1 h2 r2 cs rs := by
  have hm := moved_eq (ps := cs.map (·.2)) (by rw [List.length_map]; exact hl) nd
  rw [List.length_map] at hm
  unfold priceV fullV colV
  rw [hm, out_eq]
  generalize rise (cs.map (·.2)) = R
  generalize (named h1 h2 cs : Int) = N
  generalize (rs.map fun q => (unl r1 r2 cs q : Int)).sum = U
  generalize (h1.length : Int) + h2.length = H
  generalize (r1.length : Int) + r2.length = K
  generalize (cs.length : Int) = c
  generalize (rs.length : Int) = r
  have q1 : (H - 2 * c) * B.col = B.col * H - 2 * (B.col * c) := by rw [Int.sub_mul, Int.mul_comm H, Int.mul_assoc, Int.mul_comm c]
  have q2 : (K - 2 * r) * B.row = B.row * K - 2 * (B.row * r) := by rw [Int.sub_mul, Int.mul_comm K, Int.mul_assoc, Int.mul_comm r]
  have q3 : (c - R) * B.mv = B.mv * (c - R) := Int.mul_comm _ _
  have q4 : N * B.nm = B.nm * N := Int.mul_comm _ _
  have q5 : U * B.cell = B.cell * U := Int.mul_comm _ _
  rw [q1, q2, q3, q4, q5]
  omega
end T.Lib
end

section
namespace T.Lib
open PySem PySem.Spec L2 T
/-! ### bills, both prices -/
structure Hp5 (pg : Pg) : Prop extends Hc45 pg where
  f46 : pg.fn 46 = some ⟨2, 1, b46⟩
  f47 : pg.fn 47 = some ⟨13, 4, b47⟩
  f48 : pg.fn 48 = some ⟨6, 1, b48⟩
theorem c_bill {pg : Pg} (HS : Hp5 pg) (k : Nat) {n N : Nat} {μ : Store} (p : PotB μ n (N + 5)) : ∃ (B : Bl) (μ' : Store), callI pg (k + 3) 46 [.ref n] μ = .ok (.lst B.ds) μ' ∧ B.ok ∧ PotB μ' n N ∧ Same n μ μ' := by
  have hz := sizeLine_eq
  have ha : AnyOk (callI pg (k + 2)) := @anyOk pg HS.toHs k
  rw [callI_fn HS.f46]
  generalize callI pg (k + 2) = cf at ha
  obtain ⟨ds, μ1, e, l, o, p1, s1⟩ := lc_turns (n := n) (w := 1) (Ok := fun d => ∃ i : Int, d = .int i ∧ 1 ≤ i ∧ i ≤ 50) (step := lcStep pg cf (.call 2 (.cons (.v 0) (.cons (.lst .fz (.disp (.cons (.int 3) (.cons (.int 1) (.cons (.int 2) (.cons (.int 5) (.cons (.int 50) .nil))))))) .nil))) (.v 1) .nil [.val (.ref n), .emp]) (fun x μ N pq => by
    obtain ⟨d, μ', e, h1, h2, h3⟩ := ha (ds := [.int 3, .int 1, .int 2, .int 5, .int 50]) pq (by simp) (by simp)
    refine ⟨d, μ', ?_, ?_, h2, h3⟩
    · have hb : bindT (.v 1) x (wipeS [.val (.ref n), .emp] [1]) = some [.val (.ref n), .val x] := rfl
      unfold lcStep
      simp [Tg.slots, hb, evTs, evE, evEs, evL, rd, e]
    · simp at h1
      rcases h1 with rfl | rfl | rfl | rfl | rfl <;> exact ⟨_, rfl, by decide, by decide⟩) ((List.range 5).map fun k => .int (0 + (k : Nat))) μ N (p.less (by simp))
  have ei : evIt pg cf true (.range1 (.int 5)) [.val (.ref n), .emp] μ = .ok ((List.range 5).map fun k => .int (0 + (k : Nat))) μ := it_range_int (w := 5) rfl (by decide)
  have el : evL pg cf (.comp (.call 2 (.cons (.v 0) (.cons (.lst .fz (.disp (.cons (.int 3) (.cons (.int 1) (.cons (.int 2) (.cons (.int 5) (.cons (.int 50) .nil))))))) .nil))) (.v 1) (.range1 (.int 5)) .nil) [.val (.ref n), .emp] μ = .ok ds μ1 := by
    rw [evL_comp, ei, ok_bind, if_neg (by rw [hz]; simp), e, ok_nox]
  have l5 : ds.length = 5 := by simpa using l
  match ds, l5, o with
  | [a, b, c, d, e], _, o =>
    obtain ⟨i1, rfl, h1⟩ := o a (by simp)
    obtain ⟨i2, rfl, h2⟩ := o b (by simp)
    obtain ⟨i3, rfl, h3⟩ := o c (by simp)
    obtain ⟨i4, rfl, h4⟩ := o d (by simp)
    obtain ⟨i5, rfl, h5⟩ := o e (by simp)
    refine ⟨⟨i1, i2, i3, i4, i5⟩, μ1, runF_ret (σ := [.val (.ref n), .emp]) rfl rfl ?_, ⟨h1, h2, h3, h4, h5⟩, p1, s1⟩
    unfold b46
    generalize IL.comp (.call 2 (.cons (.v 0) (.cons (.lst .fz (.disp (.cons (.int 3) (.cons (.int 1) (.cons (.int 2) (.cons (.int 5) (.cons (.int 50) .nil))))))) .nil))) (.v 1) (.range1 (.int 5)) .nil = L at el ⊢
    simp [evB, evS, evE, el, Bl.ds]
theorem rise_bd {ps : List Int} (hl : ps.length ≤ 3) : 0 ≤ rise ps ∧ rise ps ≤ 3 := by
  match ps, hl with
  | [], _ => decide
  | [x], _ => simp [rise, riseGo, stepR, greatest]
  | [x, y], _ => by_cases h1 : x < y <;> simp [rise, riseGo, stepR, greatest, List.range_succ, h1]
  | [x, y, z], _ => by_cases h1 : x < y <;> by_cases h2 : x < z <;> by_cases h3 : y < z <;> simp [rise, riseGo, stepR, greatest, List.range_succ, h1, h2, h3]
theorem mul_bd {a b A : Int} (h : -A ≤ a ∧ a ≤ A) (hb : 1 ≤ b ∧ b ≤ 50) : -(A * 50) ≤ a * b ∧ a * b ≤ A * 50 := by
  have hA : 0 ≤ A := by omega
  have h1 : a * b ≤ A * b := Int.mul_le_mul_of_nonneg_right h.2 (by omega)
  have h2 : A * b ≤ A * 50 := Int.mul_le_mul_of_nonneg_left hb.2 hA
  have h3 : (-A) * b ≤ a * b := Int.mul_le_mul_of_nonneg_right h.1 (by omega)
  rw [Int.neg_mul] at h3
  omega
theorem sum_bd {α : Type} {f : α → Nat} {b : Nat} : ∀ {l : List α}, (∀ x ∈ l, f x ≤ b) → 0 ≤ (l.map fun x => (f x : Int)).sum ∧ (l.map fun x => (f x : Int)).sum ≤ l.length * b
  | [], _ => by simp
  | x :: l, h => by
    have ih := sum_bd (l := l) fun y hy => h y (List.mem_cons_of_mem _ hy)
    have hx := h x List.mem_cons_self
    rw [List.map_cons, List.sum_cons, List.length_cons, Int.natCast_add, Int.add_mul]
    omega
theorem full_bd {B : Bl} (hB : B.ok) {h1 r1 h2 r2 : List D} {cs rs : List (Int × Int)} (l1 : h1.length ≤ 3) (l2 : h2.length ≤ 3) (l3 : r1.length ≤ 7) (l4 : r2.length ≤ 7) (lc : cs.length ≤ 3) (lr : rs.length ≤ 7) : -100000 ≤ fullV B h1 r1 h2 r2 cs rs ∧ fullV B h1 r1 h2 r2 cs rs ≤ 100000 := by
  obtain ⟨b1, b2, b3, b4, b5⟩ := hB
  have hr := rise_bd (ps := cs.map (·.2)) (by rw [List.length_map]; exact lc)
  have hn : named h1 h2 cs ≤ 3 := Nat.le_trans (List.length_filter_le _ _) lc
  have hu := sum_bd (f := fun q => unl r1 r2 cs q) (b := 3) (l := rs) fun q _ => Nat.le_trans (List.length_filter_le _ _) lc
  have m1 := mul_bd (a := (h1.length : Int) + h2.length - 2 * cs.length) (A := 6) (by omega) b3
  have m2 := mul_bd (a := (named h1 h2 cs : Int)) (A := 3) (by omega) b4
  have m3 := mul_bd (a := (cs.length : Int) - rise (cs.map (·.2))) (A := 3) (by omega) b5
  have m4 := mul_bd (a := (r1.length : Int) + r2.length - 2 * rs.length) (A := 14) (by omega) b2
  have m5 := mul_bd (a := (rs.map fun q => (unl r1 r2 cs q : Int)).sum) (A := 21) (by omega) b1
  unfold fullV colV
  omega
theorem repr_int {i : Int} (h : -100000 ≤ i ∧ i ≤ 100000) (μ : Store) : biD μ .repr [.int i] = some (.str (toString i)) := by
  have hl : i.natAbs.log2 < 1920 := by
    by_cases h0 : i.natAbs = 0
    · rw [h0]
      decide
    · have : i.natAbs.log2 < 17 := (Nat.log2_lt h0).mpr (by omega)
      omega
  show (if i.natAbs.log2 < 1920 then _ else _) = _
  rw [if_pos hl]
/-- an alignment as it is drawn -/
def AlOk (h1 r1 h2 r2 : List D) (d : D) : Prop := ∃ cs rs : List (Int × Int), d = .tup [.tup (cs.map prI), .tup (rs.map prI)] ∧ alD h1.length h2.length r1.length r2.length d = true ∧ cs.length ≤ 3 ∧ rs.length ≤ 6
theorem c_both {pg : Pg} (HS : Hp5 pg) (k : Nat) {h1 r1 h2 r2 : List D} (f1 : Fit h1 r1) (f2 : Fit h2 r2) {B : Bl} (hB : B.ok) {d : D} {μ : Store} (h : AlOk h1 r1 h2 r2 d) : ∃ v : Int, (-100000 ≤ v ∧ v ≤ 100000) ∧ callI pg (k + 7) 37 [tabD h1 r1, tabD h2 r2, cstD B, d] μ = .ok (.int v) μ ∧ callI pg (k + 7) 47 [tabD h1 r1, tabD h2 r2, .lst B.ds, d] μ = .ok (.int v) μ := by
  obtain ⟨cs, rs, rfl, hv, lc, lr⟩ := h
  obtain ⟨p1, p2, n1, _⟩ := al_inv hv
  have a1 := f1.hi
  have a2 := f2.hi
  have a3 := f1.m
  have a4 := f2.m
  refine ⟨fullV B h1 r1 h2 r2 cs rs, full_bd hB a1 a2 (by omega) (by omega) lc (by omega), c_cost HS.toHc k hB f1.tb f2.tb hv (by omega) (by omega), ?_⟩
  have e48 : callI pg (k + 6) 48 [.tup (cs.map prI)] μ = .ok (.int (movedV (cs.map (·.2)))) μ := by
    rw [callI_fn HS.f48]
    exact moved_run lc
  rw [callI_fn HS.f47, price_run hB f1.tb f2.tb p1 p2 e48, price_eq lc n1]
end T.Lib
end

section
namespace T.Lib
open PySem PySem.Spec L2 T
/-! ### _law_matchings -/
def tupP (ps : List (Int × Int)) : D := .tup (ps.map prI)
def freeB (ps : List (Int × Int)) (k : Nat) : Bool := !((ps.map (·.2)).any fun e => e == (k : Int))
def extL (o i : Nat) (ps : List (Int × Int)) : List (List (Int × Int)) := ((List.range o).filter (freeB ps)).map fun k : Nat => ps ++ [((i : Int), (k : Int))]
def stepS (o i : Nat) (S : List (List (Int × Int))) : List (List (Int × Int)) := S ++ S.flatMap (extL o i)
def matchGo (o : Nat) : List Nat → List (List (Int × Int)) → List (List (Int × Int))
  | [], S => S
  | i :: is, S => matchGo o is (stepS o i S)
def matchS (m o : Nat) : List (List (Int × Int)) := matchGo o (List.range m) [[]]
structure MOk (i o : Nat) (ps : List (Int × Int)) : Prop where
  pr : ∀ p ∈ ps, (0 ≤ p.1 ∧ p.1 < i) ∧ 0 ≤ p.2 ∧ p.2 < (o : Int)
  as : (ps.map (·.1)).Pairwise (· < ·)
  nd : (ps.map (·.2)).Nodup
  ln : ps.length ≤ i
theorem MOk.up {i o : Nat} {ps : List (Int × Int)} (h : MOk i o ps) : MOk (i + 1) o ps := ⟨fun p hp => by
  have := h.pr p hp
  omega, h.as, h.nd, by have := h.ln; omega⟩
theorem MOk.ext {i o : Nat} {ps qs : List (Int × Int)} (h : MOk i o ps) (hq : qs ∈ extL o i ps) : MOk (i + 1) o qs := by
  obtain ⟨k, hk, rfl⟩ := List.mem_map.mp hq
  obtain ⟨k1, k2⟩ := List.mem_filter.mp hk
  have k1 := List.mem_range.mp k1
  have k2 : ∀ e ∈ ps.map (·.2), e ≠ (k : Int) := fun e he z => by
    unfold freeB at k2
    rw [Bool.not_eq_true', List.any_eq_false] at k2
    exact k2 e he (by simp [z])
  refine ⟨fun p hp => ?_, ?_, ?_, by have := h.ln; simp; omega⟩
  · rcases List.mem_append.mp hp with hp | hp
    · have := h.pr p hp
      omega
    · simp at hp
      subst hp
      simp
      omega
  · rw [List.map_append, List.pairwise_append]
    refine ⟨h.as, by simp, fun a ha b hb => ?_⟩
    obtain ⟨p, hp, rfl⟩ := List.mem_map.mp ha
    simp at hb
    subst hb
    have := h.pr p hp
    omega
  · rw [List.map_append, List.nodup_append]
    refine ⟨h.nd, by simp, fun a ha b hb => ?_⟩
    simp at hb
    subst hb
    exact k2 a ha
theorem step_ok {o i : Nat} {S : List (List (Int × Int))} (h : ∀ ps ∈ S, MOk i o ps) : ∀ ps ∈ stepS o i S, MOk (i + 1) o ps := fun ps hp => by
  rcases List.mem_append.mp hp with hp | hp
  · exact (h ps hp).up
  · obtain ⟨qs, hq, hp⟩ := List.mem_flatMap.mp hp
    exact (h qs hq).ext hp
theorem ext_len (o i : Nat) (ps : List (Int × Int)) : (extL o i ps).length ≤ o := by
  unfold extL
  rw [List.length_map]
  have := List.length_filter_le (freeB ps) (List.range o)
  rwa [List.length_range] at this
theorem flat_len (o i : Nat) : ∀ S : List (List (Int × Int)), (S.flatMap (extL o i)).length ≤ S.length * o
  | [] => by simp
  | ps :: S => by
    have h1 := ext_len o i ps
    have h2 := flat_len o i S
    rw [List.flatMap_cons, List.length_append, List.length_cons, Nat.succ_mul]
    omega
theorem step_len (o i : Nat) (S : List (List (Int × Int))) (ho : o ≤ 3) : (stepS o i S).length ≤ S.length * 4 := by
  have h := flat_len o i S
  have h2 : S.length * o ≤ S.length * 3 := Nat.mul_le_mul_left _ ho
  unfold stepS
  rw [List.length_append]
  omega
theorem match_ok {o : Nat} : ∀ (n b : Nat) (S : List (List (Int × Int))), (∀ ps ∈ S, MOk b o ps) → ∀ ps ∈ matchGo o (List.range' b n) S, MOk (b + n) o ps
  | 0, b, S, h => h
  | n + 1, b, S, h => by
    rw [List.range'_succ]
    have := match_ok n (b + 1) (stepS o b S) (step_ok h)
    intro ps hp
    have q := this ps hp
    rwa [show b + 1 + n = b + (n + 1) by omega] at q
theorem notin_ints {μ : Store} (is : List Int) (k : Int) : cmpD μ .NotIn (.int k) (.lst (is.map .int)) = some (!is.any fun e => e == k) := by
  have h1 : ∀ is : List Int, (is.map D.int).all flatD = true := fun is => by
    induction is with
    | nil => rfl
    | cons i is ih => rw [List.map_cons, List.all_cons, ih]; rfl
  have h2 : ∀ is : List Int, ((is.map D.int).any fun e => eqFlat e (.int k)) = is.any fun e => e == k := fun is => by
    induction is with
    | nil => rfl
    | cons i is ih => rw [List.map_cons, List.any_cons, List.any_cons, ih]; rfl
  show (inSeq (.int k) (is.map .int)).map (!·) = _
  unfold inSeq
  rw [show flatD (.int k) = true from rfl, h1, Bool.and_self, if_pos rfl, h2]
  rfl
def extB : IB := .cons (.own 7 (.comp (.ix (.v 6) (.int 1)) (.v 6) (.seq (.v 5)) .nil)) (.cons (.ext 4 (.lst .fz (.comp (.bin .Add (.v 5) (.tup (.cons (.tup (.cons (.v 3) (.cons (.v 8) .nil))) .nil))) (.v 8) (.range1 (.v 1)) (.cons (.cmp .NotIn (.v 8) (.v 7)) .nil)))) .nil)
def extT (pg : Pg) (cf : CF) : D → Slots → Store → SR := fun x σ1 μ2 => match bindT (.v 5) x σ1 with
  | some σ2 => evB pg cf extB σ2 μ2
  | none => .bad
abbrev M9 (m o : Nat) (s2 s3 : Sl) (A : List D) (s5 s7 : Sl) : Slots := [.val (.int m), .val (.int o), s2, s3, .own A, s5, .emp, s7, .emp]
theorem ext_turn {pg : Pg} {cf : CF} {m o i : Nat} {ps : List (Int × Int)} {A : List D} {μ : Store} {s2 s5 s7 : Sl} (ho : o ≤ 3) (hl : ps.length ≤ 100) (hA : A.length + 3 ≤ 16777216) : ∃ t7, extT pg cf (tupP ps) (M9 m o s2 (.val (.int i)) A s5 s7) μ = .next (M9 m o s2 (.val (.int i)) (A ++ (extL o i ps).map tupP) (.val (tupP ps)) t7) μ := by
  have hz := sizeLine_eq
  refine ⟨.own ((ps.map (·.2)).map .int), ?_⟩
  show evB pg cf extB (M9 m o s2 (.val (.int i)) A (.val (tupP ps)) s7) μ = _
  have e0 := comp_fm (pg := pg) (cf := cf) (e := .ix (.v 6) (.int 1)) (it := .seq (.v 5)) (i := 6) (σ := M9 m o s2 (.val (.int i)) A (.val (tupP ps)) s7) (μ := μ) (cs := ps) (m := prI) (co := .nil) (g := fun _ => true) (f := fun p => .int p.2) (by simp) (it_seq (d := tupP ps) rfl (.inl rfl)) (by omega) fun p hp => ⟨rfl, fun _ => rfl⟩
  have ef : (ps.filter fun _ => true).map (fun p => D.int p.2) = (ps.map (·.2)).map .int := by
    rw [List.filter_eq_self.mpr fun _ _ => rfl, List.map_map]
    rfl
  rw [ef] at e0
  have s1 : evS pg cf (.own 7 (.comp (.ix (.v 6) (.int 1)) (.v 6) (.seq (.v 5)) .nil)) (M9 m o s2 (.val (.int i)) A (.val (tupP ps)) s7) μ = .next (M9 m o s2 (.val (.int i)) A (.val (tupP ps)) (.own ((ps.map (·.2)).map .int))) μ := by
    unfold evS
    rw [e0]
    rfl
  have ei : evIt pg cf true (.range1 (.v 1)) (M9 m o s2 (.val (.int i)) A (.val (tupP ps)) (.own ((ps.map (·.2)).map .int))) μ = .ok ((List.range o).map fun k => .int (0 + (k : Nat))) μ := it_range1 rfl (by omega) (by omega)
  have e1 := comp_fm (pg := pg) (cf := cf) (e := .bin .Add (.v 5) (.tup (.cons (.tup (.cons (.v 3) (.cons (.v 8) .nil))) .nil))) (i := 8) (co := .cons (.cmp .NotIn (.v 8) (.v 7)) .nil) (g := freeB ps) (f := fun k : Nat => tupP (ps ++ [((i : Int), (k : Int))])) (by simp) ei (by rw [List.length_range]; omega) fun k hk => by
    refine ⟨evTs_one ?_, fun _ => ?_⟩
    · have q := notin_ints (μ := μ) (ps.map (·.2)) (0 + (k : Int))
      have hb : freeB ps k = !((ps.map (·.2)).any fun e => e == 0 + (k : Int)) := by
        unfold freeB
        rw [Int.zero_add]
      rw [hb]
      generalize (!((ps.map (·.2)).any fun e => e == 0 + (k : Int))) = b at q ⊢
      generalize (ps.map (·.2)).map D.int = IS at q ⊢
      simp only [evE, rdO, List.set_cons_succ, List.set_cons_zero, List.getElem?_cons_zero, List.getElem?_cons_succ, if_true, of_some, ok_bind, q, Option.map_some]
    · have q : binD .Add (tupP ps) (.tup [.tup [.int i, .int (0 + (k : Int))]]) = some (tupP (ps ++ [((i : Int), (k : Int))])) := by
        unfold tupP
        rw [bin_tup (by simp; omega), List.map_append, Int.zero_add]
        rfl
      generalize tupP ps = P at q ⊢
      generalize tupP (ps ++ [((i : Int), (k : Int))]) = P2 at q ⊢
      simp only [evE, evEs, rd, List.set_cons_succ, List.set_cons_zero, List.getElem?_cons_zero, List.getElem?_cons_succ, if_false, Bool.false_eq_true, of_some, ok_bind, q]
  have em : ((List.range o).filter (freeB ps)).map (fun k : Nat => tupP (ps ++ [((i : Int), (k : Int))])) = (extL o i ps).map tupP := by
    unfold extL
    rw [List.map_map]
    rfl
  rw [em] at e1
  have hel := ext_len o i ps
  have s2' : evS pg cf (.ext 4 (.lst .fz (.comp (.bin .Add (.v 5) (.tup (.cons (.tup (.cons (.v 3) (.cons (.v 8) .nil))) .nil))) (.v 8) (.range1 (.v 1)) (.cons (.cmp .NotIn (.v 8) (.v 7)) .nil)))) (M9 m o s2 (.val (.int i)) A (.val (tupP ps)) (.own ((ps.map (·.2)).map .int))) μ = .next (M9 m o s2 (.val (.int i)) (A ++ (extL o i ps).map tupP) (.val (tupP ps)) (.own ((ps.map (·.2)).map .int))) μ := by
    have e2 := lst_eval (o := false) e1
    generalize IE.lst .fz (.comp (.bin .Add (.v 5) (.tup (.cons (.tup (.cons (.v 3) (.cons (.v 8) .nil))) .nil))) (.v 8) (.range1 (.v 1)) (.cons (.cmp .NotIn (.v 8) (.v 7)) .nil)) = L at e2 ⊢
    have hle : A.length + ((extL o i ps).map tupP).length ≤ sizeLine := by rw [List.length_map, hz]; omega
    generalize (extL o i ps).map tupP = E at e2 hle ⊢
    unfold evS
    show (evE pg cf false L _ μ).st _ _ = _
    rw [e2, ok_st]
    show (if A.length + E.length ≤ sizeLine then _ else _) = _
    rw [if_pos hle]
    rfl
  unfold extB
  rw [evB_cons, s1, next_bind, evB_cons, s2', next_bind]
  rfl
theorem ext_turns {pg : Pg} {cf : CF} {m o i : Nat} {μ : Store} {s2 : Sl} (ho : o ≤ 3) : ∀ (S : List (List (Int × Int))), (∀ ps ∈ S, ps.length ≤ 100) → ∀ (A : List D) (s5 s7 : Sl), A.length + S.length * 3 ≤ 10000 →
    ∃ t5 t7, forGo (extT pg cf) (S.map tupP) (M9 m o s2 (.val (.int i)) A s5 s7) μ = .next (M9 m o s2 (.val (.int i)) (A ++ (S.flatMap (extL o i)).map tupP) t5 t7) μ
  | [], _, A, s5, s7, _ => ⟨s5, s7, by simp [forGo]⟩
  | ps :: S, h, A, s5, s7, hA => by
    rw [List.length_cons, Nat.succ_mul] at hA
    obtain ⟨t7, e⟩ := ext_turn (pg := pg) (cf := cf) (m := m) (i := i) (A := A) (μ := μ) (s2 := s2) (s5 := s5) (s7 := s7) ho (h ps List.mem_cons_self) (by omega)
    have hel := ext_len o i ps
    obtain ⟨u5, u7, e2⟩ := ext_turns (pg := pg) (cf := cf) (m := m) (i := i) (μ := μ) (s2 := s2) ho S (fun x hx => h x (List.mem_cons_of_mem _ hx)) (A ++ (extL o i ps).map tupP) (.val (tupP ps)) t7 (by rw [List.length_append, List.length_map]; omega)
    refine ⟨u5, u7, ?_⟩
    rw [List.map_cons, forGo_next e, e2, List.flatMap_cons, List.map_append, List.append_assoc]
def roundB : IB := .cons (.own 4 (.listOf (.v 2))) (.cons (.frz 2) (.cons (.forr (.v 5) (.seq (.v 2)) extB) (.cons (.frz 4) (.cons (.set (.v 2) (.v 4)) .nil))))
def roundT (pg : Pg) (cf : CF) : D → Slots → Store → SR := fun x σ1 μ2 => match bindT (.v 3) x σ1 with
  | some σ2 => evB pg cf roundB σ2 μ2
  | none => .bad
abbrev N9 (m o : Nat) (s2 s3 s4 s5 s7 : Sl) : Slots := [.val (.int m), .val (.int o), s2, s3, s4, s5, .emp, s7, .emp]
theorem round_turn {pg : Pg} {cf : CF} {m o i : Nat} {S : List (List (Int × Int))} {μ : Store} {s2 s3 s4 s5 s7 : Sl} (ho : o ≤ 3) (hS : ∀ ps ∈ S, ps.length ≤ 100) (hl : S.length ≤ 1000) (h2 : s2 = .own (S.map tupP) ∨ s2 = .val (.lst (S.map tupP))) :
    ∃ t5 t7, roundT pg cf (.int i) (N9 m o s2 s3 s4 s5 s7) μ = .next (N9 m o (.val (.lst ((stepS o i S).map tupP))) (.val (.int i)) (.val (.lst ((stepS o i S).map tupP))) t5 t7) μ := by
  obtain ⟨t5, t7, e⟩ := ext_turns (pg := pg) (cf := cf) (m := m) (i := i) (μ := μ) (s2 := .val (.lst (S.map tupP))) ho S hS (S.map tupP) s5 s7 (by rw [List.length_map]; omega)
  refine ⟨t5, t7, ?_⟩
  have hm : S.map tupP ++ (S.flatMap (extL o i)).map tupP = (stepS o i S).map tupP := by
    unfold stepS
    rw [List.map_append]
  rw [hm] at e
  show evB pg cf roundB (N9 m o s2 (.val (.int i)) s4 s5 s7) μ = _
  generalize S.map tupP = SD at *
  generalize (stepS o i S).map tupP = SE at *
  have r1 : evS pg cf (.own 4 (.listOf (.v 2))) (N9 m o s2 (.val (.int i)) s4 s5 s7) μ = .next (N9 m o s2 (.val (.int i)) (.own SD) s5 s7) μ := by
    rcases h2 with rfl | rfl <;> rfl
  have r2 : evS pg cf (.frz 2) (N9 m o s2 (.val (.int i)) (.own SD) s5 s7) μ = .next (N9 m o (.val (.lst SD)) (.val (.int i)) (.own SD) s5 s7) μ := by
    rcases h2 with rfl | rfl <;> rfl
  have r3 : evS pg cf (.forr (.v 5) (.seq (.v 2)) extB) (N9 m o (.val (.lst SD)) (.val (.int i)) (.own SD) s5 s7) μ = .next (N9 m o (.val (.lst SD)) (.val (.int i)) (.own SE) t5 t7) μ := by
    unfold evS
    rw [it_seq (d := .lst SD) (ds := SD) rfl (.inr rfl), ok_st]
    exact e
  unfold roundB
  rw [evB_cons, r1, next_bind, evB_cons, r2, next_bind, evB_cons, r3, next_bind]
  rfl
theorem round_turns {pg : Pg} {cf : CF} {m o : Nat} {μ : Store} (ho : o ≤ 3) : ∀ (n b : Nat) (S : List (List (Int × Int))) (s2 s3 s4 s5 s7 : Sl), (∀ ps ∈ S, MOk b o ps) → b + n ≤ 3 → S.length * 4 ^ n ≤ 1000 → (s2 = .own (S.map tupP) ∨ s2 = .val (.lst (S.map tupP))) →
    ∃ t2 t3 t4 t5 t7, forGo (roundT pg cf) ((List.range' b n).map fun k => .int (k : Nat)) (N9 m o s2 s3 s4 s5 s7) μ = .next (N9 m o t2 t3 t4 t5 t7) μ ∧ (0 < n → t2 = .val (.lst ((matchGo o (List.range' b n) S).map tupP)))
  | 0, b, S, s2, s3, s4, s5, s7, _, _, _, _ => ⟨s2, s3, s4, s5, s7, rfl, fun h => absurd h (by decide)⟩
  | n + 1, b, S, s2, s3, s4, s5, s7, hS, hb, hl, h2 => by
    have hp : 1 ≤ 4 ^ n := Nat.one_le_pow _ _ (by decide)
    rw [Nat.pow_succ] at hl
    have hl1 : S.length ≤ S.length * (4 ^ n * 4) := Nat.le_mul_of_pos_right _ (by omega)
    obtain ⟨t5, t7, e⟩ := round_turn (pg := pg) (cf := cf) (m := m) (i := b) (S := S) (μ := μ) (s3 := s3) (s4 := s4) (s5 := s5) (s7 := s7) ho (fun ps hps => by have := (hS ps hps).ln; omega) (by omega) h2
    have hlen := step_len o b S ho
    have hl2 : (stepS o b S).length * 4 ^ n ≤ 1000 := by
      have : (stepS o b S).length * 4 ^ n ≤ S.length * 4 * 4 ^ n := Nat.mul_le_mul_right _ hlen
      rw [Nat.mul_assoc, Nat.mul_comm 4] at this
      omega
    obtain ⟨u2, u3, u4, u5, u7, e2, h⟩ := round_turns (pg := pg) (cf := cf) (m := m) (μ := μ) ho n (b + 1) (stepS o b S) (.val (.lst ((stepS o b S).map tupP))) (.val (.int b)) (.val (.lst ((stepS o b S).map tupP))) t5 t7 (step_ok hS) (by omega) hl2 (.inr rfl)
    refine ⟨u2, u3, u4, u5, u7, ?_, fun _ => ?_⟩
    · rw [List.range'_succ, List.map_cons, forGo_next e]
      exact e2
    · cases n with
      | zero =>
        have e2 : SR.next (N9 m o (.val (.lst ((stepS o b S).map tupP))) (.val (.int b)) (.val (.lst ((stepS o b S).map tupP))) t5 t7) μ = .next (N9 m o u2 u3 u4 u5 u7) μ := e2
        injection e2 with e2 _
        injection e2 with _ e2
        injection e2 with _ e2
        injection e2 with e2 _
        exact e2.symm
      | succ n => exact h (Nat.succ_pos n)
theorem match_run {pg : Pg} {cf : CF} {b49 : IB} (hb : b49 = .cons (.own 2 (.disp (.cons (.tup .nil) .nil))) (.cons (.forr (.v 3) (.range1 (.v 0)) roundB) (.cons (.ret (.v 2)) .nil))) {m o : Nat} {μ : Store} (hm : 1 ≤ m ∧ m ≤ 3) (ho : o ≤ 3) : runF pg cf ⟨9, 2, b49⟩ [.int m, .int o] μ = .ok (.lst ((matchS m o).map tupP)) μ := by
  have h0 : ∀ ps ∈ ([[]] : List (List (Int × Int))), MOk 0 o ps := fun ps hp => by
    simp at hp
    subst hp
    exact ⟨by simp, by simp, by simp, by simp⟩
  have h4 : 4 ^ m ≤ 64 := by
    have : m = 1 ∨ m = 2 ∨ m = 3 := by omega
    rcases this with rfl | rfl | rfl <;> decide
  obtain ⟨t2, t3, t4, t5, t7, e, h⟩ := round_turns (pg := pg) (cf := cf) (m := m) (o := o) (μ := μ) ho m 0 [[]] (.own [.tup []]) .emp .emp .emp .emp h0 (by omega) (by simp; omega) (.inl rfl)
  have h := h (by omega)
  subst h
  subst hb
  refine runF_ret (σ := [.val (.int m), .val (.int o), .emp, .emp, .emp, .emp, .emp, .emp, .emp]) rfl rfl ?_
  have s0 : evS pg cf (.own 2 (.disp (.cons (.tup .nil) .nil))) [.val (.int m), .val (.int o), .emp, .emp, .emp, .emp, .emp, .emp, .emp] μ = .next (N9 m o (.own [.tup []]) .emp .emp .emp .emp) μ := rfl
  have ei : evIt pg cf false (.range1 (.v 0)) (N9 m o (.own [.tup []]) .emp .emp .emp .emp) μ = .ok ((List.range m).map fun k => .int (0 + (k : Nat))) μ := it_range1 rfl (by omega) (by omega)
  have er : ((List.range m).map fun k => D.int (0 + (k : Nat))) = (List.range' 0 m).map fun k => D.int (k : Nat) := by
    rw [List.range_eq_range']
    exact List.map_congr_left fun k _ => by rw [Int.zero_add]
  have s1 : evS pg cf (.forr (.v 3) (.range1 (.v 0)) roundB) (N9 m o (.own [.tup []]) .emp .emp .emp .emp) μ = .next (N9 m o (.val (.lst ((matchGo o (List.range' 0 m) [[]]).map tupP))) t3 t4 t5 t7) μ := by
    unfold evS
    rw [ei, ok_st, er]
    exact e
  rw [evB_cons, s0, next_bind, evB_cons, s1, next_bind]
  unfold matchS
  rw [List.range_eq_range']
  rfl
theorem matchS_ok {m o : Nat} : ∀ ps ∈ matchS m o, MOk m o ps := by
  have h0 : ∀ ps ∈ ([[]] : List (List (Int × Int))), MOk 0 o ps := fun ps hp => by
    simp at hp
    subst hp
    exact ⟨by simp, by simp, by simp, by simp⟩
  have := match_ok m 0 [[]] h0
  unfold matchS
  rw [List.range_eq_range']
  rwa [Nat.zero_add] at this
theorem MOk.ps {m o : Nat} {ps : List (Int × Int)} (h : MOk m o ps) : psD m o (tupP ps) = true := by
  show ((ps.map prI).all (prD m o) && okP (ps.map prI)) = true
  rw [Bool.and_eq_true]
  constructor
  · rw [List.all_eq_true]
    intro d hd
    obtain ⟨p, hp, rfl⟩ := List.mem_map.mp hd
    have q := h.pr p hp
    show ((decide ((0 : Int) ≤ p.1) && decide (p.1 < (m : Int))) && (decide ((0 : Int) ≤ p.2) && decide (p.2 < (o : Int)))) = true
    simp
    omega
  · show (decide _ && decide _) = true
    have f1 : (ps.map prI).map fstD = ps.map (·.1) := by
      rw [List.map_map]
      rfl
    have f2 : (ps.map prI).map sndD = ps.map (·.2) := by
      rw [List.map_map]
      rfl
    rw [f1, f2, Bool.and_eq_true, decide_eq_true_eq, decide_eq_true_eq]
    exact ⟨h.as, h.nd⟩
end T.Lib
end

section
namespace T.Lib
open PySem PySem.Spec L2 T
theorem c_bill2 {pg : Pg} (HS : Hs pg) (h46 : pg.fn 46 = some ⟨2, 1, b46⟩) (k : Nat) {n N : Nat} {μ : Store} (p : PotB μ n (N + 5)) : ∃ (B : Bl) (μ' : Store), callI pg (k + 3) 46 [.ref n] μ = .ok (.lst B.ds) μ' ∧ B.ok ∧ PotB μ' n N ∧ Same n μ μ' := by
  have hz := sizeLine_eq
  have ha : AnyOk (callI pg (k + 2)) := @anyOk pg HS k
  rw [callI_fn h46]
  generalize callI pg (k + 2) = cf at ha
  obtain ⟨ds, μ1, e, l, o, p1, s1⟩ := lc_turns (n := n) (w := 1) (Ok := fun d => ∃ i : Int, d = .int i ∧ 1 ≤ i ∧ i ≤ 50) (step := lcStep pg cf (.call 2 (.cons (.v 0) (.cons (.lst .fz (.disp (.cons (.int 3) (.cons (.int 1) (.cons (.int 2) (.cons (.int 5) (.cons (.int 50) .nil))))))) .nil))) (.v 1) .nil [.val (.ref n), .emp]) (fun x μ N pq => by
    obtain ⟨d, μ', e, h1, h2, h3⟩ := ha (ds := [.int 3, .int 1, .int 2, .int 5, .int 50]) pq (by simp) (by simp)
    refine ⟨d, μ', ?_, ?_, h2, h3⟩
    · have hb : bindT (.v 1) x (wipeS [.val (.ref n), .emp] [1]) = some [.val (.ref n), .val x] := rfl
      unfold lcStep
      simp [Tg.slots, hb, evTs, evE, evEs, evL, rd, e]
    · simp at h1
      rcases h1 with rfl | rfl | rfl | rfl | rfl <;> exact ⟨_, rfl, by decide, by decide⟩) ((List.range 5).map fun k => .int (0 + (k : Nat))) μ N (p.less (by simp))
  have ei : evIt pg cf true (.range1 (.int 5)) [.val (.ref n), .emp] μ = .ok ((List.range 5).map fun k => .int (0 + (k : Nat))) μ := it_range_int (w := 5) rfl (by decide)
  have el : evL pg cf (.comp (.call 2 (.cons (.v 0) (.cons (.lst .fz (.disp (.cons (.int 3) (.cons (.int 1) (.cons (.int 2) (.cons (.int 5) (.cons (.int 50) .nil))))))) .nil))) (.v 1) (.range1 (.int 5)) .nil) [.val (.ref n), .emp] μ = .ok ds μ1 := by
    rw [evL_comp, ei, ok_bind, if_neg (by rw [hz]; simp), e, ok_nox]
  have l5 : ds.length = 5 := by simpa using l
  match ds, l5, o with
  | [a, b, c, d, e], _, o =>
    obtain ⟨i1, rfl, h1⟩ := o a (by simp)
    obtain ⟨i2, rfl, h2⟩ := o b (by simp)
    obtain ⟨i3, rfl, h3⟩ := o c (by simp)
    obtain ⟨i4, rfl, h4⟩ := o d (by simp)
    obtain ⟨i5, rfl, h5⟩ := o e (by simp)
    refine ⟨⟨i1, i2, i3, i4, i5⟩, μ1, runF_ret (σ := [.val (.ref n), .emp]) rfl rfl ?_, ⟨h1, h2, h3, h4, h5⟩, p1, s1⟩
    unfold b46
    generalize IL.comp (.call 2 (.cons (.v 0) (.cons (.lst .fz (.disp (.cons (.int 3) (.cons (.int 1) (.cons (.int 2) (.cons (.int 5) (.cons (.int 50) .nil))))))) .nil))) (.v 1) (.range1 (.int 5)) .nil = L at el ⊢
    simp [evB, evS, evE, el, Bl.ds]

/-! ### matchings, any number of rounds -/
theorem match_run2 {pg : Pg} {cf : CF} {b49 : IB} (hb : b49 = .cons (.own 2 (.disp (.cons (.tup .nil) .nil))) (.cons (.forr (.v 3) (.range1 (.v 0)) roundB) (.cons (.frz 2) (.cons (.ret (.v 2)) .nil)))) {m o : Nat} {μ : Store} (hm : m ≤ 3) (ho : o ≤ 3) : runF pg cf ⟨9, 2, b49⟩ [.int m, .int o] μ = .ok (.lst ((matchS m o).map tupP)) μ := by
  have h0 : ∀ ps ∈ ([[]] : List (List (Int × Int))), MOk 0 o ps := fun ps hp => by
    simp at hp
    subst hp
    exact ⟨by simp, by simp, by simp, by simp⟩
  have h4 : 4 ^ m ≤ 64 := by
    have : m = 0 ∨ m = 1 ∨ m = 2 ∨ m = 3 := by omega
    rcases this with rfl | rfl | rfl | rfl <;> decide
  subst hb
  refine runF_ret (σ := [.val (.int m), .val (.int o), .emp, .emp, .emp, .emp, .emp, .emp, .emp]) rfl rfl ?_
  have s0 : evS pg cf (.own 2 (.disp (.cons (.tup .nil) .nil))) [.val (.int m), .val (.int o), .emp, .emp, .emp, .emp, .emp, .emp, .emp] μ = .next (N9 m o (.own [.tup []]) .emp .emp .emp .emp) μ := rfl
  have ei : evIt pg cf false (.range1 (.v 0)) (N9 m o (.own [.tup []]) .emp .emp .emp .emp) μ = .ok ((List.range m).map fun k => .int (0 + (k : Nat))) μ := it_range1 rfl (by omega) (by omega)
  have er : ((List.range m).map fun k => D.int (0 + (k : Nat))) = (List.range' 0 m).map fun k => D.int (k : Nat) := by
    rw [List.range_eq_range']
    exact List.map_congr_left fun k _ => by rw [Int.zero_add]
  have key : ∀ (t2 t3 t4 t5 t7 : Sl), evS pg cf (.forr (.v 3) (.range1 (.v 0)) roundB) (N9 m o (.own [.tup []]) .emp .emp .emp .emp) μ = .next (N9 m o t2 t3 t4 t5 t7) μ → (t2 = .own ((matchS m o).map tupP) ∨ t2 = .val (.lst ((matchS m o).map tupP))) →
      evB pg cf (.cons (.own 2 (.disp (.cons (.tup .nil) .nil))) (.cons (.forr (.v 3) (.range1 (.v 0)) roundB) (.cons (.frz 2) (.cons (.ret (.v 2)) .nil)))) [.val (.int m), .val (.int o), .emp, .emp, .emp, .emp, .emp, .emp, .emp] μ = .ret (.lst ((matchS m o).map tupP)) μ := fun t2 t3 t4 t5 t7 s1 h => by
    rw [evB_cons, s0, next_bind, evB_cons, s1, next_bind]
    generalize (matchS m o).map tupP = R at *
    rcases h with rfl | rfl <;> rfl
  cases m with
  | zero =>
    refine key (.own [.tup []]) .emp .emp .emp .emp ?_ (.inl rfl)
    unfold evS
    rw [ei, ok_st]
    rfl
  | succ n =>
    obtain ⟨t2, t3, t4, t5, t7, e, h⟩ := round_turns (pg := pg) (cf := cf) (m := n + 1) (o := o) (μ := μ) ho (n + 1) 0 [[]] (.own [.tup []]) .emp .emp .emp .emp h0 (by omega) (by simp; omega) (.inl rfl)
    refine key t2 t3 t4 t5 t7 ?_ (.inr ?_)
    · unfold evS
      rw [ei, ok_st, er]
      exact e
    · rw [h (by omega)]
      unfold matchS
      rw [List.range_eq_range']
theorem matchS_len {m o : Nat} (hm : m ≤ 3) (ho : o ≤ 3) : (matchS m o).length ≤ 64 := by
  have key : ∀ (is : List Nat) (S : List (List (Int × Int))), (matchGo o is S).length ≤ S.length * 4 ^ is.length := fun is => by
    induction is with
    | nil => intro S; simp [matchGo]
    | cons i is ih =>
      intro S
      have h1 := ih (stepS o i S)
      have h2 : (stepS o i S).length * 4 ^ is.length ≤ S.length * 4 * 4 ^ is.length := Nat.mul_le_mul_right _ (step_len o i S ho)
      rw [List.length_cons, Nat.pow_succ, Nat.mul_comm (4 ^ is.length) 4, ← Nat.mul_assoc]
      exact Nat.le_trans h1 h2
  have h := key (List.range m) [[]]
  rw [List.length_range] at h
  have h4 : 4 ^ m ≤ 64 := by
    have : m = 0 ∨ m = 1 ∨ m = 2 ∨ m = 3 := by omega
    rcases this with rfl | rfl | rfl | rfl <;> decide
  unfold matchS
  simp at h ⊢
  omega
/-! ### an alignment turned about -/
def swp (p : Int × Int) : Int × Int := (p.2, p.1)
def turn (ps : List (Int × Int)) : List (Int × Int) := (ps.map swp).mergeSort lexLe
theorem turn_perm (ps : List (Int × Int)) : (turn ps).Perm (ps.map swp) := List.mergeSort_perm _ _
theorem turn_srt (ps : List (Int × Int)) : (turn ps).Pairwise fun a b => lexLe a b = true := by
  refine List.pairwise_mergeSort (fun a b c h1 h2 => ?_) (fun a b => ?_) _
  · have h1 := lexLe_iff.mp h1
    have h2 := lexLe_iff.mp h2
    exact lexLe_iff.mpr (by omega)
  · rw [Bool.or_eq_true, lexLe_iff, lexLe_iff]
    omega
theorem turn_len (ps : List (Int × Int)) : (turn ps).length = ps.length := by
  rw [(turn_perm ps).length_eq, List.length_map]
/-- as a list of pairs is right -/
structure PsOk (m o : Nat) (ps : List (Int × Int)) : Prop where
  pr : Prs m o ps
  as : (ps.map (·.1)).Pairwise (· < ·)
  nd : (ps.map (·.2)).Nodup
theorem psD_iff {m o : Nat} {ps : List (Int × Int)} : psD m o (tupP ps) = true ↔ PsOk m o ps := by
  have f1 : (ps.map prI).map fstD = ps.map (·.1) := by
    rw [List.map_map]
    rfl
  have f2 : (ps.map prI).map sndD = ps.map (·.2) := by
    rw [List.map_map]
    rfl
  show ((ps.map prI).all (prD m o) && (decide _ && decide _)) = true ↔ _
  rw [f1, f2, Bool.and_eq_true, Bool.and_eq_true, decide_eq_true_eq, decide_eq_true_eq]
  constructor
  · rintro ⟨h1, h2, h3⟩
    refine ⟨fun p hp => ?_, h2, h3⟩
    obtain ⟨_, q1, q2, q3, q4⟩ := prD_inv (List.all_eq_true.mp h1 _ (List.mem_map_of_mem (f := prI) hp))
    exact ⟨⟨q1, q2⟩, q3, q4⟩
  · rintro ⟨h1, h2, h3⟩
    refine ⟨List.all_eq_true.mpr fun d hd => ?_, h2, h3⟩
    obtain ⟨p, hp, rfl⟩ := List.mem_map.mp hd
    have q := h1 p hp
    show ((decide ((0 : Int) ≤ p.1) && decide (p.1 < (m : Int))) && (decide ((0 : Int) ≤ p.2) && decide (p.2 < (o : Int)))) = true
    simp
    omega
theorem MOk.psok {m o : Nat} {ps : List (Int × Int)} (h : MOk m o ps) : PsOk m o ps := ⟨fun p hp => by
  have := h.pr p hp
  omega, h.as, h.nd⟩
theorem PsOk.turn {m o : Nat} {ps : List (Int × Int)} (h : PsOk m o ps) : PsOk o m (turn ps) := by
  have hp := turn_perm ps
  refine ⟨fun p hpm => ?_, ?_, ?_⟩
  · obtain ⟨q, hq, rfl⟩ := List.mem_map.mp (hp.mem_iff.mp hpm)
    have := h.pr q hq
    exact ⟨this.2, this.1⟩
  · have nd : ((T.Lib.turn ps).map (·.1)).Nodup := by
      have e : (ps.map swp).map (·.1) = ps.map (·.2) := by
        rw [List.map_map]
        rfl
      rw [(hp.map (·.1)).nodup_iff, e]
      exact h.nd
    have so : ((T.Lib.turn ps).map (·.1)).Pairwise (· ≤ ·) := List.pairwise_map.mpr ((turn_srt ps).imp fun hx => by
      have := lexLe_iff.mp hx
      omega)
    exact (so.and nd).imp fun ⟨a, b⟩ => by omega
  · have e : (ps.map swp).map (·.2) = ps.map (·.1) := by
      rw [List.map_map]
      rfl
    rw [(hp.map (·.2)).nodup_iff, e]
    exact h.as.imp fun hx => by omega
theorem ceq_comm {a b : D} (ha : CkD a) (hb : CkD b) : ceq a b = ceq b a := by
  rcases ha with rfl | ⟨i, rfl⟩ | ⟨x, rfl⟩ <;> rcases hb with rfl | ⟨j, rfl⟩ | ⟨y, rfl⟩ <;> first | rfl | skip
  · show decide (i = j) = decide (j = i)
    exact decide_eq_decide.mpr eq_comm
  · show decide (x = y) = decide (y = x)
    exact decide_eq_decide.mpr eq_comm
theorem filt_perm {α : Type} {l m : List α} (h : l.Perm m) (g : α → Bool) : (l.filter g).length = (m.filter g).length := (h.filter g).length_eq
theorem named_turn {h1 r1 h2 r2 : List D} (t1 : Tb h1 r1) (t2 : Tb h2 r2) {cs : List (Int × Int)} (hc : Prs h1.length h2.length cs) : named h2 h1 (turn cs) = named h1 h2 cs := by
  unfold named
  rw [filt_perm (turn_perm cs), List.filter_map, List.length_map]
  congr 1
  refine List.filter_congr fun p hp => ?_
  obtain ⟨q1, q2⟩ := hc p hp
  show (!ceq (gD h2 p.2) (gD h1 p.1)) = _
  rw [ceq_comm (t2.hd _ (get_mem q2.1 q2.2)) (t1.hd _ (get_mem q1.1 q1.2))]
theorem unl_turn {h1 r1 h2 r2 : List D} (t1 : Tb h1 r1) (t2 : Tb h2 r2) {cs : List (Int × Int)} (hc : Prs h1.length h2.length cs) {q : Int × Int} (q1 : 0 ≤ q.1 ∧ q.1 < r1.length) (q2 : 0 ≤ q.2 ∧ q.2 < r2.length) : unl r2 r1 (turn cs) (swp q) = unl r1 r2 cs q := by
  obtain ⟨_, l1, o1⟩ := t1.row q1.1 q1.2
  obtain ⟨_, l2, o2⟩ := t2.row q2.1 q2.2
  unfold unl
  rw [filt_perm (turn_perm cs), List.filter_map, List.length_map]
  congr 1
  refine List.filter_congr fun p hp => ?_
  obtain ⟨p1, p2⟩ := hc p hp
  show (!ceq (gD (rowG r2 q.2) p.2) (gD (rowG r1 q.1) p.1)) = _
  rw [ceq_comm (o2 _ (get_mem (ds := rowG r2 q.2) p2.1 (by omega))) (o1 _ (get_mem (ds := rowG r1 q.1) p1.1 (by omega)))]
theorem sum_perm {l m : List Int} (h : l.Perm m) : l.sum = m.sum := by
  induction h with
  | nil => rfl
  | cons x _ ih => rw [List.sum_cons, List.sum_cons, ih]
  | swap x y l => rw [List.sum_cons, List.sum_cons, List.sum_cons, List.sum_cons]; omega
  | trans _ _ ih1 ih2 => rw [ih1, ih2]
theorem turn_is {ps qs : List (Int × Int)} (hp : qs.Perm (ps.map swp)) (hs : qs.Pairwise fun a b => a.1 < b.1) : turn ps = qs := (lex_uniq hp (hs.imp fun h => lexLe_iff.mpr (.inl h))).symm
theorem rise_turn2 {m o : Nat} {ps : List (Int × Int)} (h : PsOk m o ps) (hl : ps.length ≤ 3) : rise ((turn ps).map (·.2)) = rise (ps.map (·.2)) := by
  have ha := h.as
  have hn := h.nd
  match ps, hl with
  | [], _ => rw [turn_is (ps := []) (qs := []) (List.Perm.refl _) List.Pairwise.nil]
  | [(a, b)], _ =>
    rw [turn_is (ps := [(a, b)]) (qs := [(b, a)]) (List.Perm.refl _) (by simp)]
    simp [rise, riseGo, stepR, greatest]
  | [(a, b), (c, d)], _ =>
    have ha : a < c := by simpa using ha
    have hn : b ≠ d := by simpa using hn
    by_cases h1 : b < d
    · rw [turn_is (ps := [(a, b), (c, d)]) (qs := [(b, a), (d, c)]) (List.Perm.refl _) (by simp; omega)]
      simp [rise, riseGo, stepR, greatest, List.range_succ, h1, ha]
    · rw [turn_is (ps := [(a, b), (c, d)]) (qs := [(d, c), (b, a)]) (List.Perm.swap _ _ _) (by simp; omega)]
      have : ¬ c < a := by omega
      simp [rise, riseGo, stepR, greatest, List.range_succ, h1, this]
  | [(a, b), (c, d), (e, f)], _ =>
    have ha : (a < c ∧ a < e) ∧ c < e := by simpa using ha
    have hn : (b ≠ d ∧ b ≠ f) ∧ d ≠ f := by simpa using hn
    obtain ⟨⟨h1, h2⟩, h3⟩ := ha
    obtain ⟨⟨n1, n2⟩, n3⟩ := hn
    have g1 : ¬ c < a := by omega
    have g2 : ¬ e < a := by omega
    have g3 : ¬ e < c := by omega
    have pm : ∀ {x y z : Int × Int}, [x, z, y].Perm [x, y, z] ∧ [y, x, z].Perm [x, y, z] ∧ [y, z, x].Perm [x, y, z] ∧ [z, x, y].Perm [x, y, z] ∧ [z, y, x].Perm [x, y, z] := fun {x y z} => by
      have s1 : [x, z, y].Perm [x, y, z] := (List.Perm.swap _ _ _).cons x
      have s2 : [y, x, z].Perm [x, y, z] := List.Perm.swap _ _ _
      have s3 : [y, z, x].Perm [x, y, z] := ((List.Perm.swap _ _ _).cons y).trans s2
      have s4 : [z, x, y].Perm [x, y, z] := (List.Perm.swap _ _ _).trans s1
      have s5 : [z, y, x].Perm [x, y, z] := ((List.Perm.swap _ _ _).cons z).trans s4
      exact ⟨s1, s2, s3, s4, s5⟩
    obtain ⟨s1, s2, s3, s4, s5⟩ := pm (x := ((b, a) : Int × Int)) (y := (d, c)) (z := (f, e))
    by_cases b1 : b < d <;> by_cases b2 : b < f <;> by_cases b3 : d < f
    all_goals first | (exfalso; omega) | skip
    · rw [turn_is (ps := [(a, b), (c, d), (e, f)]) (qs := [(b, a), (d, c), (f, e)]) (List.Perm.refl _) (by simp; omega)]
      simp [rise, riseGo, stepR, greatest, List.range_succ, b1, b2, b3, h1, h2, h3]
    · rw [turn_is (ps := [(a, b), (c, d), (e, f)]) (qs := [(b, a), (f, e), (d, c)]) s1 (by simp; omega)]
      simp [rise, riseGo, stepR, greatest, List.range_succ, b1, b2, b3, h1, h2, h3, g3]
    · rw [turn_is (ps := [(a, b), (c, d), (e, f)]) (qs := [(f, e), (b, a), (d, c)]) s4 (by simp; omega)]
      simp [rise, riseGo, stepR, greatest, List.range_succ, b1, b2, b3, h1, h2, h3, g2, g3]
    · rw [turn_is (ps := [(a, b), (c, d), (e, f)]) (qs := [(d, c), (b, a), (f, e)]) s2 (by simp; omega)]
      simp [rise, riseGo, stepR, greatest, List.range_succ, b1, b2, b3, h1, h2, h3, g1]
    · rw [turn_is (ps := [(a, b), (c, d), (e, f)]) (qs := [(d, c), (f, e), (b, a)]) s3 (by simp; omega)]
      simp [rise, riseGo, stepR, greatest, List.range_succ, b1, b2, b3, h1, h2, h3, g1, g2]
    · rw [turn_is (ps := [(a, b), (c, d), (e, f)]) (qs := [(f, e), (d, c), (b, a)]) s5 (by simp; omega)]
      simp [rise, riseGo, stepR, greatest, List.range_succ, b1, b2, b3, h1, h2, h3, g1, g2, g3]
theorem full_turn {B : Bl} {h1 r1 h2 r2 : List D} (t1 : Tb h1 r1) (t2 : Tb h2 r2) {cs rs : List (Int × Int)} (hc : PsOk h1.length h2.length cs) (hr : Prs r1.length r2.length rs) (hl : cs.length ≤ 3) : fullV B h2 r2 h1 r1 (turn cs) (turn rs) = fullV B h1 r1 h2 r2 cs rs := by
  have e1 : ((turn rs).map fun q => (unl r2 r1 (turn cs) q : Int)).sum = (rs.map fun q => (unl r1 r2 cs q : Int)).sum := by
    rw [sum_perm ((turn_perm rs).map fun q => (unl r2 r1 (turn cs) q : Int)), List.map_map]
    congr 1
    refine List.map_congr_left fun q hq => ?_
    obtain ⟨q1, q2⟩ := hr q hq
    show ((unl r2 r1 (turn cs) (swp q) : Nat) : Int) = _
    rw [unl_turn t1 t2 hc.pr q1 q2]
  unfold fullV colV
  rw [e1, named_turn t1 t2 hc.pr, rise_turn2 hc hl, turn_len, turn_len, Int.add_comm (h2.length : Int), Int.add_comm (r2.length : Int)]
end T.Lib
end

section
namespace T.Lib
open PySem PySem.Spec L2 T
/-! ### one alignment behind another -/
def look : List (Int × Int) → Int → Option Int
  | [], _ => none
  | q :: qs, j => if q.1 = j then some q.2 else look qs j
def jn (ps qs : List (Int × Int)) : List (Int × Int) := (ps.filter fun p => (look qs p.2).isSome).map fun p => (p.1, (look qs p.2).getD 0)
theorem look_mem : ∀ {qs : List (Int × Int)} {j v : Int}, look qs j = some v → (j, v) ∈ qs
  | [], _, _, h => by cases h
  | q :: qs, j, v, h => by
    unfold look at h
    split at h
    · rename_i e
      cases h
      subst e
      exact List.mem_cons_self
    · exact List.mem_cons_of_mem _ (look_mem h)
theorem look_of : ∀ {qs : List (Int × Int)} {j v : Int}, (qs.map (·.1)).Nodup → (j, v) ∈ qs → look qs j = some v
  | q :: qs, j, v, hn, h => by
    rw [List.map_cons, List.nodup_cons] at hn
    unfold look
    rcases List.mem_cons.mp h with h | h
    · subst h
      rw [if_pos rfl]
    · rw [if_neg fun z => hn.1 (List.mem_map.mpr ⟨(j, v), h, z.symm⟩)]
      exact look_of hn.2 h
theorem look_none {qs : List (Int × Int)} {j : Int} (h : (look qs j).isSome = false) : ∀ q ∈ qs, q.1 ≠ j := by
  induction qs with
  | nil => intro q hq; cases hq
  | cons a qs ih =>
    unfold look at h
    split at h
    · cases h
    · rename_i e
      intro q hq
      rcases List.mem_cons.mp hq with rfl | hq
      · exact e
      · exact ih h q hq
theorem atK_look : ∀ (qs : List (Int × Int)) (j : Int), atK ((qs.map fun q => ((.inl q.1 : Key), D.int q.2)).map (·.1)) ((qs.map fun q => ((.inl q.1 : Key), D.int q.2)).map (·.2)) (.inl j) = (look qs j).map .int
  | [], _ => rfl
  | q :: qs, j => by
    have ih := atK_look qs j
    rw [List.map_cons, List.map_cons, List.map_cons]
    unfold atK look
    by_cases e : q.1 = j
    · rw [if_pos e, if_pos (by rw [e])]
      rfl
    · rw [if_neg e, if_neg (fun z => e (Sum.inl.inj z))]
      exact ih
theorem kv_prs : ∀ qs : List (Int × Int), kvD (qs.map prI) = some (qs.map fun q => (.inl q.1, .int q.2))
  | [] => rfl
  | q :: qs => by
    show (kvD (qs.map prI)).map _ = _
    rw [kv_prs qs]
    rfl
theorem nodup_inj {α β : Type} {f : α → β} : ∀ {l : List α} {a b : α}, (l.map f).Nodup → a ∈ l → b ∈ l → f a = f b → a = b
  | x :: l, a, b, hn, ha, hb, e => by
    rw [List.map_cons, List.nodup_cons] at hn
    rcases List.mem_cons.mp ha with h1 | h1 <;> rcases List.mem_cons.mp hb with h2 | h2
    · rw [h1, h2]
    · exact absurd (List.mem_map.mpr ⟨b, h2, by rw [← e, h1]⟩) hn.1
    · exact absurd (List.mem_map.mpr ⟨a, h1, by rw [e, h2]⟩) hn.1
    · exact nodup_inj hn.2 h1 h2 e
theorem sum_sub {α : Type} [DecidableEq α] (w : α → Nat) : ∀ (l l' : List α), l.Nodup → (∀ x ∈ l, x ∈ l') → (l.map w).sum ≤ (l'.map w).sum
  | [], _, _, _ => by simp
  | a :: l, l', hn, hs => by
    rw [List.nodup_cons] at hn
    have hp : l'.Perm (a :: l'.erase a) := List.perm_cons_erase (hs a List.mem_cons_self)
    have ih := sum_sub w l (l'.erase a) hn.2 fun x hx => (List.mem_erase_of_ne fun z => hn.1 (by rw [← z]; exact hx)).mpr (hs x (List.mem_cons_of_mem _ hx))
    have e : (l'.map w).sum = ((a :: l'.erase a).map w).sum := (hp.map w).sum_nat
    rw [e, List.map_cons, List.map_cons, List.sum_cons, List.sum_cons]
    omega
theorem len_sum {α : Type} : ∀ l : List α, (l.map fun _ => 1).sum = l.length
  | [] => rfl
  | a :: l => by
    rw [List.map_cons, List.sum_cons, len_sum l, List.length_cons]
    omega
theorem len_sub {α : Type} [DecidableEq α] {l l' : List α} (hn : l.Nodup) (hs : ∀ x ∈ l, x ∈ l') : l.length ≤ l'.length := by
  have h := sum_sub (fun _ => 1) l l' hn hs
  rw [len_sum, len_sum] at h
  exact h
theorem filt_split {α : Type} (g : α → Bool) : ∀ l : List α, (l.filter g).length + (l.filter fun x => !g x).length = l.length
  | [] => rfl
  | a :: l => by
    have ih := filt_split g l
    rw [List.filter_cons, List.filter_cons, List.length_cons]
    cases g a <;> simp <;> omega
theorem nodup_of_map {α β : Type} {f : α → β} {l : List α} (h : (l.map f).Nodup) : l.Nodup := (List.pairwise_map.mp h).imp fun hx e => hx (congrArg f e)
section
variable {m n k : Nat} {ps qs : List (Int × Int)} (hp : PsOk m n ps) (hq : PsOk n k qs)
include hp hq
theorem qnd : (qs.map (·.1)).Nodup := hq.as.imp fun h => by omega
theorem jn_mem {x : Int × Int} (h : x ∈ jn ps qs) : ∃ p ∈ ps, p.1 = x.1 ∧ look qs p.2 = some x.2 ∧ (p.2, x.2) ∈ qs := by
  obtain ⟨p, h1, rfl⟩ := List.mem_map.mp h
  obtain ⟨h1, h2⟩ := List.mem_filter.mp h1
  obtain ⟨v, e⟩ := Option.isSome_iff_exists.mp h2
  refine ⟨p, h1, rfl, ?_, ?_⟩
  · rw [e]; rfl
  · rw [e]; exact look_mem e
theorem jn_ok : PsOk m k (jn ps qs) := by
  refine ⟨fun x hx => ?_, ?_, ?_⟩
  · obtain ⟨p, h1, h2, _, h3⟩ := jn_mem hp hq hx
    have a := hp.pr p h1
    have b := hq.pr _ h3
    rw [← h2]
    exact ⟨a.1, b.2⟩
  · have e : (jn ps qs).map (·.1) = (ps.filter fun p => (look qs p.2).isSome).map (·.1) := by
      unfold jn
      rw [List.map_map]
      rfl
    rw [e]
    exact hp.as.sublist (List.filter_sublist.map _)
  · unfold jn
    rw [List.map_map]
    have h1 : ps.Pairwise fun a b => a.2 ≠ b.2 := List.pairwise_map.mp hp.nd
    have h2 : (ps.filter fun p => (look qs p.2).isSome).Pairwise fun a b => a.2 ≠ b.2 := h1.sublist List.filter_sublist
    refine List.pairwise_map.mpr (h2.imp_of_mem fun {a b} ha hb hab e => ?_)
    obtain ⟨v, ea⟩ := Option.isSome_iff_exists.mp (List.mem_filter.mp ha).2
    obtain ⟨u, eb⟩ := Option.isSome_iff_exists.mp (List.mem_filter.mp hb).2
    have e : (look qs a.2).getD 0 = (look qs b.2).getD 0 := e
    rw [ea, eb] at e
    have e : v = u := e
    subst e
    have := nodup_inj hq.nd (look_mem ea) (look_mem eb) rfl
    exact hab (congrArg Prod.fst this)
theorem jn_count : ps.length + qs.length ≤ n + (jn ps qs).length := by
  have hl : ((ps.filter fun p => !(look qs p.2).isSome).map (·.2) ++ qs.map (·.1)).length ≤ ((List.range n).map fun i : Nat => (i : Int)).length := by
    refine len_sub ?_ fun x hx => ?_
    · rw [List.nodup_append]
      refine ⟨hp.nd.sublist (List.filter_sublist.map _), qnd hp hq, fun a ha b hb e => ?_⟩
      obtain ⟨p, h1, rfl⟩ := List.mem_map.mp ha
      obtain ⟨q, h2, rfl⟩ := List.mem_map.mp hb
      have h3 := (List.mem_filter.mp h1).2
      exact look_none (by simpa using h3) q h2 e.symm
    · have key : 0 ≤ x ∧ x < n → x ∈ (List.range n).map fun i : Nat => (i : Int) := fun h => List.mem_map.mpr ⟨x.toNat, List.mem_range.mpr (by omega), by omega⟩
      rcases List.mem_append.mp hx with hx | hx
      · obtain ⟨p, h1, rfl⟩ := List.mem_map.mp hx
        exact key (hp.pr p (List.mem_filter.mp h1).1).2
      · obtain ⟨q, h1, rfl⟩ := List.mem_map.mp hx
        exact key (hq.pr q h1).1
  have h1 : (ps.filter fun p => (look qs p.2).isSome).length + (ps.filter fun p => !(look qs p.2).isSome).length = ps.length := filt_split (fun p => (look qs p.2).isSome) ps
  have h2 : (jn ps qs).length = (ps.filter fun p => (look qs p.2).isSome).length := List.length_map _
  rw [List.length_append, List.length_map, List.length_map, List.length_map, List.length_range] at hl
  omega
/-- what is told of pairs, added up -/
theorem jn_sum (f g r : Int × Int → Nat) (h : ∀ p ∈ ps, ∀ v, (p.2, v) ∈ qs → r (p.1, v) ≤ f p + g (p.2, v)) : ((jn ps qs).map r).sum ≤ (ps.map f).sum + (qs.map g).sum := by
  have h1 : ∀ l : List (Int × Int), (∀ p ∈ l, p ∈ ps) → (((l.filter fun p => (look qs p.2).isSome).map fun p => (p.1, (look qs p.2).getD 0)).map r).sum ≤ (l.map f).sum + (((l.filter fun p => (look qs p.2).isSome).map fun p => (p.2, (look qs p.2).getD 0)).map g).sum := fun l => by
    induction l with
    | nil => intro _; simp
    | cons p l ih =>
      intro hl
      have ih := ih fun x hx => hl x (List.mem_cons_of_mem _ hx)
      rw [List.filter_cons]
      cases e : look qs p.2 with
      | none =>
        simp only [Option.isSome_none, Bool.false_eq_true, if_false, List.map_cons, List.sum_cons]
        omega
      | some v =>
        have := h p (hl p List.mem_cons_self) v (look_mem e)
        simp only [Option.isSome_some, if_true, List.map_cons, List.sum_cons, e, Option.getD_some]
        omega
  have h2 : (((ps.filter fun p => (look qs p.2).isSome).map fun p => (p.2, (look qs p.2).getD 0)).map g).sum ≤ (qs.map g).sum := by
    refine sum_sub g _ _ ?_ fun x hx => ?_
    · have : (((ps.filter fun p => (look qs p.2).isSome).map fun p => (p.2, (look qs p.2).getD 0)).map (·.1)).Nodup := by
        rw [List.map_map]
        exact hp.nd.sublist (List.filter_sublist.map _)
      exact nodup_of_map this
    · obtain ⟨p, h3, rfl⟩ := List.mem_map.mp hx
      obtain ⟨v, e⟩ := Option.isSome_iff_exists.mp (List.mem_filter.mp h3).2
      rw [e]
      exact look_mem e
  have := h1 ps fun p hp => hp
  unfold jn
  omega
end
theorem filt_sum {α : Type} (g : α → Bool) : ∀ l : List α, (l.filter g).length = (l.map fun x => if g x then 1 else 0).sum
  | [] => rfl
  | a :: l => by
    rw [List.filter_cons, List.map_cons, List.sum_cons, ← filt_sum g l]
    cases g a <;> simp <;> omega
/-! moves: all there are, of three columns -/
def pr3 : List (Int × Int) := [(0, 0), (0, 1), (0, 2), (1, 0), (1, 1), (1, 2), (2, 0), (2, 1), (2, 2)]
def all3 : List (List (Int × Int)) := [[]] ++ pr3.map (fun p => [p]) ++ (pr3.flatMap fun p => (pr3.filter fun q => decide (p.1 < q.1) && decide (p.2 ≠ q.2)).map fun q => [p, q]) ++
  (pr3.flatMap fun p => (pr3.filter fun q => decide (p.1 < q.1) && decide (p.2 ≠ q.2)).flatMap fun q => (pr3.filter fun r => decide (q.1 < r.1) && decide (p.2 ≠ r.2) && decide (q.2 ≠ r.2)).map fun r => [p, q, r])
theorem pr3_mem {p : Int × Int} {m n : Nat} (hm : m ≤ 3) (hn : n ≤ 3) (h : (0 ≤ p.1 ∧ p.1 < m) ∧ 0 ≤ p.2 ∧ p.2 < n) : p ∈ pr3 := by
  obtain ⟨a, b⟩ := p
  simp only at h
  have ha : a = 0 ∨ a = 1 ∨ a = 2 := by omega
  have hb : b = 0 ∨ b = 1 ∨ b = 2 := by omega
  rcases ha with rfl | rfl | rfl <;> rcases hb with rfl | rfl | rfl <;> simp [pr3]
theorem PsOk.len {m n : Nat} {ps : List (Int × Int)} (h : PsOk m n ps) : ps.length ≤ m := by
  have := len_sub (l := ps.map Prod.fst) (l' := (List.range m).map fun i : Nat => (i : Int)) (show (ps.map fun p => p.1).Nodup from h.as.imp fun h => by omega) fun x hx => by
    obtain ⟨p, h1, rfl⟩ := List.mem_map.mp hx
    have := h.pr p h1
    exact List.mem_map.mpr ⟨p.1.toNat, List.mem_range.mpr (by omega), by omega⟩
  simpa using this
theorem all3_mem {m n : Nat} {ps : List (Int × Int)} (hm : m ≤ 3) (hn : n ≤ 3) (h : PsOk m n ps) : ps ∈ all3 := by
  have hl := h.len
  have ha := h.as
  have hd := h.nd
  have hp : ∀ p ∈ ps, p ∈ pr3 := fun p hp => pr3_mem hm hn (h.pr p hp)
  unfold all3
  match ps, hl with
  | [], _ => simp
  | [p], _ =>
    have := hp p (by simp)
    simp [this]
  | [p, q], _ =>
    have h1 := hp p (by simp)
    have h2 := hp q (by simp)
    have ha : p.1 < q.1 := by simpa using ha
    have hd : p.2 ≠ q.2 := by simpa using hd
    refine List.mem_append_left _ (List.mem_append_right _ (List.mem_flatMap.mpr ⟨p, h1, List.mem_map.mpr ⟨q, List.mem_filter.mpr ⟨h2, ?_⟩, rfl⟩⟩))
    simp [ha, hd]
  | [p, q, r], _ =>
    have h1 := hp p (by simp)
    have h2 := hp q (by simp)
    have h3 := hp r (by simp)
    have ha : (p.1 < q.1 ∧ p.1 < r.1) ∧ q.1 < r.1 := by simpa using ha
    have hd : (p.2 ≠ q.2 ∧ p.2 ≠ r.2) ∧ q.2 ≠ r.2 := by simpa using hd
    refine List.mem_append_right _ (List.mem_flatMap.mpr ⟨p, h1, List.mem_flatMap.mpr ⟨q, List.mem_filter.mpr ⟨h2, ?_⟩, List.mem_map.mpr ⟨r, List.mem_filter.mpr ⟨h3, ?_⟩, rfl⟩⟩⟩)
    · simp [ha, hd]
    · simp [ha, hd]
  | _ :: _ :: _ :: _ :: _, hl => exact absurd hl (by simp; omega)
def mvOf (ps : List (Int × Int)) : Int := ps.length - rise (ps.map (·.2))
theorem moves3 : (all3.all fun a => all3.all fun b => decide (mvOf (jn a b) ≤ mvOf a + mvOf b)) = true := by decide +kernel
theorem jn_moves {m n k : Nat} {ps qs : List (Int × Int)} (hp : PsOk m n ps) (hq : PsOk n k qs) (hm : m ≤ 3) (hn : n ≤ 3) (hk : k ≤ 3) : mvOf (jn ps qs) ≤ mvOf ps + mvOf qs := by
  have h := List.all_eq_true.mp (List.all_eq_true.mp moves3 ps (all3_mem hm hn hp)) qs (all3_mem hn hk hq)
  exact of_decide_eq_true h
theorem ceq_tri {a b c : D} (ha : CkD a) (hb : CkD b) (hc : CkD c) (h1 : ceq a b = true) (h2 : ceq b c = true) : ceq a c = true := by
  have key : ∀ {x y : D}, CkD x → CkD y → ceq x y = true → x = y := fun {x y} hx hy h => by
    rcases hx with rfl | ⟨i, rfl⟩ | ⟨x, rfl⟩ <;> rcases hy with rfl | ⟨j, rfl⟩ | ⟨y, rfl⟩ <;> first | rfl | cases h | skip
    · have h : decide (i = j) = true := h
      rw [of_decide_eq_true h]
    · have h : decide (x = y) = true := h
      rw [of_decide_eq_true h]
  rw [key ha hb h1]
  exact h2
theorem ceq_refl {a : D} (ha : CkD a) : ceq a a = true := by
  rcases ha with rfl | ⟨i, rfl⟩ | ⟨x, rfl⟩
  · rfl
  · show decide (i = i) = true
    simp
  · show decide (x = x) = true
    simp
theorem ne_tri {a b c : D} (ha : CkD a) (hb : CkD b) (hc : CkD c) : (if (!ceq a c) = true then 1 else 0) ≤ (if (!ceq a b) = true then 1 else 0) + (if (!ceq b c) = true then (1 : Nat) else 0) := by
  cases h1 : ceq a b
  · cases ceq a c <;> simp
  · cases h2 : ceq b c
    · cases ceq a c <;> simp
    · rw [ceq_tri ha hb hc h1 h2]
      simp
theorem jn_named {h1 r1 h2 r2 h3 r3 : List D} (t1 : Tb h1 r1) (t2 : Tb h2 r2) (t3 : Tb h3 r3) {cs fs : List (Int × Int)} (hc : PsOk h1.length h2.length cs) (hf : PsOk h2.length h3.length fs) : named h1 h3 (jn cs fs) ≤ named h1 h2 cs + named h2 h3 fs := by
  unfold named
  rw [filt_sum, filt_sum, filt_sum]
  refine jn_sum hc hf _ _ _ fun p hp v hv => ?_
  have a := hc.pr p hp
  have b := hf.pr _ hv
  exact ne_tri (t1.hd _ (get_mem a.1.1 a.1.2)) (t2.hd _ (get_mem a.2.1 a.2.2)) (t3.hd _ (get_mem b.2.1 b.2.2))
theorem jn_unl {h1 r1 h2 r2 h3 r3 : List D} (t1 : Tb h1 r1) (t2 : Tb h2 r2) (t3 : Tb h3 r3) {cs fs : List (Int × Int)} (hc : PsOk h1.length h2.length cs) (hf : PsOk h2.length h3.length fs) {i j k : Int} (hi : 0 ≤ i ∧ i < r1.length) (hj : 0 ≤ j ∧ j < r2.length) (hk : 0 ≤ k ∧ k < r3.length) :
    unl r1 r3 (jn cs fs) (i, k) ≤ unl r1 r2 cs (i, j) + unl r2 r3 fs (j, k) := by
  obtain ⟨_, l1, o1⟩ := t1.row hi.1 hi.2
  obtain ⟨_, l2, o2⟩ := t2.row hj.1 hj.2
  obtain ⟨_, l3, o3⟩ := t3.row hk.1 hk.2
  unfold unl
  rw [filt_sum, filt_sum, filt_sum]
  refine jn_sum hc hf _ _ _ fun p hp v hv => ?_
  have a := hc.pr p hp
  have b := hf.pr _ hv
  exact ne_tri (o1 _ (get_mem (ds := rowG r1 i) a.1.1 (by omega))) (o2 _ (get_mem (ds := rowG r2 j) a.2.1 (by omega))) (o3 _ (get_mem (ds := rowG r3 k) b.2.1 (by omega)))
theorem cast_sum {α : Type} (w : α → Nat) : ∀ l : List α, (l.map fun q => (w q : Int)).sum = (((l.map w).sum : Nat) : Int)
  | [] => rfl
  | a :: l => by
    rw [List.map_cons, List.sum_cons, cast_sum w l, List.map_cons, List.sum_cons]
    omega
theorem jn_cost {B : Bl} (hB : B.ok) {h1 r1 h2 r2 h3 r3 : List D} (t1 : Tb h1 r1) (t2 : Tb h2 r2) (t3 : Tb h3 r3) (m1 : h1.length ≤ 3) (m2 : h2.length ≤ 3) (m3 : h3.length ≤ 3) {cs fs rs gs : List (Int × Int)} (hc : PsOk h1.length h2.length cs) (hf : PsOk h2.length h3.length fs) (hr : PsOk r1.length r2.length rs) (hg : PsOk r2.length r3.length gs) :
    fullV B h1 r1 h3 r3 (jn cs fs) (jn rs gs) ≤ fullV B h1 r1 h2 r2 cs rs + fullV B h2 r2 h3 r3 fs gs := by
  have c1 := jn_count hc hf
  have c2 := jn_count hr hg
  have n1 := jn_named t1 t2 t3 hc hf
  have v1 := jn_moves hc hf m1 m2 m3
  have u1 := jn_sum hr hg (unl r1 r2 cs) (unl r2 r3 fs) (unl r1 r3 (jn cs fs)) fun p hp v hv => by
    have a := hr.pr p hp
    have b := hg.pr _ hv
    exact jn_unl t1 t2 t3 hc hf a.1 a.2 b.2
  obtain ⟨⟨b1, _⟩, ⟨b2, _⟩, ⟨b3, _⟩, ⟨b4, _⟩, b5, _⟩ := hB
  unfold fullV colV
  rw [cast_sum, cast_sum, cast_sum]
  unfold mvOf at v1
  have lin : ∀ {x y z w : Int}, x ≤ y + z → 1 ≤ w → x * w ≤ y * w + z * w := fun {x y z w} h hw => by
    rw [← Int.add_mul]
    exact Int.mul_le_mul_of_nonneg_right h (by omega)
  have g1 := lin (x := (h1.length : Int) + h3.length - 2 * (jn cs fs).length) (y := (h1.length : Int) + h2.length - 2 * cs.length) (z := (h2.length : Int) + h3.length - 2 * fs.length) (by omega) b3
  have g2 := lin (x := (named h1 h3 (jn cs fs) : Int)) (y := named h1 h2 cs) (z := named h2 h3 fs) (by omega) b4
  have g3 := lin v1 b5
  have g4 := lin (x := (r1.length : Int) + r3.length - 2 * (jn rs gs).length) (y := (r1.length : Int) + r2.length - 2 * rs.length) (z := (r2.length : Int) + r3.length - 2 * gs.length) (by omega) b2
  have g5 := lin (x := ((((jn rs gs).map (unl r1 r3 (jn cs fs))).sum : Nat) : Int)) (y := ((rs.map (unl r1 r2 cs)).sum : Nat)) (z := ((gs.map (unl r2 r3 fs)).sum : Nat)) (by omega) b1
  omega
/-! there and back -/
theorem jn_home {m n : Nat} {ps : List (Int × Int)} (hp : PsOk m n ps) : jn ps (turn ps) = ps.map fun p => (p.1, p.1) := by
  have ht := hp.turn
  have hn : ((turn ps).map (·.1)).Nodup := ht.as.imp fun h => by omega
  have e : ∀ p ∈ ps, look (turn ps) p.2 = some p.1 := fun p hm => look_of hn ((turn_perm ps).mem_iff.mpr (List.mem_map.mpr ⟨p, hm, rfl⟩))
  unfold jn
  rw [List.filter_eq_self.mpr fun p hm => by rw [e p hm]; rfl]
  exact List.map_congr_left fun p hm => by rw [e p hm]; rfl
theorem rise_asc {ns : List Int} (h : ns.Pairwise (· < ·)) (hl : ns.length ≤ 3) : rise ns = ns.length := by
  match ns, hl with
  | [], _ => rfl
  | [a], _ => simp [rise, riseGo, stepR, greatest]
  | [a, b], _ =>
    have h : a < b := by simpa using h
    simp [rise, riseGo, stepR, greatest, List.range_succ, h]
  | [a, b, c], _ =>
    have h : (a < b ∧ a < c) ∧ b < c := by simpa using h
    obtain ⟨⟨h1, h2⟩, h3⟩ := h
    simp [rise, riseGo, stepR, greatest, List.range_succ, h1, h2, h3]
theorem home_cost {B : Bl} {h r : List D} (t : Tb h r) {cs rs : List (Int × Int)} {n l : Nat} (hc : PsOk h.length n cs) (hr : PsOk r.length l rs) (hl : cs.length ≤ 3) :
    fullV B h r h r (cs.map fun p => (p.1, p.1)) (rs.map fun p => (p.1, p.1)) = 2 * (B.col * ((h.length : Int) - cs.length) + B.row * ((r.length : Int) - rs.length)) := by
  have e1 : named h h (cs.map fun p => (p.1, p.1)) = 0 := by
    unfold named
    rw [List.length_eq_zero_iff, List.filter_eq_nil_iff]
    intro x hx
    obtain ⟨p, hp, rfl⟩ := List.mem_map.mp hx
    have a := hc.pr p hp
    rw [ceq_refl (t.hd _ (get_mem a.1.1 a.1.2))]
    simp
  have e2 : ∀ q ∈ (rs.map fun p => (p.1, p.1)), (unl r r (cs.map fun p => (p.1, p.1)) q : Int) = 0 := fun q hq => by
    obtain ⟨s, hs, rfl⟩ := List.mem_map.mp hq
    have b := hr.pr s hs
    obtain ⟨_, l1, o1⟩ := t.row b.1.1 b.1.2
    have : unl r r (cs.map fun p => (p.1, p.1)) (s.1, s.1) = 0 := by
      unfold unl
      rw [List.length_eq_zero_iff, List.filter_eq_nil_iff]
      intro x hx
      obtain ⟨p, hp, rfl⟩ := List.mem_map.mp hx
      have a := hc.pr p hp
      rw [ceq_refl (o1 _ (get_mem (ds := rowG r s.1) a.1.1 (by omega)))]
      simp
    rw [this]
    rfl
  have e3 : ((rs.map fun p => (p.1, p.1)).map fun q => (unl r r (cs.map fun p => (p.1, p.1)) q : Int)).sum = 0 := by
    rw [List.map_congr_left e2]
    generalize (rs.map fun p => (p.1, p.1)) = L
    induction L with
    | nil => rfl
    | cons a L ih => rw [List.map_cons, List.sum_cons, ih]; rfl
  have e4 : rise ((cs.map fun p => (p.1, p.1)).map (·.2)) = cs.length := by
    rw [List.map_map]
    have : rise (cs.map (·.1)) = (cs.map (·.1)).length := rise_asc hc.as (by simpa using hl)
    rw [List.length_map] at this
    exact this
  unfold fullV colV
  rw [e1, e3, e4, List.length_map, List.length_map]
  have l1 : ∀ x y : Int, (x + x - 2 * y) * B.col = 2 * (B.col * (x - y)) := fun x y => by
    rw [show x + x - 2 * y = 2 * (x - y) by omega, Int.mul_assoc, Int.mul_comm (x - y)]
  have l2 : ∀ x y : Int, (x + x - 2 * y) * B.row = 2 * (B.row * (x - y)) := fun x y => by
    rw [show x + x - 2 * y = 2 * (x - y) by omega, Int.mul_assoc, Int.mul_comm (x - y)]
  rw [l1, l2]
  simp
  omega
end T.Lib
end

section
namespace T.Law
open PySem PySem.Spec PyProof.Rows L2 T
abbrev prog := PySem.Challenge.pw_tableheld_k12_whole_alignments_one_behin
def top (i : Nat) : Stmt := prog.main.body.getD i (.Pass ⟨0, 0, 0, 0⟩)
def d0 : He.DefD := ⟨("law", none), "law", "law", defArgs (top 53), defBody (top 53), defScope (top 53), [], []⟩
def b0 : IB := (.cons (.forr (.v 1) (.range1 (.bi .max2 (.cons (.int 1) (.cons (.bi .min2 (.cons (.int 3) (.cons (.bi .len (.cons (.v 0) .nil)) .nil))) .nil)))) (.cons (.set (.v 2) (.call 3 (.cons (.v 0) (.cons (.v 1) .nil)))) (.cons (.iff (.nt (.bi .all (.cons (.lst .fz (.comp (.call 51 (.cons (.v 2) .nil)) (.v 3) (.range1 (.int 4)) .nil)) .nil))) (.cons (.ret (.bl false)) .nil) .nil) .nil))) (.cons (.ret (.bl true)) .nil))
def r0 : Row := ⟨d0, ["_law_script", "_law_k", "_law_pot_here", "_law_turn"], ["_law_script"], ⟨4, 1, b0⟩, true⟩
def d1 : He.DefD := ⟨("_law_draw", none), "_law_draw", "_law_draw", defArgs (top 38), defBody (top 38), defScope (top 38), [], []⟩
def b1 : IB := (.cons (.iff (.cmp .Gt (.ix (.v 0) (.int 0)) (.int 0)) (.cons (.set (.v 2) (.bin .Mod (.bi .int (.cons (.ix (.v 0) (.int 0)) .nil)) (.v 1))) (.cons (.setixS (.v 0) (.int 0) (.bin .FloorDiv (.ix (.v 0) (.int 0)) (.v 1))) (.cons (.ret (.v 2)) .nil))) .nil) (.cons (.setixS (.v 0) (.int 2) (.bin .Add (.ix (.v 0) (.int 2)) (.int 1))) (.cons (.set (.v 3) (.ix (.lst .fz (.disp (.cons (.int 2147483647) (.cons (.int 2147483629) (.cons (.int 2147483587) (.cons (.int 2147483579) (.cons (.int 2147483563) .nil))))))) (.bin .Mod (.bi .int (.cons (.ix (.v 0) (.int 2)) .nil)) (.int 5)))) (.cons (.set (.v 4) (.bin .Mod (.bi .int (.cons (.bin .Pow (.bin .Add (.bin .Add (.ix (.v 0) (.int 1)) (.bin .Mult (.bin .Mult (.int 99991) (.ix (.v 0) (.int 2))) (.ix (.v 0) (.int 2)))) (.int 61)) (.int 3)) .nil)) (.v 3))) (.cons (.set (.v 4) (.bin .Mod (.bi .int (.cons (.bin .Mult (.v 4) (.bin .Add (.bin .Mod (.bi .int (.cons (.v 4) .nil)) (.int 10007)) (.bin .Mult (.int 83) (.ix (.v 0) (.int 2))))) .nil)) (.int 2305843009213693907))) (.cons (.ret (.bin .Mod (.bi .int (.cons (.bin .FloorDiv (.v 4) (.int 89)) .nil)) (.v 1))) .nil))))))
def r1 : Row := ⟨d1, ["_law_pot_here", "_law_many", "_law_digit", "_law_prime", "_law_made"], ["_law_pot_here", "_law_many"], ⟨5, 2, b1⟩, true⟩
def d2 : He.DefD := ⟨("_law_any", none), "_law_any", "_law_any", defArgs (top 39), defBody (top 39), defScope (top 39), [], []⟩
def b2 : IB := (.cons (.ret (.ix (.v 1) (.call 1 (.cons (.v 0) (.cons (.bi .len (.cons (.v 1) .nil)) .nil))))) .nil)
def r2 : Row := ⟨d2, ["_law_pot_here", "_law_items"], ["_law_pot_here", "_law_items"], ⟨2, 2, b2⟩, true⟩
def d3 : He.DefD := ⟨("_law_pot", none), "_law_pot", "_law_pot", defArgs (top 40), defBody (top 40), defScope (top 40), [], []⟩
def b3 : IB := (.cons (.set (.v 2) (.ite (.cmp .Lt (.v 1) (.bi .len (.cons (.v 0) .nil))) (.ix (.v 0) (.v 1)) (.bin .Add (.bin .Mult (.int 19) (.v 1)) (.int 5)))) (.cons (.set (.v 3) (.bin .Mult (.bin .Mod (.bi .int (.cons (.bi .abs (.cons (.v 2) .nil)) .nil)) (.bin .Pow (.bin .Pow (.int 10) (.int 60)) (.int 5))) (.bi .int (.cons (.cmp .GtE (.bi .abs (.cons (.v 2) .nil)) (.bin .Pow (.int 10) (.int 18))) .nil)))) (.cons (.ret (.lst .sh (.disp (.cons (.v 3) (.cons (.bin .Mod (.bi .int (.cons (.bin .Add (.bin .Add (.bin .Mult (.bin .Mod (.bi .int (.cons (.v 2) .nil)) (.int 2305843009213693951)) (.int 77017)) (.bin .Mult (.bin .Mult (.int 9049) (.v 1)) (.v 1))) (.int 83)) .nil)) (.int 2305843009213693921)) (.cons (.int 0) .nil)))))) .nil)))
def r3 : Row := ⟨d3, ["_law_script", "_law_k", "_law_drawn", "_law_own"], ["_law_script", "_law_k"], ⟨4, 2, b3⟩, true⟩
def d4 : He.DefD := ⟨("_law_words", none), "_law_words", "_law_words", defArgs (top 41), defBody (top 41), defScope (top 41), [], []⟩
def b4 : IB := (.cons (.par 2 3 (.l (.disp (.cons (.str "a") (.cons (.str "b") (.cons (.str "c") (.cons (.str "ab") (.cons (.str "abcdefgh") (.cons (.str "x") (.cons (.str "row") (.cons (.str "z") .nil)))))))))) (.l (.disp .nil))) (.cons (.forr (.v 4) (.range1 (.v 1)) (.cons (.set (.v 5) (.call 1 (.cons (.v 0) (.cons (.bi .len (.cons (.v 2) .nil)) .nil)))) (.cons (.apppop 3 2 (.v 5)) .nil))) (.cons (.ret (.bi .tuple (.cons (.v 3) .nil))) .nil)))
def r4 : Row := ⟨d4, ["_law_pot_here", "_law_many", "_law_some", "_law_found", "_law_turn", "_law_place"], ["_law_pot_here", "_law_many"], ⟨6, 2, b4⟩, true⟩
def d5 : He.DefD := ⟨("_law_cell", none), "_law_cell", "_law_cell", defArgs (top 42), defBody (top 42), defScope (top 42), [], []⟩
def b5 : IB := (.cons (.ret (.call 2 (.cons (.v 0) (.cons (.lst .fz (.disp (.cons (.int 1) (.cons (.int 2) (.cons .non (.cons (.int 1) (.cons (.str "x") (.cons (.int 2) (.cons (.str "a") (.cons (.neg (.int 3)) (.cons (.int 0) (.cons (.int 999) (.cons (.neg (.int 999)) (.cons (.str "abcdefgh") .nil)))))))))))))) .nil)))) .nil)
def r5 : Row := ⟨d5, ["_law_pot_here"], ["_law_pot_here"], ⟨1, 1, b5⟩, true⟩
def d6 : He.DefD := ⟨("_law_rows", none), "_law_rows", "_law_rows", defArgs (top 43), defBody (top 43), defScope (top 43), [], []⟩
def b6 : IB := (.cons (.own 3 (.disp .nil)) (.cons (.forr (.v 4) (.range1 (.v 2)) (.cons (.app 3 (.bi .tuple (.cons (.lst .fz (.comp (.call 5 (.cons (.v 0) .nil)) (.v 5) (.range1 (.v 1)) .nil)) .nil))) .nil)) (.cons (.ret (.bi .tuple (.cons (.v 3) .nil))) .nil)))
def r6 : Row := ⟨d6, ["_law_pot_here", "_law_wide", "_law_many", "_law_found", "_law_line", "_law_turn"], ["_law_pot_here", "_law_wide", "_law_many"], ⟨6, 3, b6⟩, true⟩
def d7 : He.DefD := ⟨("Table", some "__init__"), "__init__", "Table.__init__", defArgs (inClass (top 36) 0), defBody (inClass (top 36) 0), defScope (inClass (top 36) 0), [], []⟩
def b7 : IB := (.cons (.iff (.nt (.call 9 (.cons (.v 1) .nil))) (.cons (.rais 0 (.v 1)) .nil) .nil) (.cons (.iff (.nt (.isi (.v 2) .tuple)) (.cons (.rais 1 (.v 2)) .nil) .nil) (.cons (.iff (.cmp .Gt (.bi .len (.cons (.v 2) .nil)) (.gi "MOST_ROWS" 6)) (.cons (.rais 3 (.gi "MOST_ROWS" 6)) .nil) .nil) (.cons (.forr (.v 3) (.seq (.v 2)) (.cons (.iff (.nt (.call 10 (.cons (.v 3) (.cons (.bi .len (.cons (.v 1) .nil)) .nil)))) (.cons (.rais 2 (.v 3)) .nil) .nil) .nil)) (.cons (.setfld (.v 0) 0 (.v 1)) (.cons (.setfld (.v 0) 1 (.v 2)) .nil))))))
def r7 : Row := ⟨d7, ["self", "columns", "rows", "row"], ["self", "columns", "rows"], ⟨4, 3, b7⟩, true⟩
def d8 : He.DefD := ⟨("Table", some "__eq__"), "__eq__", "Table.__eq__", defArgs (inClass (top 36) 1), defBody (inClass (top 36) 1), defScope (inClass (top 36) 1), [], []⟩
def b8 : IB := (.cons (.ret (.bo .And (.cons (.isi (.v 1) (.cls 0)) (.cons (.cmp .Eq (.fld (.v 0) 0) (.fld (.v 1) 0)) (.cons (.cmp .Eq (.fld (.v 0) 1) (.fld (.v 1) 1)) .nil))))) .nil)
def r8 : Row := ⟨d8, ["self", "other"], ["self", "other"], ⟨2, 2, b8⟩, true⟩
def d9 : He.DefD := ⟨("are_columns", none), "are_columns", "are_columns", defArgs (top 34), defBody (top 34), defScope (top 34), [], []⟩
def b9 : IB := (.cons (.iff (.bo .Or (.cons (.nt (.isi (.v 0) .tuple)) (.cons (.nt (.chain .LtE .LtE (.int 1) (.bi .len (.cons (.v 0) .nil)) (.gi "MOST_COLUMNS" 3))) .nil))) (.cons (.ret (.bl false)) .nil) .nil) (.cons (.ret (.bo .And (.cons (.bi .all (.cons (.lst .fz (.comp (.call 11 (.cons (.v 1) .nil)) (.v 1) (.seq (.v 0)) .nil)) .nil)) (.cons (.cmp .Eq (.bi .lenset (.cons (.v 0) .nil)) (.bi .len (.cons (.v 0) .nil))) .nil)))) .nil))
def r9 : Row := ⟨d9, ["value", "word"], ["value"], ⟨2, 1, b9⟩, true⟩
def d10 : He.DefD := ⟨("is_row", none), "is_row", "is_row", defArgs (top 35), defBody (top 35), defScope (top 35), [], []⟩
def b10 : IB := (.cons (.ret (.bo .And (.cons (.isi (.v 0) .tuple) (.cons (.cmp .Eq (.bi .len (.cons (.v 0) .nil)) (.v 1)) (.cons (.bi .all (.cons (.lst .fz (.comp (.call 12 (.cons (.v 2) .nil)) (.v 2) (.seq (.v 0)) .nil)) .nil)) .nil))))) .nil)
def r10 : Row := ⟨d10, ["value", "many", "cell"], ["value", "many"], ⟨3, 2, b10⟩, true⟩
def d11 : He.DefD := ⟨("is_word", none), "is_word", "is_word", defArgs (top 14), defBody (top 14), defScope (top 14), [], []⟩
def b11 : IB := (.cons (.ret (.bo .And (.cons (.isi (.v 0) .str) (.cons (.chain .LtE .LtE (.int 1) (.bi .len (.cons (.v 0) .nil)) (.gi "MOST_LETTERS" 8)) (.cons (.bi .all (.cons (.lst .fz (.comp (.cmp .In (.v 1) (.gs "SMALL" "abcdefghijklmnopqrstuvwxyz")) (.v 1) (.seq (.v 0)) .nil)) .nil)) .nil))))) .nil)
def r11 : Row := ⟨d11, ["value", "letter"], ["value"], ⟨2, 1, b11⟩, true⟩
def d12 : He.DefD := ⟨("is_cell", none), "is_cell", "is_cell", defArgs (top 15), defBody (top 15), defScope (top 15), [], []⟩
def b12 : IB := (.cons (.ret (.bo .Or (.cons (.isN (.v 0)) (.cons (.call 13 (.cons (.v 0) (.cons (.neg (.gi "GREATEST" 999)) (.cons (.gi "GREATEST" 999) .nil)))) (.cons (.call 11 (.cons (.v 0) .nil)) .nil))))) .nil)
def r12 : Row := ⟨d12, ["value"], ["value"], ⟨1, 1, b12⟩, true⟩
def d13 : He.DefD := ⟨("is_within", none), "is_within", "is_within", defArgs (top 13), defBody (top 13), defScope (top 13), [], []⟩
def b13 : IB := (.cons (.ret (.bo .And (.cons (.call 14 (.cons (.v 0) .nil)) (.cons (.chain .LtE .LtE (.v 1) (.v 0) (.v 2)) .nil)))) .nil)
def r13 : Row := ⟨d13, ["value", "least", "greatest"], ["value", "least", "greatest"], ⟨3, 3, b13⟩, true⟩
def d14 : He.DefD := ⟨("is_integer", none), "is_integer", "is_integer", defArgs (top 12), defBody (top 12), defScope (top 12), [], []⟩
def b14 : IB := (.cons (.ret (.bo .And (.cons (.isi (.v 0) .int) (.cons (.nt (.isi (.v 0) .bool)) .nil)))) .nil)
def r14 : Row := ⟨d14, ["value"], ["value"], ⟨1, 1, b14⟩, true⟩
def d15 : He.DefD := ⟨("is_place", none), "is_place", "is_place", defArgs (top 18), defBody (top 18), defScope (top 18), [], []⟩
def b15 : IB := (.cons (.ret (.bo .And (.cons (.call 14 (.cons (.v 0) .nil)) (.cons (.chain .LtE .Lt (.int 0) (.v 0) (.v 1)) .nil)))) .nil)
def r15 : Row := ⟨d15, ["value", "many"], ["value", "many"], ⟨2, 2, b15⟩, true⟩
def d16 : He.DefD := ⟨("is_pair", none), "is_pair", "is_pair", defArgs (top 19), defBody (top 19), defScope (top 19), [], []⟩
def b16 : IB := (.cons (.iff (.bo .Or (.cons (.nt (.isi (.v 0) .tuple)) (.cons (.cmp .NotEq (.bi .len (.cons (.v 0) .nil)) (.gi "PAIR" 2)) .nil))) (.cons (.ret (.bl false)) .nil) .nil) (.cons (.ret (.bo .And (.cons (.call 15 (.cons (.ix (.v 0) (.int 0)) (.cons (.v 1) .nil))) (.cons (.call 15 (.cons (.ix (.v 0) (.int 1)) (.cons (.v 2) .nil))) .nil)))) .nil))
def r16 : Row := ⟨d16, ["value", "many", "many_there"], ["value", "many", "many_there"], ⟨3, 3, b16⟩, true⟩
def d17 : He.DefD := ⟨("are_pairs", none), "are_pairs", "are_pairs", defArgs (top 20), defBody (top 20), defScope (top 20), [], []⟩
def b17 : IB := (.cons (.iff (.bo .Or (.cons (.nt (.isi (.v 0) .tuple)) (.cons (.nt (.bi .all (.cons (.lst .fz (.comp (.call 16 (.cons (.v 3) (.cons (.v 1) (.cons (.v 2) .nil)))) (.v 3) (.seq (.v 0)) .nil)) .nil))) .nil))) (.cons (.ret (.bl false)) .nil) .nil) (.cons (.par 4 5 (.l (.comp (.ix (.v 3) (.int 0)) (.v 3) (.seq (.v 0)) .nil)) (.l (.comp (.ix (.v 3) (.int 1)) (.v 3) (.seq (.v 0)) .nil))) (.cons (.ret (.bo .And (.cons (.cmp .Eq (.v 4) (.lst .fz (.sortset (.v 4)))) (.cons (.cmp .Eq (.bi .lenset (.cons (.v 5) .nil)) (.bi .len (.cons (.v 5) .nil))) .nil)))) .nil)))
def r17 : Row := ⟨d17, ["value", "many", "many_there", "pair", "firsts", "seconds"], ["value", "many", "many_there"], ⟨6, 3, b17⟩, true⟩
def d18 : He.DefD := ⟨("is_alignment", none), "is_alignment", "is_alignment", defArgs (top 21), defBody (top 21), defScope (top 21), [], []⟩
def b18 : IB := (.cons (.iff (.bo .Or (.cons (.nt (.isi (.v 2) .tuple)) (.cons (.cmp .NotEq (.bi .len (.cons (.v 2) .nil)) (.gi "PAIR" 2)) .nil))) (.cons (.ret (.bl false)) .nil) .nil) (.cons (.set (.t2 (.v 3) (.v 4)) (.v 2)) (.cons (.iff (.nt (.call 17 (.cons (.v 3) (.cons (.bi .len (.cons (.fld (.v 0) 0) .nil)) (.cons (.bi .len (.cons (.fld (.v 1) 0) .nil)) .nil))))) (.cons (.ret (.bl false)) .nil) .nil) (.cons (.ret (.bo .And (.cons (.call 17 (.cons (.v 4) (.cons (.bi .len (.cons (.fld (.v 0) 1) .nil)) (.cons (.bi .len (.cons (.fld (.v 1) 1) .nil)) .nil)))) (.cons (.bo .Or (.cons (.cmp .NotEq (.v 3) (.tup .nil)) (.cons (.cmp .Eq (.v 4) (.tup .nil)) .nil))) .nil)))) .nil))))
def r18 : Row := ⟨d18, ["one", "other", "value", "columns", "rows"], ["one", "other", "value"], ⟨5, 3, b18⟩, true⟩
def d19 : He.DefD := ⟨("_law_table", none), "_law_table", "_law_table", defArgs (top 44), defBody (top 44), defScope (top 44), [], []⟩
def b19 : IB := (.cons (.set (.v 3) (.call 4 (.cons (.v 0) (.cons (.bin .Add (.int 1) (.call 1 (.cons (.v 0) (.cons (.v 1) .nil)))) .nil)))) (.cons (.ret (.new 0 (.cons (.v 3) (.cons (.call 6 (.cons (.v 0) (.cons (.bi .len (.cons (.v 3) .nil)) (.cons (.call 1 (.cons (.v 0) (.cons (.bin .Add (.v 2) (.int 1)) .nil))) .nil)))) .nil)))) .nil))
def r19 : Row := ⟨d19, ["_law_pot_here", "_law_wide", "_law_tall", "_law_heads"], ["_law_pot_here", "_law_wide", "_law_tall"], ⟨4, 3, b19⟩, true⟩
def d20 : He.DefD := ⟨("_law_drawn_pairs", none), "_law_drawn_pairs", "_law_drawn_pairs", defArgs (top 45), defBody (top 45), defScope (top 45), [], []⟩
def b20 : IB := (.cons (.par 3 4 (.l (.listRg (.v 2))) (.l (.disp .nil))) (.cons (.forr (.v 5) (.range1 (.v 1)) (.cons (.iff (.bo .And (.cons (.cmp .NotEq (.v 3) (.lst .fz (.disp .nil))) (.cons (.cmp .Gt (.call 1 (.cons (.v 0) (.cons (.int 4) .nil))) (.int 0)) .nil))) (.cons (.apppopT 4 5 3 (.call 1 (.cons (.v 0) (.cons (.bi .len (.cons (.v 3) .nil)) .nil)))) .nil) .nil) .nil)) (.cons (.ret (.bi .tuple (.cons (.v 4) .nil))) .nil)))
def r20 : Row := ⟨d20, ["_law_pot_here", "_law_many", "_law_others", "_law_left", "_law_found", "_law_i"], ["_law_pot_here", "_law_many", "_law_others"], ⟨6, 3, b20⟩, true⟩
def d21 : He.DefD := ⟨("_law_laid", none), "_law_laid", "_law_laid", defArgs (top 46), defBody (top 46), defScope (top 46), [], []⟩
def b21 : IB := (.cons (.set (.v 3) (.call 20 (.cons (.v 0) (.cons (.bi .len (.cons (.fld (.v 1) 0) .nil)) (.cons (.bi .len (.cons (.fld (.v 2) 0) .nil)) .nil))))) (.cons (.ret (.tup (.cons (.v 3) (.cons (.ite (.cmp .NotEq (.v 3) (.tup .nil)) (.call 20 (.cons (.v 0) (.cons (.bi .len (.cons (.fld (.v 1) 1) .nil)) (.cons (.bi .len (.cons (.fld (.v 2) 1) .nil)) .nil)))) (.tup .nil)) .nil)))) .nil))
def r21 : Row := ⟨d21, ["_law_pot_here", "_law_first", "_law_second", "_law_heads"], ["_law_pot_here", "_law_first", "_law_second"], ⟨4, 3, b21⟩, true⟩
def d22 : He.DefD := ⟨("checked_alignment", none), "checked_alignment", "checked_alignment", defArgs (top 22), defBody (top 22), defScope (top 22), [], []⟩
def b22 : IB := (.cons (.iff (.nt (.call 18 (.cons (.v 0) (.cons (.v 1) (.cons (.v 2) .nil))))) (.cons (.rais 4 (.v 2)) .nil) .nil) (.cons (.ret (.v 2)) .nil))
def r22 : Row := ⟨d22, ["one", "other", "value"], ["one", "other", "value"], ⟨3, 3, b22⟩, true⟩
def d37 : He.DefD := ⟨("cost_of", none), "cost_of", "cost_of", defArgs (top 27), defBody (top 27), defScope (top 27), [], []⟩
def b37 : IB := (.cons (.ret (.call 38 (.cons (.v 0) (.cons (.v 1) (.cons (.v 2) (.cons (.call 22 (.cons (.v 0) (.cons (.v 1) (.cons (.v 3) .nil)))) .nil)))))) .nil)
def r37 : Row := ⟨d37, ["one", "other", "costs", "alignment"], ["one", "other", "costs", "alignment"], ⟨4, 4, b37⟩, true⟩
def d38 : He.DefD := ⟨("full_cost", none), "full_cost", "full_cost", defArgs (top 26), defBody (top 26), defScope (top 26), [], []⟩
def b38 : IB := (.cons (.set (.t2 (.v 4) (.v 5)) (.v 3)) (.cons (.set (.v 6) (.bin .Sub (.bin .Add (.bi .len (.cons (.fld (.v 0) 1) .nil)) (.bi .len (.cons (.fld (.v 1) 1) .nil))) (.bin .Mult (.int 2) (.bi .len (.cons (.v 5) .nil))))) (.cons (.set (.v 9) (.bi .sum (.cons (.lst .fz (.comp (.call 40 (.cons (.v 0) (.cons (.v 1) (.cons (.v 4) (.cons (.v 7) (.cons (.v 8) .nil)))))) (.t2 (.v 7) (.v 8)) (.seq (.v 5)) .nil)) .nil))) (.cons (.ret (.bin .Add (.bin .Add (.call 39 (.cons (.v 0) (.cons (.v 1) (.cons (.v 2) (.cons (.v 4) .nil))))) (.bin .Mult (.v 6) (.fld (.v 2) 3))) (.bin .Mult (.v 9) (.fld (.v 2) 2)))) .nil))))
def r38 : Row := ⟨d38, ["one", "other", "costs", "alignment", "columns", "rows", "alone", "here", "there", "unlike"], ["one", "other", "costs", "alignment"], ⟨10, 4, b38⟩, true⟩
def d39 : He.DefD := ⟨("columns_cost", none), "columns_cost", "columns_cost", defArgs (top 24), defBody (top 24), defScope (top 24), [], []⟩
def b39 : IB := (.cons (.set (.v 4) (.bin .Sub (.bin .Add (.bi .len (.cons (.fld (.v 0) 0) .nil)) (.bi .len (.cons (.fld (.v 1) 0) .nil))) (.bin .Mult (.int 2) (.bi .len (.cons (.v 3) .nil))))) (.cons (.set (.v 7) (.bi .len (.cons (.lst .fz (.comp (.v 5) (.t2 (.v 5) (.v 6)) (.seq (.v 3)) (.cons (.cmp .NotEq (.ix (.fld (.v 0) 0) (.v 5)) (.ix (.fld (.v 1) 0) (.v 6))) .nil))) .nil))) (.cons (.set (.v 8) (.bin .Sub (.bi .len (.cons (.v 3) .nil)) (.call 41 (.cons (.lst .fz (.comp (.v 6) (.t2 (.v 5) (.v 6)) (.seq (.v 3)) .nil)) .nil)))) (.cons (.ret (.bin .Add (.bin .Add (.bin .Mult (.v 4) (.fld (.v 2) 4)) (.bin .Mult (.v 7) (.fld (.v 2) 5))) (.bin .Mult (.v 8) (.fld (.v 2) 6)))) .nil))))
def r39 : Row := ⟨d39, ["one", "other", "costs", "pairs", "alone", "here", "there", "named", "moved"], ["one", "other", "costs", "pairs"], ⟨9, 4, b39⟩, true⟩
def d40 : He.DefD := ⟨("unlike_cells", none), "unlike_cells", "unlike_cells", defArgs (top 25), defBody (top 25), defScope (top 25), [], []⟩
def b40 : IB := (.cons (.par 5 6 (.e (.ix (.fld (.v 0) 1) (.v 3))) (.e (.ix (.fld (.v 1) 1) (.v 4)))) (.cons (.ret (.bi .len (.cons (.lst .fz (.comp (.v 7) (.t2 (.v 7) (.v 8)) (.seq (.v 2)) (.cons (.cmp .NotEq (.ix (.v 5) (.v 7)) (.ix (.v 6) (.v 8))) .nil))) .nil))) .nil))
def r40 : Row := ⟨d40, ["one", "other", "pairs", "here", "there", "row", "row_there", "place", "place_there"], ["one", "other", "pairs", "here", "there"], ⟨9, 5, b40⟩, true⟩
def d41 : He.DefD := ⟨("rising", none), "rising", "rising", defArgs (top 23), defBody (top 23), defScope (top 23), [], []⟩
def b41 : IB := (.cons (.own 1 (.disp .nil)) (.cons (.forr (.t2 (.v 2) (.v 3)) (.enum (.v 0)) (.cons (.own 5 (.comp (.ix (.v 1) (.v 4)) (.v 4) (.range1 (.v 2)) (.cons (.cmp .Lt (.ix (.v 0) (.v 4)) (.v 3)) .nil))) (.cons (.frz 5) (.cons (.app 1 (.bin .Add (.int 1) (.bi .max (.cons (.lst .fz (.dispS (.int 0) (.v 5))) .nil)))) .nil)))) (.cons (.frz 1) (.cons (.ret (.bi .max (.cons (.lst .fz (.dispS (.int 0) (.v 1))) .nil))) .nil))))
def r41 : Row := ⟨d41, ["numbers", "lengths", "place", "number", "ahead", "shorter"], ["numbers"], ⟨6, 1, b41⟩, true⟩
def d42 : He.DefD := ⟨("Costs", some "__init__"), "__init__", "Costs.__init__", defArgs (inClass (top 30) 0), defBody (inClass (top 30) 0), defScope (inClass (top 30) 0), [], [("cell", .int 3), ("row", .int 4), ("column", .int 5), ("name", .int 1), ("move", .int 1)]⟩
def b42 : IB := (.cons (.forr (.v 6) (.seq (.tup (.cons (.v 1) (.cons (.v 2) (.cons (.v 3) (.cons (.v 4) (.cons (.v 5) .nil))))))) (.cons (.iff (.nt (.call 13 (.cons (.v 6) (.cons (.int 1) (.cons (.gi "MOST_COST" 50) .nil))))) (.cons (.rais 6 (.v 6)) .nil) .nil) .nil)) (.cons (.setfld (.v 0) 2 (.v 1)) (.cons (.setfld (.v 0) 3 (.v 2)) (.cons (.setfld (.v 0) 4 (.v 3)) (.cons (.setfld (.v 0) 5 (.v 4)) (.cons (.setfld (.v 0) 6 (.v 5)) .nil))))))
def r42 : Row := ⟨d42, ["self", "cell", "row", "column", "name", "move", "value"], ["self", "cell", "row", "column", "name", "move"], ⟨7, 6, b42⟩, false⟩
def d43 : He.DefD := ⟨("Costs", some "__eq__"), "__eq__", "Costs.__eq__", defArgs (inClass (top 30) 2), defBody (inClass (top 30) 2), defScope (inClass (top 30) 2), [], []⟩
def b43 : IB := (.cons (.ret (.bo .And (.cons (.isi (.v 1) (.cls 1)) (.cons (.cmp .Eq (.meth 0 (.v 0)) (.meth 0 (.v 1))) .nil)))) .nil)
def r43 : Row := ⟨d43, ["self", "other"], ["self", "other"], ⟨2, 2, b43⟩, true⟩
def d44 : He.DefD := ⟨("Costs", some "all_five"), "all_five", "Costs.all_five", defArgs (inClass (top 30) 1), defBody (inClass (top 30) 1), defScope (inClass (top 30) 1), [], []⟩
def b44 : IB := (.cons (.ret (.tup (.cons (.fld (.v 0) 2) (.cons (.fld (.v 0) 3) (.cons (.fld (.v 0) 4) (.cons (.fld (.v 0) 5) (.cons (.fld (.v 0) 6) .nil))))))) .nil)
def r44 : Row := ⟨d44, ["self"], ["self"], ⟨1, 1, b44⟩, true⟩
def d45 : He.DefD := ⟨("_law_costs", none), "_law_costs", "_law_costs", defArgs (top 48), defBody (top 48), defScope (top 48), [], []⟩
def b45 : IB := (.cons (.ret (.newk 1 [.ar 0, .ar 1, .ar 2, .ar 3, .ar 4] .nil (.cons (.ix (.v 0) (.int 0)) (.cons (.ix (.v 0) (.int 1)) (.cons (.ix (.v 0) (.int 2)) (.cons (.ix (.v 0) (.int 3)) (.cons (.ix (.v 0) (.int 4)) .nil))))))) .nil)
def r45 : Row := ⟨d45, ["_law_bill_here"], ["_law_bill_here"], ⟨1, 1, b45⟩, true⟩
def d46 : He.DefD := ⟨("_law_bill", none), "_law_bill", "_law_bill", defArgs (top 47), defBody (top 47), defScope (top 47), [], []⟩
def b46 : IB := (.cons (.ret (.lst .fz (.comp (.call 2 (.cons (.v 0) (.cons (.lst .fz (.disp (.cons (.int 3) (.cons (.int 1) (.cons (.int 2) (.cons (.int 5) (.cons (.int 50) .nil))))))) .nil))) (.v 1) (.range1 (.int 5)) .nil))) .nil)
def r46 : Row := ⟨d46, ["_law_pot_here", "_law_turn"], ["_law_pot_here"], ⟨2, 1, b46⟩, true⟩
def d50 : He.DefD := ⟨("_law_turned", none), "_law_turned", "_law_turned", defArgs (top 51), defBody (top 51), defScope (top 51), [], []⟩
def b50 : IB := (.cons (.ret (.bi .tuple (.cons (.lst .fz (.comp (.bi .tuple (.cons (.lst .fz (.sortp (.lst .fz (.comp (.tup (.cons (.v 3) (.cons (.v 2) .nil))) (.t2 (.v 2) (.v 3)) (.seq (.v 1)) .nil)))) .nil)) (.v 1) (.seq (.v 0)) .nil)) .nil))) .nil)
def r50 : Row := ⟨d50, ["_law_laid_here", "_law_part", "_law_i", "_law_j"], ["_law_laid_here"], ⟨4, 1, b50⟩, true⟩
def d51 : He.DefD := ⟨("_law_right", none), "_law_right", "_law_right", defArgs (top 52), defBody (top 52), defScope (top 52), [], []⟩
def b51 : IB := (.cons (.own 2 (.comp (.call 19 (.cons (.v 0) (.cons (.int 3) (.cons (.int 6) .nil)))) (.v 1) (.range1 (.int 3)) .nil)) (.cons (.frz 2) (.cons (.set (.t3 (.v 3) (.v 4) (.v 5)) (.v 2)) (.cons (.par 6 7 (.e (.call 45 (.cons (.lst .fz (.disp (.cons (.int 3) (.cons (.int 4) (.cons (.int 5) (.cons (.int 1) (.cons (.int 1) .nil))))))) .nil))) (.l (.disp (.cons (.int 3) (.cons (.int 4) (.cons (.int 5) (.cons (.int 1) (.cons (.int 1) .nil)))))))) (.cons (.iff (.cmp .Eq (.call 1 (.cons (.v 0) (.cons (.int 2) .nil))) (.int 0)) (.cons (.set (.v 7) (.call 46 (.cons (.v 0) .nil))) (.cons (.set (.v 6) (.call 45 (.cons (.v 7) .nil))) .nil)) .nil) (.cons (.par 8 9 (.e (.call 21 (.cons (.v 0) (.cons (.v 3) (.cons (.v 4) .nil))))) (.e (.call 21 (.cons (.v 0) (.cons (.v 4) (.cons (.v 5) .nil)))))) (.cons (.set (.v 10) (.call 52 (.cons (.v 8) (.cons (.v 9) .nil)))) (.cons (.iff (.cmp .IsNot (.call 18 (.cons (.v 3) (.cons (.v 5) (.cons (.v 10) .nil)))) (.bl true)) (.cons (.ret (.bl false)) .nil) .nil) (.cons (.par 11 12 (.e (.call 37 (.cons (.v 3) (.cons (.v 4) (.cons (.v 6) (.cons (.v 8) .nil)))))) (.e (.call 37 (.cons (.v 4) (.cons (.v 5) (.cons (.v 6) (.cons (.v 9) .nil))))))) (.cons (.iff (.bo .And (.cons (.cmp .NotEq (.ix (.v 10) (.int 0)) (.tup .nil)) (.cons (.cmp .Gt (.call 37 (.cons (.v 3) (.cons (.v 5) (.cons (.v 6) (.cons (.v 10) .nil))))) (.bin .Add (.v 11) (.v 12))) .nil))) (.cons (.ret (.bl false)) .nil) .nil) (.cons (.set (.v 13) (.call 50 (.cons (.v 8) .nil))) (.cons (.iff (.cmp .NotEq (.call 37 (.cons (.v 4) (.cons (.v 3) (.cons (.v 6) (.cons (.v 13) .nil))))) (.v 11)) (.cons (.ret (.bl false)) .nil) .nil) (.cons (.set (.v 14) (.call 52 (.cons (.v 8) (.cons (.v 13) .nil)))) (.cons (.own 15 (.disp (.cons (.bin .Sub (.bi .len (.cons (.fld (.v 3) 0) .nil)) (.bi .len (.cons (.ix (.v 14) (.int 0)) .nil))) (.cons (.bin .Sub (.bi .len (.cons (.fld (.v 3) 1) .nil)) (.bi .len (.cons (.ix (.v 14) (.int 1)) .nil))) .nil)))) (.cons (.ret (.cmp .Eq (.call 37 (.cons (.v 3) (.cons (.v 3) (.cons (.v 6) (.cons (.v 14) .nil))))) (.bin .Mult (.int 2) (.bin .Add (.bin .Mult (.ix (.v 7) (.int 2)) (.ix (.v 15) (.int 0))) (.bin .Mult (.ix (.v 7) (.int 1)) (.ix (.v 15) (.int 1))))))) .nil)))))))))))))))
def r51 : Row := ⟨d51, ["_law_pot_here", "_law_turn", "_law_tables", "_law_first", "_law_second", "_law_third", "_law_costs_here", "_law_bill_here", "_law_laid_here", "_law_further", "_law_both", "_law_price", "_law_more", "_law_back", "_law_home", "_law_gone"], ["_law_pot_here"], ⟨16, 1, b51⟩, true⟩
def d52 : He.DefD := ⟨("_law_behind", none), "_law_behind", "_law_behind", defArgs (top 50), defBody (top 50), defScope (top 50), [], []⟩
def b52 : IB := (.cons (.set (.v 2) (.call 53 (.cons (.ix (.v 0) (.int 0)) (.cons (.ix (.v 1) (.int 0)) .nil)))) (.cons (.ret (.tup (.cons (.v 2) (.cons (.ite (.cmp .NotEq (.v 2) (.tup .nil)) (.call 53 (.cons (.ix (.v 0) (.int 1)) (.cons (.ix (.v 1) (.int 1)) .nil))) (.tup .nil)) .nil)))) .nil))
def r52 : Row := ⟨d52, ["_law_laid_here", "_law_further", "_law_heads"], ["_law_laid_here", "_law_further"], ⟨3, 2, b52⟩, true⟩
def d53 : He.DefD := ⟨("_law_joined", none), "_law_joined", "_law_joined", defArgs (top 49), defBody (top 49), defScope (top 49), [], []⟩
def b53 : IB := (.cons (.set (.v 2) (.dctp (.lst .fz (.listOf (.v 1))))) (.cons (.ret (.bi .tuple (.cons (.lst .fz (.comp (.tup (.cons (.v 3) (.cons (.dIx (.v 2) (.v 4)) .nil))) (.t2 (.v 3) (.v 4)) (.seq (.v 0)) (.cons (.dIn (.v 4) (.v 2)) .nil))) .nil))) .nil))
def r53 : Row := ⟨d53, ["_law_one_part", "_law_next_part", "_law_known", "_law_i", "_law_j"], ["_law_one_part", "_law_next_part"], ⟨5, 2, b53⟩, true⟩
def r23 : Row := r0
def r24 : Row := r0
def r25 : Row := r0
def r26 : Row := r0
def r27 : Row := r0
def r28 : Row := r0
def r29 : Row := r0
def r30 : Row := r0
def r31 : Row := r0
def r32 : Row := r0
def r33 : Row := r0
def r34 : Row := r0
def r35 : Row := r0
def r36 : Row := r0
def r47 : Row := r0
def r48 : Row := r0
def r49 : Row := r0
def x0 : XD := ⟨"BadColumns", "BadColumns.__init__", defArgs (inClass (top 2) 0), defBody (inClass (top 2) 0), defScope (inClass (top 2) 0), "self", "value", "value"⟩
def x1 : XD := ⟨"BadRows", "BadRows.__init__", defArgs (inClass (top 3) 0), defBody (inClass (top 3) 0), defScope (inClass (top 3) 0), "self", "value", "value"⟩
def x2 : XD := ⟨"BadRow", "BadRow.__init__", defArgs (inClass (top 4) 0), defBody (inClass (top 4) 0), defScope (inClass (top 4) 0), "self", "value", "value"⟩
def x3 : XD := ⟨"TooMany", "TooMany.__init__", defArgs (inClass (top 7) 0), defBody (inClass (top 7) 0), defScope (inClass (top 7) 0), "self", "limit", "limit"⟩
def x4 : XD := ⟨"BadAlignment", "BadAlignment.__init__", defArgs (inClass (top 6) 0), defBody (inClass (top 6) 0), defScope (inClass (top 6) 0), "self", "value", "value"⟩
def x6 : XD := ⟨"BadCost", "BadCost.__init__", defArgs (inClass (top 5) 0), defBody (inClass (top 5) 0), defScope (inClass (top 5) 0), "self", "value", "value"⟩
def tab : Tab where
  rows := [r0, r1, r2, r3, r4, r5, r6, r7, r8, r9, r10, r11, r12, r13, r14, r15, r16, r17, r18, r19, r20, r21, r22, r23, r24, r25, r26, r27, r28, r29, r30, r31, r32, r33, r34, r35, r36, r37, r38, r39, r40, r41, r42, r43, r44, r45, r46, r47, r48, r49, r50, r51, r52, r53]
  r0 := r0
  cnm := ["Table", "Costs"]
  att := ["columns", "rows", "cell", "row", "column", "name", "move"]
  gi := [("MOST_ROWS", 6), ("MOST_COLUMNS", 3), ("MOST_LETTERS", 8), ("GREATEST", 999), ("PAIR", 2), ("MOST_COST", 50)]
  gs := [("SMALL", "abcdefghijklmnopqrstuvwxyz")]
  isf := [0, 1, 2, 3, 4, 5, 6, 9, 10, 11, 12, 13, 14, 15, 16, 17, 18, 19, 20, 21, 22, 37, 38, 39, 40, 41, 45, 46, 50, 51, 52, 53]
  cs := [0, 1]
  mks := [(0, 7), (1, 42)]
  xs := [(0, x0), (1, x1), (2, x2), (3, x3), (4, x4), (6, x6)]
  file := prog.main.file
  eqs := [(0, 8), (1, 43)]
  pats := [(42, 1, ["cell", "row", "column", "name", "move"], [.ar 0, .ar 1, .ar 2, .ar 3, .ar 4, .ar 5])]
  mnm := ["all_five"]
  mth := [((1, 0), 44)]
end T.Law
end

section
namespace T.Law
open PySem PySem.Spec PyProof.Rows L2 T
theorem ok0 : r0.ok := ⟨⟨rfl, rfl, rfl, by decide +kernel, rfl, by decide +kernel, by decide +kernel⟩, fun _ _ _ _ _ _ _ us hl => match us, hl with | [_], _ => rfl⟩
theorem ok1 : r1.ok := ⟨⟨rfl, rfl, rfl, by decide +kernel, rfl, by decide +kernel, by decide +kernel⟩, fun _ _ _ _ _ _ _ us hl => match us, hl with | [_, _], _ => rfl⟩
theorem ok2 : r2.ok := ⟨⟨rfl, rfl, rfl, by decide +kernel, rfl, by decide +kernel, by decide +kernel⟩, fun _ _ _ _ _ _ _ us hl => match us, hl with | [_, _], _ => rfl⟩
theorem ok3 : r3.ok := ⟨⟨rfl, rfl, rfl, by decide +kernel, rfl, by decide +kernel, by decide +kernel⟩, fun _ _ _ _ _ _ _ us hl => match us, hl with | [_, _], _ => rfl⟩
theorem ok4 : r4.ok := ⟨⟨rfl, rfl, rfl, by decide +kernel, rfl, by decide +kernel, by decide +kernel⟩, fun _ _ _ _ _ _ _ us hl => match us, hl with | [_, _], _ => rfl⟩
theorem ok5 : r5.ok := ⟨⟨rfl, rfl, rfl, by decide +kernel, rfl, by decide +kernel, by decide +kernel⟩, fun _ _ _ _ _ _ _ us hl => match us, hl with | [_], _ => rfl⟩
theorem ok6 : r6.ok := ⟨⟨rfl, rfl, rfl, by decide +kernel, rfl, by decide +kernel, by decide +kernel⟩, fun _ _ _ _ _ _ _ us hl => match us, hl with | [_, _, _], _ => rfl⟩
theorem ok7 : r7.ok := ⟨⟨rfl, rfl, rfl, by decide +kernel, rfl, by decide +kernel, by decide +kernel⟩, fun _ _ _ _ _ _ _ us hl => match us, hl with | [_, _, _], _ => rfl⟩
theorem ok8 : r8.ok := ⟨⟨rfl, rfl, rfl, by decide +kernel, rfl, by decide +kernel, by decide +kernel⟩, fun _ _ _ _ _ _ _ us hl => match us, hl with | [_, _], _ => rfl⟩
theorem ok9 : r9.ok := ⟨⟨rfl, rfl, rfl, by decide +kernel, rfl, by decide +kernel, by decide +kernel⟩, fun _ _ _ _ _ _ _ us hl => match us, hl with | [_], _ => rfl⟩
theorem ok10 : r10.ok := ⟨⟨rfl, rfl, rfl, by decide +kernel, rfl, by decide +kernel, by decide +kernel⟩, fun _ _ _ _ _ _ _ us hl => match us, hl with | [_, _], _ => rfl⟩
theorem ok11 : r11.ok := ⟨⟨rfl, rfl, rfl, by decide +kernel, rfl, by decide +kernel, by decide +kernel⟩, fun _ _ _ _ _ _ _ us hl => match us, hl with | [_], _ => rfl⟩
theorem ok12 : r12.ok := ⟨⟨rfl, rfl, rfl, by decide +kernel, rfl, by decide +kernel, by decide +kernel⟩, fun _ _ _ _ _ _ _ us hl => match us, hl with | [_], _ => rfl⟩
theorem ok13 : r13.ok := ⟨⟨rfl, rfl, rfl, by decide +kernel, rfl, by decide +kernel, by decide +kernel⟩, fun _ _ _ _ _ _ _ us hl => match us, hl with | [_, _, _], _ => rfl⟩
theorem ok14 : r14.ok := ⟨⟨rfl, rfl, rfl, by decide +kernel, rfl, by decide +kernel, by decide +kernel⟩, fun _ _ _ _ _ _ _ us hl => match us, hl with | [_], _ => rfl⟩
theorem ok15 : r15.ok := ⟨⟨rfl, rfl, rfl, by decide +kernel, rfl, by decide +kernel, by decide +kernel⟩, fun _ _ _ _ _ _ _ us hl => match us, hl with | [_, _], _ => rfl⟩
theorem ok16 : r16.ok := ⟨⟨rfl, rfl, rfl, by decide +kernel, rfl, by decide +kernel, by decide +kernel⟩, fun _ _ _ _ _ _ _ us hl => match us, hl with | [_, _, _], _ => rfl⟩
theorem ok17 : r17.ok := ⟨⟨rfl, rfl, rfl, by decide +kernel, rfl, by decide +kernel, by decide +kernel⟩, fun _ _ _ _ _ _ _ us hl => match us, hl with | [_, _, _], _ => rfl⟩
theorem ok18 : r18.ok := ⟨⟨rfl, rfl, rfl, by decide +kernel, rfl, by decide +kernel, by decide +kernel⟩, fun _ _ _ _ _ _ _ us hl => match us, hl with | [_, _, _], _ => rfl⟩
theorem ok19 : r19.ok := ⟨⟨rfl, rfl, rfl, by decide +kernel, rfl, by decide +kernel, by decide +kernel⟩, fun _ _ _ _ _ _ _ us hl => match us, hl with | [_, _, _], _ => rfl⟩
theorem ok20 : r20.ok := ⟨⟨rfl, rfl, rfl, by decide +kernel, rfl, by decide +kernel, by decide +kernel⟩, fun _ _ _ _ _ _ _ us hl => match us, hl with | [_, _, _], _ => rfl⟩
theorem ok21 : r21.ok := ⟨⟨rfl, rfl, rfl, by decide +kernel, rfl, by decide +kernel, by decide +kernel⟩, fun _ _ _ _ _ _ _ us hl => match us, hl with | [_, _, _], _ => rfl⟩
theorem ok22 : r22.ok := ⟨⟨rfl, rfl, rfl, by decide +kernel, rfl, by decide +kernel, by decide +kernel⟩, fun _ _ _ _ _ _ _ us hl => match us, hl with | [_, _, _], _ => rfl⟩
theorem ok23 : r23.ok := ok0
theorem ok24 : r24.ok := ok0
theorem ok25 : r25.ok := ok0
theorem ok26 : r26.ok := ok0
theorem ok27 : r27.ok := ok0
theorem ok28 : r28.ok := ok0
theorem ok29 : r29.ok := ok0
theorem ok30 : r30.ok := ok0
theorem ok31 : r31.ok := ok0
theorem ok32 : r32.ok := ok0
theorem ok33 : r33.ok := ok0
theorem ok34 : r34.ok := ok0
theorem ok35 : r35.ok := ok0
theorem ok36 : r36.ok := ok0
theorem ok37 : r37.ok := ⟨⟨rfl, rfl, rfl, by decide +kernel, rfl, by decide +kernel, by decide +kernel⟩, fun _ _ _ _ _ _ _ us hl => match us, hl with | [_, _, _, _], _ => rfl⟩
theorem ok38 : r38.ok := ⟨⟨rfl, rfl, rfl, by decide +kernel, rfl, by decide +kernel, by decide +kernel⟩, fun _ _ _ _ _ _ _ us hl => match us, hl with | [_, _, _, _], _ => rfl⟩
theorem ok39 : r39.ok := ⟨⟨rfl, rfl, rfl, by decide +kernel, rfl, by decide +kernel, by decide +kernel⟩, fun _ _ _ _ _ _ _ us hl => match us, hl with | [_, _, _, _], _ => rfl⟩
theorem ok40 : r40.ok := ⟨⟨rfl, rfl, rfl, by decide +kernel, rfl, by decide +kernel, by decide +kernel⟩, fun _ _ _ _ _ _ _ us hl => match us, hl with | [_, _, _, _, _], _ => rfl⟩
theorem ok41 : r41.ok := ⟨⟨rfl, rfl, rfl, by decide +kernel, rfl, by decide +kernel, by decide +kernel⟩, fun _ _ _ _ _ _ _ us hl => match us, hl with | [_], _ => rfl⟩
theorem ok42 : r42.ok := ⟨⟨rfl, rfl, rfl, by decide +kernel, rfl, by decide +kernel, by decide +kernel⟩, fun h => nomatch h⟩
theorem ok43 : r43.ok := ⟨⟨rfl, rfl, rfl, by decide +kernel, rfl, by decide +kernel, by decide +kernel⟩, fun _ _ _ _ _ _ _ us hl => match us, hl with | [_, _], _ => rfl⟩
theorem ok44 : r44.ok := ⟨⟨rfl, rfl, rfl, by decide +kernel, rfl, by decide +kernel, by decide +kernel⟩, fun _ _ _ _ _ _ _ us hl => match us, hl with | [_], _ => rfl⟩
theorem ok45 : r45.ok := ⟨⟨rfl, rfl, rfl, by decide +kernel, rfl, by decide +kernel, by decide +kernel⟩, fun _ _ _ _ _ _ _ us hl => match us, hl with | [_], _ => rfl⟩
theorem ok46 : r46.ok := ⟨⟨rfl, rfl, rfl, by decide +kernel, rfl, by decide +kernel, by decide +kernel⟩, fun _ _ _ _ _ _ _ us hl => match us, hl with | [_], _ => rfl⟩
theorem ok47 : r47.ok := ok0
theorem ok48 : r48.ok := ok0
theorem ok49 : r49.ok := ok0
theorem ok50 : r50.ok := ⟨⟨rfl, rfl, rfl, by decide +kernel, rfl, by decide +kernel, by decide +kernel⟩, fun _ _ _ _ _ _ _ us hl => match us, hl with | [_], _ => rfl⟩
theorem ok51 : r51.ok := ⟨⟨rfl, rfl, rfl, by decide +kernel, rfl, by decide +kernel, by decide +kernel⟩, fun _ _ _ _ _ _ _ us hl => match us, hl with | [_], _ => rfl⟩
theorem ok52 : r52.ok := ⟨⟨rfl, rfl, rfl, by decide +kernel, rfl, by decide +kernel, by decide +kernel⟩, fun _ _ _ _ _ _ _ us hl => match us, hl with | [_, _], _ => rfl⟩
theorem ok53 : r53.ok := ⟨⟨rfl, rfl, rfl, by decide +kernel, rfl, by decide +kernel, by decide +kernel⟩, fun _ _ _ _ _ _ _ us hl => match us, hl with | [_, _], _ => rfl⟩
theorem rowsOk : ∀ r ∈ tab.rows, r.ok := by
  intro r hr
  simp only [tab, List.mem_cons, List.not_mem_nil, or_false] at hr
  rcases hr with rfl | rfl | rfl | rfl | rfl | rfl | rfl | rfl | rfl | rfl | rfl | rfl | rfl | rfl | rfl | rfl | rfl | rfl | rfl | rfl | rfl | rfl | rfl | rfl | rfl | rfl | rfl | rfl | rfl | rfl | rfl | rfl | rfl | rfl | rfl | rfl | rfl | rfl | rfl | rfl | rfl | rfl | rfl | rfl | rfl | rfl | rfl | rfl | rfl | rfl | rfl | rfl | rfl | rfl
  · exact ok0
  · exact ok1
  · exact ok2
  · exact ok3
  · exact ok4
  · exact ok5
  · exact ok6
  · exact ok7
  · exact ok8
  · exact ok9
  · exact ok10
  · exact ok11
  · exact ok12
  · exact ok13
  · exact ok14
  · exact ok15
  · exact ok16
  · exact ok17
  · exact ok18
  · exact ok19
  · exact ok20
  · exact ok21
  · exact ok22
  · exact ok23
  · exact ok24
  · exact ok25
  · exact ok26
  · exact ok27
  · exact ok28
  · exact ok29
  · exact ok30
  · exact ok31
  · exact ok32
  · exact ok33
  · exact ok34
  · exact ok35
  · exact ok36
  · exact ok37
  · exact ok38
  · exact ok39
  · exact ok40
  · exact ok41
  · exact ok42
  · exact ok43
  · exact ok44
  · exact ok45
  · exact ok46
  · exact ok47
  · exact ok48
  · exact ok49
  · exact ok50
  · exact ok51
  · exact ok52
  · exact ok53
theorem xok0 : x0.Ok ∧ x0.Bd := ⟨⟨by decide +kernel, rfl, rfl, rfl, by decide +kernel, rfl, rfl, rfl, rfl, by decide +kernel, by decide +kernel, ⟨by decide +kernel, by decide +kernel⟩, ⟨by decide +kernel, by decide +kernel⟩, rfl⟩, ⟨fun _ _ _ _ _ _ _ us hl => match us, hl with | [_, _], _ => rfl⟩⟩
theorem xok1 : x1.Ok ∧ x1.Bd := ⟨⟨by decide +kernel, rfl, rfl, rfl, by decide +kernel, rfl, rfl, rfl, rfl, by decide +kernel, by decide +kernel, ⟨by decide +kernel, by decide +kernel⟩, ⟨by decide +kernel, by decide +kernel⟩, rfl⟩, ⟨fun _ _ _ _ _ _ _ us hl => match us, hl with | [_, _], _ => rfl⟩⟩
theorem xok2 : x2.Ok ∧ x2.Bd := ⟨⟨by decide +kernel, rfl, rfl, rfl, by decide +kernel, rfl, rfl, rfl, rfl, by decide +kernel, by decide +kernel, ⟨by decide +kernel, by decide +kernel⟩, ⟨by decide +kernel, by decide +kernel⟩, rfl⟩, ⟨fun _ _ _ _ _ _ _ us hl => match us, hl with | [_, _], _ => rfl⟩⟩
theorem xok3 : x3.Ok ∧ x3.Bd := ⟨⟨by decide +kernel, rfl, rfl, rfl, by decide +kernel, rfl, rfl, rfl, rfl, by decide +kernel, by decide +kernel, ⟨by decide +kernel, by decide +kernel⟩, ⟨by decide +kernel, by decide +kernel⟩, rfl⟩, ⟨fun _ _ _ _ _ _ _ us hl => match us, hl with | [_, _], _ => rfl⟩⟩
theorem xok4 : x4.Ok ∧ x4.Bd := ⟨⟨by decide +kernel, rfl, rfl, rfl, by decide +kernel, rfl, rfl, rfl, rfl, by decide +kernel, by decide +kernel, ⟨by decide +kernel, by decide +kernel⟩, ⟨by decide +kernel, by decide +kernel⟩, rfl⟩, ⟨fun _ _ _ _ _ _ _ us hl => match us, hl with | [_, _], _ => rfl⟩⟩
theorem xok6 : x6.Ok ∧ x6.Bd := ⟨⟨by decide +kernel, rfl, rfl, rfl, by decide +kernel, rfl, rfl, rfl, rfl, by decide +kernel, by decide +kernel, ⟨by decide +kernel, by decide +kernel⟩, ⟨by decide +kernel, by decide +kernel⟩, rfl⟩, ⟨fun _ _ _ _ _ _ _ us hl => match us, hl with | [_, _], _ => rfl⟩⟩
theorem xsOk : ∀ x ∈ tab.xl, x.Ok ∧ x.Bd := by
  intro x hx
  simp only [Tab.xl, tab, List.map_cons, List.map_nil, List.mem_cons, List.not_mem_nil, or_false] at hx
  rcases hx with rfl | rfl | rfl | rfl | rfl | rfl
  · exact xok0
  · exact xok1
  · exact xok2
  · exact xok3
  · exact xok4
  · exact xok6
theorem kw0 : KwOk r42 1 ["cell", "row", "column", "name", "move"] [.ar 0, .ar 1, .ar 2, .ar 3, .ar 4, .ar 5] := ⟨rfl, .inr ⟨by simp [r42, d42], [], by simp [r42, d42, dvOf], by simp, fun _ _ _ _ _ _ us mv ws h1 h2 h3 => match us, mv, ws, h1, h2, h3 with | [_], [], [_, _, _, _, _], _, _, _ => by exact rfl⟩⟩
theorem kwsOk : ∀ q ∈ tab.pats, KwOk (tab.row q.1) q.2.1 q.2.2.1 q.2.2.2 := by
  intro q hq
  simp only [tab, List.mem_cons, List.not_mem_nil, or_false] at hq
  rcases hq with rfl
  · exact kw0
theorem tabOk : tab.ok = true := by decide +kernel
def nm0 : List Str := ["HeldError", "BadColumns", "BadRows", "BadRow", "BadCost", "BadAlignment", "TooMany", "SMALL", "MOST_LETTERS", "GREATEST", "is_integer", "is_within", "is_word", "is_cell", "PAIR", "is_place", "is_pair", "are_pairs", "is_alignment", "checked_alignment"]
def nm1 : List Str := ["rising", "columns_cost", "unlike_cells", "full_cost", "cost_of", "MOST_COST", "Costs", "MOST_COLUMNS", "MOST_ROWS", "are_columns", "is_row", "Table", "_law_draw", "_law_any", "_law_pot", "_law_words", "_law_cell", "_law_rows", "_law_table", "_law_drawn_pairs"]
def nm2 : List Str := ["_law_laid", "_law_bill", "_law_costs", "_law_joined", "_law_behind", "_law_turned", "_law_right"]
def names : List Str := nm0 ++ nm1 ++ nm2
abbrev R : PySem.W.OpenRow := PySem.W.OpenLaw.row PySem.Challenge.rw_tableheld_k12_whole_alignments_one_behin
def fnl : List He.DefD := tab.rows.map (·.d)
abbrev hk : PySem.W.Hook := hookT 5 fnl tab.xl tab.ex
def ob (s : PySem.W.SharedT) : AlT := obsT 5 fnl tab.xl tab.ex (HandSHeadRun.getT s)
theorem ob_eq (s : PySem.W.SharedT) : ob s = hk.obs s.abs := obsT_eq (HandSHeadRun.getT_eq s)
theorem run (w : World) : HandSHeadRun.RunEq R (PySem.W.view R.prog [53]) hk ob 8000 names w := by
  intro os
  kernel_rfl
end T.Law
end

section
namespace T.Law
open PySem PySem.Spec L2 T T.Lib
theorem HA : Ha tab.pg where
  f1 := rfl
  f2 := rfl
  f3 := rfl
  f4 := rfl
  f5 := rfl
  f6 := rfl
  f7 := rfl
  f8 := rfl
  f9 := rfl
  f10 := rfl
  f11 := rfl
  f12 := rfl
  f13 := rfl
  f14 := rfl
  i0 := rfl
  e0 := rfl
  f15 := rfl
  f16 := rfl
  f17 := rfl
  f18 := rfl
  f19 := rfl
theorem HC : Hc45 tab.pg where
  toHa := HA
  f22 := rfl
  f37 := rfl
  f38 := rfl
  f39 := rfl
  f40 := rfl
  f41 := rfl
  f42 := rfl
  f45 := rfl
  i1 := rfl
theorem fn46 : tab.pg.fn 46 = some ⟨2, 1, Lib.b46⟩ := rfl
theorem f21 : tab.pg.fn 21 = some ⟨4, 3, Lib.b21⟩ := rfl
theorem f20 : tab.pg.fn 20 = some ⟨6, 3, Lib.b20⟩ := rfl
theorem HD : T.Lib.Hd tab.pg where
  toHa := HA
  f20 := rfl
  f21 := rfl
theorem fn50 : tab.pg.fn 50 = some ⟨4, 1, b50⟩ := rfl
theorem fn51 : tab.pg.fn 51 = some ⟨16, 1, b51⟩ := rfl
theorem fn52 : tab.pg.fn 52 = some ⟨3, 2, b52⟩ := rfl
theorem fn53 : tab.pg.fn 53 = some ⟨5, 2, b53⟩ := rfl
def alP (cs rs : List (Int × Int)) : D := .tup [tupP cs, tupP rs]
/-! ### turned about -/
theorem pairsD_map : ∀ ps : List (Int × Int), pairsD (ps.map prI) = some ps
  | [] => rfl
  | p :: ps => by
    show (pairsD (ps.map prI)).map ((p.1, p.2) :: ·) = _
    rw [pairsD_map ps]
    rfl
theorem turn_run {pg : Pg} {cf : CF} {cs rs : List (Int × Int)} {μ : Store} (l1 : cs.length ≤ 100) (l2 : rs.length ≤ 100) : runF pg cf ⟨4, 1, b50⟩ [alP cs rs] μ = .ok (alP (turn cs) (turn rs)) μ := by
  have hz := sizeLine_eq
  refine runF_ret (σ := [.val (alP cs rs), .emp, .emp, .emp]) rfl rfl ?_
  have inner : ∀ ps : List (Int × Int), ps.length ≤ 100 → evE pg cf false (.bi .tuple (.cons (.lst .fz (.sortp (.lst .fz (.comp (.tup (.cons (.v 3) (.cons (.v 2) .nil))) (.t2 (.v 2) (.v 3)) (.seq (.v 1)) .nil)))) .nil)) [.val (alP cs rs), .val (tupP ps), .emp, .emp] μ = .ok (tupP (turn ps)) μ := fun ps hl => by
    have e := comp2 (pg := pg) (cf := cf) (e := .tup (.cons (.v 3) (.cons (.v 2) .nil))) (it := .seq (.v 1)) (i := 2) (j := 3) (σ := [.val (alP cs rs), .val (tupP ps), .emp, .emp]) (μ := μ) (ps := ps) (co := .nil) (g := fun _ => true) (f := fun p => prI (swp p)) (by decide) (by simp) (by simp) (it_seq (d := tupP ps) rfl (.inl rfl)) (by omega) fun p hp => ⟨rfl, fun _ => rfl⟩
    have em : (ps.filter fun _ => true).map (fun p => prI (swp p)) = (ps.map swp).map prI := by
      rw [List.filter_eq_self.mpr fun _ _ => rfl, List.map_map]
      rfl
    rw [em] at e
    have e2 := lst_eval (o := true) e
    generalize IE.lst .fz (.comp (.tup (.cons (.v 3) (.cons (.v 2) .nil))) (.t2 (.v 2) (.v 3)) (.seq (.v 1)) .nil) = M at e2 ⊢
    have e3 : evL pg cf (.sortp M) [.val (alP cs rs), .val (tupP ps), .emp, .emp] μ = .ok ((turn ps).map prI) μ := by
      unfold evL
      rw [e2, ok_bind]
      have hv : (lview μ (.lst ((ps.map swp).map prI))).bind pairsD = some (ps.map swp) := pairsD_map (ps.map swp)
      rw [hv]
      rfl
    show ((evE pg cf true (.lst .fz (.sortp M)) _ μ).bind _).bind _ = _
    rw [lst_eval e3]
    rfl
  have e := comp_fm (pg := pg) (cf := cf) (e := .bi .tuple (.cons (.lst .fz (.sortp (.lst .fz (.comp (.tup (.cons (.v 3) (.cons (.v 2) .nil))) (.t2 (.v 2) (.v 3)) (.seq (.v 1)) .nil)))) .nil)) (it := .seq (.v 0)) (i := 1) (σ := [.val (alP cs rs), .emp, .emp, .emp]) (μ := μ) (cs := [cs, rs]) (m := tupP) (co := .nil) (g := fun _ => true) (f := fun ps => tupP (turn ps)) (by simp) (it_seq (d := alP cs rs) rfl (.inl rfl)) (by rw [hz]; simp) fun ps hp => ⟨rfl, fun _ => by
    refine inner ps ?_
    simp at hp
    rcases hp with rfl | rfl <;> assumption⟩
  rw [List.filter_eq_self.mpr fun _ _ => rfl] at e
  unfold b50
  generalize IL.comp (.bi .tuple (.cons (.lst .fz (.sortp (.lst .fz (.comp (.tup (.cons (.v 3) (.cons (.v 2) .nil))) (.t2 (.v 2) (.v 3)) (.seq (.v 1)) .nil)))) .nil)) (.v 1) (.seq (.v 0)) .nil = L at e ⊢
  have e4 : evE pg cf false (.bi .tuple (.cons (.lst .fz L) .nil)) [.val (alP cs rs), .emp, .emp, .emp] μ = .ok (alP (turn cs) (turn rs)) μ := by
    show ((evE pg cf true (.lst .fz L) _ μ).bind _).bind _ = _
    rw [lst_eval e]
    rfl
  generalize IE.bi .tuple (.cons (.lst .fz L) .nil) = M at e4 ⊢
  simp [evB, evS, e4]
theorem alP_eq (a b c e : Nat) (as bs : List (Int × Int)) : alD a b c e (alP as bs) = (psD a b (tupP as) && (psD c e (tupP bs) && (!nilD (tupP as) || nilD (tupP bs)))) := rfl
theorem al_true {m o k l : Nat} {as bs : List (Int × Int)} (h1 : PsOk m o as) (h2 : PsOk k l bs) (hn : as = [] → bs = []) : alD m o k l (alP as bs) = true := by
  rw [alP_eq, psD_iff.mpr h1, psD_iff.mpr h2]
  cases as with
  | nil => rw [hn rfl]; rfl
  | cons _ _ => rfl
theorem turn_nil {as bs : List (Int × Int)} (hn : as = [] → bs = []) : turn as = [] → turn bs = [] := fun h => by
  have l1 := turn_len as
  rw [h] at l1
  have h1 : as = [] := List.length_eq_zero_iff.mp l1.symm
  have l2 := turn_len bs
  rw [hn h1] at l2 ⊢
  exact List.length_eq_zero_iff.mp l2
/-! ### joined -/
theorem dct_prs {qs : List (Int × Int)} (hn : (qs.map (·.1)).Nodup) (μ : Store) : dctR μ (.lst (qs.map prI)) = .ok (.dct ((qs.map fun q => ((.inl q.1 : Key), D.int q.2)).map (·.1)) ((qs.map fun q => ((.inl q.1 : Key), D.int q.2)).map (·.2))) μ := by
  unfold dctR
  have hv : (lview μ (.lst (qs.map prI))).bind kvD = some (qs.map fun q => (.inl q.1, .int q.2)) := kv_prs qs
  rw [hv]
  simp only
  rw [if_pos]
  have e : (qs.map fun q => ((.inl q.1 : Key), D.int q.2)).map (·.1) = (qs.map (·.1)).map fun i => (.inl i : Key) := by
    rw [List.map_map, List.map_map]
    rfl
  rw [e]
  exact List.pairwise_map.mpr (hn.imp fun h z => h (Sum.inl.inj z))
theorem jn_run {pg : Pg} {cf : CF} {ps qs : List (Int × Int)} {μ : Store} (hn : (qs.map (·.1)).Nodup) (l1 : ps.length ≤ 100) (l2 : qs.length ≤ 100) : runF pg cf ⟨5, 2, b53⟩ [tupP ps, tupP qs] μ = .ok (tupP (jn ps qs)) μ := by
  have hz := sizeLine_eq
  refine runF_ret (σ := [.val (tupP ps), .val (tupP qs), .emp, .emp, .emp]) rfl rfl ?_
  have ed := dct_prs hn μ
  have hl := atK_look qs
  generalize (qs.map fun q => ((.inl q.1 : Key), D.int q.2)).map (·.1) = KS at *
  generalize (qs.map fun q => ((.inl q.1 : Key), D.int q.2)).map (·.2) = VS at *
  have s0 : evS pg cf (.set (.v 2) (.dctp (.lst .fz (.listOf (.v 1))))) [.val (tupP ps), .val (tupP qs), .emp, .emp, .emp] μ = .next [.val (tupP ps), .val (tupP qs), .val (.dct KS VS), .emp, .emp] μ := by
    have sv : sview μ (tupP qs) = some (qs.map prI) := rfl
    generalize tupP qs = Q at *
    generalize tupP ps = P at *
    simp [evS, evE, evL, rd, rdO, sv, ed, bindT]
  have e := comp2 (pg := pg) (cf := cf) (e := .tup (.cons (.v 3) (.cons (.dIx (.v 2) (.v 4)) .nil))) (it := .seq (.v 0)) (i := 3) (j := 4) (σ := [.val (tupP ps), .val (tupP qs), .val (.dct KS VS), .emp, .emp]) (μ := μ) (ps := ps) (co := .cons (.dIn (.v 4) (.v 2)) .nil) (g := fun p => (look qs p.2).isSome) (f := fun p => prI (p.1, (look qs p.2).getD 0)) (by decide) (by simp) (by simp) (it_seq (d := tupP ps) rfl (.inl rfl)) (by omega) fun p hp => by
    have ha : dAt (.int p.2) (.dct KS VS) = some ((look qs p.2).map .int) := by
      show some (atK KS VS (.inl p.2)) = _
      rw [hl]
    refine ⟨?_, fun hg => ?_⟩
    · cases hk : look qs p.2 <;> rw [hk] at ha <;> simp [evTs, evE, rd, dInR, ha]
    · obtain ⟨v, hk⟩ := Option.isSome_iff_exists.mp hg
      rw [hk] at ha
      simp [evE, evEs, rd, dIxR, ha, hk, prI]
  have em : (ps.filter fun p => (look qs p.2).isSome).map (fun p => prI (p.1, (look qs p.2).getD 0)) = (jn ps qs).map prI := by
    unfold jn
    rw [List.map_map]
    rfl
  rw [em] at e
  rw [show b53 = .cons (.set (.v 2) (.dctp (.lst .fz (.listOf (.v 1))))) (.cons (.ret (.bi .tuple (.cons (.lst .fz (.comp (.tup (.cons (.v 3) (.cons (.dIx (.v 2) (.v 4)) .nil))) (.t2 (.v 3) (.v 4)) (.seq (.v 0)) (.cons (.dIn (.v 4) (.v 2)) .nil))) .nil))) .nil) from rfl, evB_cons, s0, next_bind]
  generalize IL.comp (.tup (.cons (.v 3) (.cons (.dIx (.v 2) (.v 4)) .nil))) (.t2 (.v 3) (.v 4)) (.seq (.v 0)) (.cons (.dIn (.v 4) (.v 2)) .nil) = L at e ⊢
  have e4 := lst_eval (o := true) e
  show evB pg cf (.cons (.ret (.bi .tuple (.cons (.lst .fz L) .nil))) .nil) _ μ = _
  generalize tupP ps = P at *
  generalize tupP qs = Q at *
  unfold tupP
  simp [evB, evS, evE, evEs, e]
/-! ### behind -/
def bh (cs fs rs gs : List (Int × Int)) : List (Int × Int) := if jn cs fs = [] then [] else jn rs gs
theorem behind_run {cf : CF} {cs rs fs gs : List (Int × Int)} {μ : Store} (e1 : cf 53 [tupP cs, tupP fs] μ = .ok (tupP (jn cs fs)) μ) (e2 : cf 53 [tupP rs, tupP gs] μ = .ok (tupP (jn rs gs)) μ) (hn : cmpD μ .NotEq (tupP (jn cs fs)) (.tup []) = some !((jn cs fs).map prI).isEmpty) :
    runF tab.pg cf ⟨3, 2, b52⟩ [alP cs rs, alP fs gs] μ = .ok (alP (jn cs fs) (bh cs fs rs gs)) μ := by
  refine runF_ret (σ := [.val (alP cs rs), .val (alP fs gs), .emp]) rfl rfl ?_
  unfold bh alP
  by_cases h : jn cs fs = []
  · rw [if_pos h]
    have hb : (!((jn cs fs).map prI).isEmpty) = false := by rw [h]; rfl
    rw [hb] at hn
    have hT : tupP [] = .tup [] := rfl
    rw [hT]
    generalize tupP (jn cs fs) = J at *
    generalize tupP cs = CS at *
    generalize tupP rs = RS at *
    generalize tupP fs = FS at *
    generalize tupP gs = GS at *
    have i0 : ∀ x y : D, atI [x, y] 0 = some x := fun _ _ => rfl
    simp [b52, evB, evS, evE, evEs, rd, rdO, i0, e1, hn, bindT]
  · rw [if_neg h]
    have hb : (!((jn cs fs).map prI).isEmpty) = true := by
      cases hj : jn cs fs with
      | nil => exact absurd hj h
      | cons _ _ => rfl
    rw [hb] at hn
    generalize tupP (jn cs fs) = J at *
    generalize tupP (jn rs gs) = J2 at *
    generalize tupP cs = CS at *
    generalize tupP rs = RS at *
    generalize tupP fs = FS at *
    generalize tupP gs = GS at *
    have i0 : ∀ x y : D, atI [x, y] 0 = some x := fun _ _ => rfl
    have i1 : ∀ x y : D, atI [x, y] 1 = some y := fun _ _ => rfl
    simp [b52, evB, evS, evE, evEs, rd, rdO, i0, i1, e1, e2, hn, bindT]
theorem psok_sh {m n : Nat} {ps : List (Int × Int)} (h : PsOk m n ps) (μ : Store) : cmpD μ .NotEq (tupP ps) (.tup []) = some !(ps.map prI).isEmpty := ne_of_eq (eq_nil (fun d hd => by
    obtain ⟨p, _, rfl⟩ := List.mem_map.mp hd
    exact ⟨_, sh_prI p 1 (by decide)⟩) (by decide))
theorem psok_nil {m n : Nat} : PsOk m n [] := ⟨by simp [Prs], by simp, by simp⟩
theorem bh_ok {m n k : Nat} {rs gs : List (Int × Int)} (hr : PsOk m n rs) (hg : PsOk n k gs) (cs fs : List (Int × Int)) : PsOk m k (bh cs fs rs gs) := by
  unfold bh
  split
  · exact psok_nil
  · exact jn_ok hr hg
end T.Law
end

section
namespace T.Law
open PySem PySem.Spec L2 T T.Lib
/-- an alignment of two tables -/
structure AlP (h1 r1 h2 r2 : List D) (cs rs : List (Int × Int)) : Prop where
  c : PsOk h1.length h2.length cs
  r : PsOk r1.length r2.length rs
  n : cs = [] → rs = []
theorem AlP.al {h1 r1 h2 r2 : List D} {cs rs : List (Int × Int)} (h : AlP h1 r1 h2 r2 cs rs) : alD h1.length h2.length r1.length r2.length (alP cs rs) = true := al_true h.c h.r h.n
theorem AlP.turn {h1 r1 h2 r2 : List D} {cs rs : List (Int × Int)} (h : AlP h1 r1 h2 r2 cs rs) : AlP h2 r2 h1 r1 (T.Lib.turn cs) (T.Lib.turn rs) := ⟨h.c.turn, h.r.turn, turn_nil h.n⟩
theorem AlP.bh {h1 r1 h2 r2 h3 r3 : List D} {cs rs fs gs : List (Int × Int)} (h : AlP h1 r1 h2 r2 cs rs) (g : AlP h2 r2 h3 r3 fs gs) : AlP h1 r1 h3 r3 (jn cs fs) (bh cs fs rs gs) := ⟨jn_ok h.c g.c, bh_ok h.r g.r cs fs, fun e => if_pos e⟩
structure ROk (cf : CF) : Prop where
  tb : ∀ {p N : Nat} {μ : Store}, PotB μ p (N + 40) → Pots μ → ∃ hs rows μ', cf 19 [.ref p, .int 3, .int 6] μ = .ok (tabD hs rows) μ' ∧ Fit hs rows ∧ PotB μ' p N ∧ Same p μ μ' ∧ Pots μ'
  dr : DrawOk cf
  bl : ∀ {p N : Nat} {μ : Store}, PotB μ p (N + 5) → ∃ (B : Bl) (μ' : Store), cf 46 [.ref p] μ = .ok (.lst B.ds) μ' ∧ B.ok ∧ PotB μ' p N ∧ Same p μ μ'
  co : ∀ {B : Bl} {μ : Store}, B.ok → Pots μ → cf 45 [.lst B.ds] μ = .ok (cstD B) μ
  la : ∀ {h1 r1 h2 r2 : List D} {p N : Nat} {μ : Store}, Fit h1 r1 → Fit h2 r2 → PotB μ p (N + 20) → ∃ cs rs μ', cf 21 [.ref p, tabD h1 r1, tabD h2 r2] μ = .ok (alP cs rs) μ' ∧ AlP h1 r1 h2 r2 cs rs ∧ PotB μ' p N ∧ Same p μ μ'
  be : ∀ {h1 r1 h2 r2 h3 r3 : List D} {cs rs fs gs : List (Int × Int)} {μ : Store}, Fit h1 r1 → Fit h2 r2 → AlP h1 r1 h2 r2 cs rs → AlP h2 r2 h3 r3 fs gs → cf 52 [alP cs rs, alP fs gs] μ = .ok (alP (jn cs fs) (bh cs fs rs gs)) μ
  is : ∀ {h1 r1 h2 r2 : List D} {cs rs : List (Int × Int)} {μ : Store}, Fit h1 r1 → AlP h1 r1 h2 r2 cs rs → cf 18 [tabD h1 r1, tabD h2 r2, alP cs rs] μ = .ok (.bl true) μ
  ct : ∀ {h1 r1 h2 r2 : List D} {B : Bl} {cs rs : List (Int × Int)} {μ : Store}, B.ok → Fit h1 r1 → Fit h2 r2 → AlP h1 r1 h2 r2 cs rs → cf 37 [tabD h1 r1, tabD h2 r2, cstD B, alP cs rs] μ = .ok (.int (fullV B h1 r1 h2 r2 cs rs)) μ
  tu : ∀ {h1 r1 h2 r2 : List D} {cs rs : List (Int × Int)} {μ : Store}, Fit h1 r1 → AlP h1 r1 h2 r2 cs rs → cf 50 [alP cs rs] μ = .ok (alP (turn cs) (turn rs)) μ
abbrev Q16 (p : Nat) (t : D) (TA TB TC C : D) (s1 s7 s8 s9 s10 s11 s12 s13 s14 s15 : Sl) : Slots := [.val (.ref p), s1, .val t, .val TA, .val TB, .val TC, .val C, s7, s8, s9, s10, s11, s12, s13, s14, s15]
theorem tl_8 {pg : Pg} {cf : CF} {p : Nat} {t TA TB TC C L M : D} {P Q : Int} {μ : Store} {s1 s7 s10 : Sl} (c1 : cf 37 [TA, TB, C, L] μ = .ok (.int P) μ) (c2 : cf 37 [TB, TC, C, M] μ = .ok (.int Q) μ) :
    evS pg cf (.par 11 12 (.e (.call 37 (.cons (.v 3) (.cons (.v 4) (.cons (.v 6) (.cons (.v 8) .nil)))))) (.e (.call 37 (.cons (.v 4) (.cons (.v 5) (.cons (.v 6) (.cons (.v 9) .nil))))))) (Q16 p t TA TB TC C s1 s7 (.val L) (.val M) s10 .emp .emp .emp .emp .emp) μ = .next (Q16 p t TA TB TC C s1 s7 (.val L) (.val M) s10 (.val (.int P)) (.val (.int Q)) .emp .emp .emp) μ := by
  simp [evS, evV, evE, evEs, rd, c1, c2]
theorem tl_9 {pg : Pg} {cf : CF} {p : Nat} {t TA TB TC C L M H X : D} {P Q : Int} {b : Bool} {μ : Store} {s1 s7 : Sl} (hn : cmpD μ .NotEq H (.tup []) = some b) (c3 : b = true → ∃ R, cf 37 [TA, TC, C, .tup [H, X]] μ = .ok (.int R) μ ∧ R ≤ P + Q) :
    evS pg cf (.iff (.bo .And (.cons (.cmp .NotEq (.ix (.v 10) (.int 0)) (.tup .nil)) (.cons (.cmp .Gt (.call 37 (.cons (.v 3) (.cons (.v 5) (.cons (.v 6) (.cons (.v 10) .nil))))) (.bin .Add (.v 11) (.v 12))) .nil))) (.cons (.ret (.bl false)) .nil) .nil) (Q16 p t TA TB TC C s1 s7 (.val L) (.val M) (.val (.tup [H, X])) (.val (.int P)) (.val (.int Q)) .emp .emp .emp) μ = .next (Q16 p t TA TB TC C s1 s7 (.val L) (.val M) (.val (.tup [H, X])) (.val (.int P)) (.val (.int Q)) .emp .emp .emp) μ := by
  have i0 : ∀ x y : D, atI [x, y] 0 = some x := fun _ _ => rfl
  cases b with
  | false => simp [evS, evB, evE, evEs, evBo, rd, rdO, i0, hn]
  | true =>
    obtain ⟨R, e, h⟩ := c3 rfl
    have h : ¬ P + Q < R := by omega
    simp [evS, evB, evE, evEs, evBo, rd, rdO, i0, hn, e, h]
theorem tl_11 {pg : Pg} {cf : CF} {p : Nat} {t TA TB TC C L M O K : D} {P Q : Int} {μ : Store} {s1 s7 : Sl} (c4 : cf 37 [TB, TA, C, K] μ = .ok (.int P) μ) :
    evS pg cf (.iff (.cmp .NotEq (.call 37 (.cons (.v 4) (.cons (.v 3) (.cons (.v 6) (.cons (.v 13) .nil))))) (.v 11)) (.cons (.ret (.bl false)) .nil) .nil) (Q16 p t TA TB TC C s1 s7 (.val L) (.val M) (.val O) (.val (.int P)) (.val (.int Q)) (.val K) .emp .emp) μ = .next (Q16 p t TA TB TC C s1 s7 (.val L) (.val M) (.val O) (.val (.int P)) (.val (.int Q)) (.val K) .emp .emp) μ := by
  simp [evS, evB, evE, evEs, rd, rdO, c4, cmp_ne_int]
theorem tl_13 {pg : Pg} {cf : CF} {p : Nat} {t TA TB TC C L M O K : D} {P Q : Int} {h1 r1 U W : List D} {μ : Store} {s1 s7 : Sl} (f0 : fldD μ TA 0 = some (.tup h1)) (f1 : fldD μ TA 1 = some (.tup r1)) :
    evS pg cf (.own 15 (.disp (.cons (.bin .Sub (.bi .len (.cons (.fld (.v 3) 0) .nil)) (.bi .len (.cons (.ix (.v 14) (.int 0)) .nil))) (.cons (.bin .Sub (.bi .len (.cons (.fld (.v 3) 1) .nil)) (.bi .len (.cons (.ix (.v 14) (.int 1)) .nil))) .nil)))) (Q16 p t TA TB TC C s1 s7 (.val L) (.val M) (.val O) (.val (.int P)) (.val (.int Q)) (.val K) (.val (.tup [.tup U, .tup W])) .emp) μ = .next (Q16 p t TA TB TC C s1 s7 (.val L) (.val M) (.val O) (.val (.int P)) (.val (.int Q)) (.val K) (.val (.tup [.tup U, .tup W])) (.own [.int (h1.length - U.length), .int (r1.length - W.length)])) μ := by
  have i0 : ∀ x y : D, atI [x, y] 0 = some x := fun _ _ => rfl
  have i1 : ∀ x y : D, atI [x, y] 1 = some y := fun _ _ => rfl
  simp [evS, evL, evE, evEs, rd, rdO, f0, f1, i0, i1]
theorem tl_14 {pg : Pg} {cf : CF} {p : Nat} {t TA TB TC C L M O K V : D} {P Q a b : Int} {B : Bl} {μ : Store} {s1 s7 : Sl} (hB : B.ok) (h7 : s7 = .own B.ds ∨ s7 = .val (.lst B.ds)) (c5 : cf 37 [TA, TA, C, V] μ = .ok (.int (2 * (B.col * a + B.row * b))) μ) :
    evS pg cf (.ret (.cmp .Eq (.call 37 (.cons (.v 3) (.cons (.v 3) (.cons (.v 6) (.cons (.v 14) .nil))))) (.bin .Mult (.int 2) (.bin .Add (.bin .Mult (.ix (.v 7) (.int 2)) (.ix (.v 15) (.int 0))) (.bin .Mult (.ix (.v 7) (.int 1)) (.ix (.v 15) (.int 1))))))) (Q16 p t TA TB TC C s1 s7 (.val L) (.val M) (.val O) (.val (.int P)) (.val (.int Q)) (.val K) (.val V) (.own [.int a, .int b])) μ = .ret (.bl true) μ := by
  have i0 : ∀ x y : D, atI [x, y] 0 = some x := fun _ _ => rfl
  have i1 : ∀ x y : D, atI [x, y] 1 = some y := fun _ _ => rfl
  have j1 : atI B.ds 1 = some (.int B.row) := rfl
  have j2 : atI B.ds 2 = some (.int B.col) := rfl
  obtain ⟨_, b2, b3, _, _⟩ := hB
  have m1 : binD .Mult (.int B.col) (.int a) = some (.int (B.col * a)) := bin_mul (mulOk_l _ _ (by omega))
  have m2 : binD .Mult (.int B.row) (.int b) = some (.int (B.row * b)) := bin_mul (mulOk_l _ _ (by omega))
  have m3 : ∀ x : Int, binD .Mult (.int 2) (.int x) = some (.int (2 * x)) := fun x => bin_mul (mulOk_l _ _ (by decide))
  generalize B.ds = DS at *
  generalize B.col * a = CA at *
  generalize B.row * b = RB at *
  rcases h7 with rfl | rfl <;> simp [evS, evE, evEs, rd, rdO, c5, i0, i1, j1, j2, m1, m2, m3]
theorem right_run {cf : CF} (C : ROk cf) {p N : Nat} {μ : Store} (pt : PotB μ p (N + 200)) (hp : Pots μ) : ∃ μ', runF tab.pg cf ⟨16, 1, b51⟩ [.ref p] μ = .ok (.bl true) μ' ∧ PotB μ' p N ∧ Same p μ μ' ∧ Pots μ' := by
  have hz := sizeLine_eq
  obtain ⟨h1, r1, μ1, e1, f1, p1, s1, q1⟩ := C.tb (N := N + 160) pt hp
  obtain ⟨h2, r2, μ2, e2, f2, p2, s2, q2⟩ := C.tb (N := N + 120) p1 q1
  obtain ⟨h3, r3, μ3, e3, f3, p3, s3, q3⟩ := C.tb (N := N + 80) p2 q2
  obtain ⟨q, μ4, e4, q0, q1', p4, s4⟩ := C.dr (N := N + 79) p3 (m := 2) (by decide) (by decide)
  have hp4 := pots_same q3 p4 s4
  have hB0 : (⟨3, 4, 5, 1, 1⟩ : Bl).ok := by simp [Bl.ok]
  have c0 := C.co (μ := μ3) hB0 q3
  -- costs
  have hb : ∃ (B : Bl) (s7 : Sl) (μ5 : Store), evS tab.pg cf (.iff (.cmp .Eq (.call 1 (.cons (.v 0) (.cons (.int 2) .nil))) (.int 0)) (.cons (.set (.v 7) (.call 46 (.cons (.v 0) .nil))) (.cons (.set (.v 6) (.call 45 (.cons (.v 7) .nil))) .nil)) .nil) (Q16 p (.lst [tabD h1 r1, tabD h2 r2, tabD h3 r3]) (tabD h1 r1) (tabD h2 r2) (tabD h3 r3) (cstD ⟨3, 4, 5, 1, 1⟩) .emp (.own (⟨3, 4, 5, 1, 1⟩ : Bl).ds) .emp .emp .emp .emp .emp .emp .emp .emp) μ3 = .next (Q16 p (.lst [tabD h1 r1, tabD h2 r2, tabD h3 r3]) (tabD h1 r1) (tabD h2 r2) (tabD h3 r3) (cstD B) .emp s7 .emp .emp .emp .emp .emp .emp .emp .emp) μ5 ∧ B.ok ∧ (s7 = .own B.ds ∨ s7 = .val (.lst B.ds)) ∧ PotB μ5 p (N + 60) ∧ Same p μ4 μ5 := by
    have cq : cmpD μ4 .Eq (.int q) (.int 0) = some (decide (q = 0)) := rfl
    by_cases hq : q = 0
    · rw [decide_eq_true hq] at cq
      obtain ⟨B, μ5, e5, hB, p5, s5⟩ := C.bl (N := N + 60) (p4.less (by omega))
      have hp5 := pots_same hp4 p5 s5
      have ec := C.co (μ := μ5) hB hp5
      refine ⟨B, .val (.lst B.ds), μ5, ?_, hB, .inr rfl, p5, s5⟩
      generalize D.lst [tabD h1 r1, tabD h2 r2, tabD h3 r3] = TT at *
      generalize tabD h1 r1 = TA at *
      generalize tabD h2 r2 = TB at *
      generalize tabD h3 r3 = TC at *
      generalize cstD ⟨3, 4, 5, 1, 1⟩ = C0 at *
      generalize (⟨3, 4, 5, 1, 1⟩ : Bl).ds = D0 at *
      generalize cstD B = CB at *
      generalize D.lst B.ds = DB at *
      simp [evS, evB, evE, evEs, rd, e4, cq, e5, ec, bindT]
    · rw [decide_eq_false hq] at cq
      refine ⟨⟨3, 4, 5, 1, 1⟩, .own (⟨3, 4, 5, 1, 1⟩ : Bl).ds, μ4, ?_, hB0, .inl rfl, p4.less (by omega), .refl⟩
      generalize D.lst [tabD h1 r1, tabD h2 r2, tabD h3 r3] = TT at *
      generalize tabD h1 r1 = TA at *
      generalize tabD h2 r2 = TB at *
      generalize tabD h3 r3 = TC at *
      generalize cstD ⟨3, 4, 5, 1, 1⟩ = C0 at *
      generalize (⟨3, 4, 5, 1, 1⟩ : Bl).ds = D0 at *
      simp [evS, evB, evE, evEs, rd, e4, cq, bindT]
  obtain ⟨B, s7, μ5, t4, hB, h7, p5, s5⟩ := hb
  have hp5 := pots_same hp4 p5 s5
  obtain ⟨cs, rs, μ6, e6, a1, p6, s6⟩ := C.la (N := N + 40) f1 f2 p5
  obtain ⟨fs, gs, μ7, e7, a2, p7, s7'⟩ := C.la (N := N + 20) f2 f3 p6
  have hp7 := pots_same (pots_same hp5 p6 s6) p7 s7'
  have ab := a1.bh a2
  have at_ := a1.turn
  have ah := a1.bh at_
  have eb := C.be (μ := μ7) f1 f2 a1 a2
  have e18 := C.is (μ := μ7) f1 ab
  have c1 := C.ct (μ := μ7) hB f1 f2 a1
  have c2 := C.ct (μ := μ7) hB f2 f3 a2
  have c3 : (!((jn cs fs).map prI).isEmpty) = true → ∃ R, cf 37 [tabD h1 r1, tabD h3 r3, cstD B, .tup [tupP (jn cs fs), tupP (bh cs fs rs gs)]] μ7 = .ok (.int R) μ7 ∧ R ≤ fullV B h1 r1 h2 r2 cs rs + fullV B h2 r2 h3 r3 fs gs := fun h => by
    refine ⟨_, C.ct (μ := μ7) hB f1 f3 ab, ?_⟩
    have hne : jn cs fs ≠ [] := fun z => by rw [z] at h; cases h
    have : bh cs fs rs gs = jn rs gs := if_neg hne
    rw [this]
    exact jn_cost hB f1.tb f2.tb f3.tb f1.hi f2.hi f3.hi a1.c a2.c a1.r a2.r
  have et := C.tu (μ := μ7) f1 a1
  have c4 := C.ct (μ := μ7) hB f2 f1 at_
  rw [full_turn f1.tb f2.tb a1.c a1.r.pr (by have := a1.c.len; have := f1.hi; omega)] at c4
  have eh := C.be (μ := μ7) f1 f2 a1 at_
  have c5 := C.ct (μ := μ7) hB f1 f1 ah
  have hrows : bh cs (turn cs) rs (turn rs) = rs.map fun p => (p.1, p.1) := by
    unfold bh
    rw [jn_home a1.c, jn_home a1.r]
    by_cases h : cs = []
    · rw [h, a1.n h]
      rfl
    · rw [if_neg]
      intro z
      exact h (List.map_eq_nil_iff.mp z)
  rw [jn_home a1.c, hrows] at eh c5
  rw [home_cost f1.tb a1.c a1.r (by have := a1.c.len; have := f1.hi; omega)] at c5
  have hn := psok_sh ab.c μ7
  have g0 := fld0 (μ := μ7) h1 r1
  have g1 := fld1 (μ := μ7) h1 r1
  refine ⟨μ7, runF_ret (σ := [.val (.ref p), .emp, .emp, .emp, .emp, .emp, .emp, .emp, .emp, .emp, .emp, .emp, .emp, .emp, .emp, .emp]) rfl rfl ?_, p7.less (by omega), (((((s1.trans s2).trans s3).trans s4).trans s5).trans s6).trans s7', hp7⟩
  -- the tables
  have t0 : evS tab.pg cf (.own 2 (.comp (.call 19 (.cons (.v 0) (.cons (.int 3) (.cons (.int 6) .nil)))) (.v 1) (.range1 (.int 3)) .nil)) [.val (.ref p), .emp, .emp, .emp, .emp, .emp, .emp, .emp, .emp, .emp, .emp, .emp, .emp, .emp, .emp, .emp] μ = .next [.val (.ref p), .emp, .own [tabD h1 r1, tabD h2 r2, tabD h3 r3], .emp, .emp, .emp, .emp, .emp, .emp, .emp, .emp, .emp, .emp, .emp, .emp, .emp] μ3 := by
    generalize tabD h1 r1 = TA at *
    generalize tabD h2 r2 = TB at *
    generalize tabD h3 r3 = TC at *
    have st : ∀ (x d : D) (μ μ' : Store), cf 19 [.ref p, .int 3, .int 6] μ = .ok d μ' → lcStep tab.pg cf (.call 19 (.cons (.v 0) (.cons (.int 3) (.cons (.int 6) .nil)))) (.v 1) .nil [.val (.ref p), .emp, .emp, .emp, .emp, .emp, .emp, .emp, .emp, .emp, .emp, .emp, .emp, .emp, .emp, .emp] x μ = .ok (some d) μ' := fun x d μ μ' e => by
      have hb : bindT (.v 1) x (wipeS [.val (.ref p), .emp, .emp, .emp, .emp, .emp, .emp, .emp, .emp, .emp, .emp, .emp, .emp, .emp, .emp, .emp] [1]) = some [.val (.ref p), .val x, .emp, .emp, .emp, .emp, .emp, .emp, .emp, .emp, .emp, .emp, .emp, .emp, .emp, .emp] := rfl
      unfold lcStep
      simp [Tg.slots, hb, evTs, evE, evEs, rd, e]
    have ei : evIt tab.pg cf true (.range1 (.int 3)) [.val (.ref p), .emp, .emp, .emp, .emp, .emp, .emp, .emp, .emp, .emp, .emp, .emp, .emp, .emp, .emp, .emp] μ = .ok [.int 0, .int 1, .int 2] μ := rfl
    have el : evL tab.pg cf (.comp (.call 19 (.cons (.v 0) (.cons (.int 3) (.cons (.int 6) .nil)))) (.v 1) (.range1 (.int 3)) .nil) [.val (.ref p), .emp, .emp, .emp, .emp, .emp, .emp, .emp, .emp, .emp, .emp, .emp, .emp, .emp, .emp, .emp] μ = .ok [TA, TB, TC] μ3 := by
      rw [evL_comp, ei, ok_bind, if_neg (by simp; omega)]
      simp [lcGo, st _ _ _ _ e1, st _ _ _ _ e2, st _ _ _ _ e3]
    generalize IL.comp (.call 19 (.cons (.v 0) (.cons (.int 3) (.cons (.int 6) .nil)))) (.v 1) (.range1 (.int 3)) .nil = L at el ⊢
    simp [evS, el]
  have t3 : evS tab.pg cf (.par 6 7 (.e (.call 45 (.cons (.lst .fz (.disp (.cons (.int 3) (.cons (.int 4) (.cons (.int 5) (.cons (.int 1) (.cons (.int 1) .nil))))))) .nil))) (.l (.disp (.cons (.int 3) (.cons (.int 4) (.cons (.int 5) (.cons (.int 1) (.cons (.int 1) .nil)))))))) [.val (.ref p), .emp, .val (.lst [tabD h1 r1, tabD h2 r2, tabD h3 r3]), .val (tabD h1 r1), .val (tabD h2 r2), .val (tabD h3 r3), .emp, .emp, .emp, .emp, .emp, .emp, .emp, .emp, .emp, .emp] μ3 = .next (Q16 p (.lst [tabD h1 r1, tabD h2 r2, tabD h3 r3]) (tabD h1 r1) (tabD h2 r2) (tabD h3 r3) (cstD ⟨3, 4, 5, 1, 1⟩) .emp (.own (⟨3, 4, 5, 1, 1⟩ : Bl).ds) .emp .emp .emp .emp .emp .emp .emp .emp) μ3 := by
    have c0 : cf 45 [.lst [.int 3, .int 4, .int 5, .int 1, .int 1]] μ3 = .ok (cstD ⟨3, 4, 5, 1, 1⟩) μ3 := c0
    have hd : (⟨3, 4, 5, 1, 1⟩ : Bl).ds = [.int 3, .int 4, .int 5, .int 1, .int 1] := rfl
    rw [hd]
    generalize D.lst [tabD h1 r1, tabD h2 r2, tabD h3 r3] = TT at *
    generalize tabD h1 r1 = TA at *
    generalize tabD h2 r2 = TB at *
    generalize tabD h3 r3 = TC at *
    generalize cstD ⟨3, 4, 5, 1, 1⟩ = C0 at *
    simp [evS, evV, evL, evE, evEs, rd, c0]
  have t1 : evS tab.pg cf (.frz 2) [.val (.ref p), .emp, .own [tabD h1 r1, tabD h2 r2, tabD h3 r3], .emp, .emp, .emp, .emp, .emp, .emp, .emp, .emp, .emp, .emp, .emp, .emp, .emp] μ3 = .next [.val (.ref p), .emp, .val (.lst [tabD h1 r1, tabD h2 r2, tabD h3 r3]), .emp, .emp, .emp, .emp, .emp, .emp, .emp, .emp, .emp, .emp, .emp, .emp, .emp] μ3 := rfl
  have t2 : evS tab.pg cf (.set (.t3 (.v 3) (.v 4) (.v 5)) (.v 2)) [.val (.ref p), .emp, .val (.lst [tabD h1 r1, tabD h2 r2, tabD h3 r3]), .emp, .emp, .emp, .emp, .emp, .emp, .emp, .emp, .emp, .emp, .emp, .emp, .emp] μ3 = .next [.val (.ref p), .emp, .val (.lst [tabD h1 r1, tabD h2 r2, tabD h3 r3]), .val (tabD h1 r1), .val (tabD h2 r2), .val (tabD h3 r3), .emp, .emp, .emp, .emp, .emp, .emp, .emp, .emp, .emp, .emp] μ3 := rfl
  generalize D.lst [tabD h1 r1, tabD h2 r2, tabD h3 r3] = TT at *
  generalize tabD h1 r1 = TA at *
  generalize tabD h2 r2 = TB at *
  generalize tabD h3 r3 = TC at *
  generalize cstD B = CB at *
  have hU : alP (cs.map fun p => (p.1, p.1)) (rs.map fun p => (p.1, p.1)) = .tup [.tup ((cs.map fun p => (p.1, p.1)).map prI), .tup ((rs.map fun p => (p.1, p.1)).map prI)] := rfl
  have hO : alP (jn cs fs) (bh cs fs rs gs) = .tup [tupP (jn cs fs), tupP (bh cs fs rs gs)] := rfl
  rw [hU] at eh c5
  have lU : ((cs.map fun p => (p.1, p.1)).map prI).length = cs.length := by simp
  have lW : ((rs.map fun p => (p.1, p.1)).map prI).length = rs.length := by simp
  generalize ((cs.map fun p => (p.1, p.1)).map prI) = U at *
  generalize ((rs.map fun p => (p.1, p.1)).map prI) = W at *
  rw [← lU, ← lW] at c5
  rw [hO] at eb e18
  generalize (!((jn cs fs).map prI).isEmpty) = ne at *
  generalize tupP (jn cs fs) = H at *
  generalize tupP (bh cs fs rs gs) = X at *
  generalize fullV B h1 r1 h2 r2 cs rs = P at *
  generalize fullV B h2 r2 h3 r3 fs gs = Q at *
  generalize alP (turn cs) (turn rs) = K at *
  generalize alP cs rs = L at *
  generalize alP fs gs = M at *
  generalize tab.pg = pg at *
  have t5 : evS pg cf (.par 8 9 (.e (.call 21 (.cons (.v 0) (.cons (.v 3) (.cons (.v 4) .nil))))) (.e (.call 21 (.cons (.v 0) (.cons (.v 4) (.cons (.v 5) .nil)))))) (Q16 p TT TA TB TC CB .emp s7 .emp .emp .emp .emp .emp .emp .emp .emp) μ5 = .next (Q16 p TT TA TB TC CB .emp s7 (.val L) (.val M) .emp .emp .emp .emp .emp .emp) μ7 := by
    simp [evS, evV, evE, evEs, rd, e6, e7]
  have t6 : evS pg cf (.set (.v 10) (.call 52 (.cons (.v 8) (.cons (.v 9) .nil)))) (Q16 p TT TA TB TC CB .emp s7 (.val L) (.val M) .emp .emp .emp .emp .emp .emp) μ7 = .next (Q16 p TT TA TB TC CB .emp s7 (.val L) (.val M) (.val (.tup [H, X])) .emp .emp .emp .emp .emp) μ7 := by
    simp [evS, evE, evEs, rd, eb, bindT]
  have t7 : evS pg cf (.iff (.cmp .IsNot (.call 18 (.cons (.v 3) (.cons (.v 5) (.cons (.v 10) .nil)))) (.bl true)) (.cons (.ret (.bl false)) .nil) .nil) (Q16 p TT TA TB TC CB .emp s7 (.val L) (.val M) (.val (.tup [H, X])) .emp .emp .emp .emp .emp) μ7 = .next (Q16 p TT TA TB TC CB .emp s7 (.val L) (.val M) (.val (.tup [H, X])) .emp .emp .emp .emp .emp) μ7 := by
    have hi : cmpD μ7 .IsNot (.bl true) (.bl true) = some false := rfl
    simp [evS, evB, evE, evEs, rd, rdO, e18, hi]
  have t10 : evS pg cf (.set (.v 13) (.call 50 (.cons (.v 8) .nil))) (Q16 p TT TA TB TC CB .emp s7 (.val L) (.val M) (.val (.tup [H, X])) (.val (.int P)) (.val (.int Q)) .emp .emp .emp) μ7 = .next (Q16 p TT TA TB TC CB .emp s7 (.val L) (.val M) (.val (.tup [H, X])) (.val (.int P)) (.val (.int Q)) (.val K) .emp .emp) μ7 := by
    simp [evS, evE, evEs, rd, et, bindT]
  have t12 : evS pg cf (.set (.v 14) (.call 52 (.cons (.v 8) (.cons (.v 13) .nil)))) (Q16 p TT TA TB TC CB .emp s7 (.val L) (.val M) (.val (.tup [H, X])) (.val (.int P)) (.val (.int Q)) (.val K) .emp .emp) μ7 = .next (Q16 p TT TA TB TC CB .emp s7 (.val L) (.val M) (.val (.tup [H, X])) (.val (.int P)) (.val (.int Q)) (.val K) (.val (.tup [.tup U, .tup W])) .emp) μ7 := by
    simp [evS, evE, evEs, rd, eh, bindT]
  rw [show b51 = .cons (.own 2 (.comp (.call 19 (.cons (.v 0) (.cons (.int 3) (.cons (.int 6) .nil)))) (.v 1) (.range1 (.int 3)) .nil)) (.cons (.frz 2) (.cons (.set (.t3 (.v 3) (.v 4) (.v 5)) (.v 2)) (.cons (.par 6 7 (.e (.call 45 (.cons (.lst .fz (.disp (.cons (.int 3) (.cons (.int 4) (.cons (.int 5) (.cons (.int 1) (.cons (.int 1) .nil))))))) .nil))) (.l (.disp (.cons (.int 3) (.cons (.int 4) (.cons (.int 5) (.cons (.int 1) (.cons (.int 1) .nil)))))))) (.cons (.iff (.cmp .Eq (.call 1 (.cons (.v 0) (.cons (.int 2) .nil))) (.int 0)) (.cons (.set (.v 7) (.call 46 (.cons (.v 0) .nil))) (.cons (.set (.v 6) (.call 45 (.cons (.v 7) .nil))) .nil)) .nil) (.cons (.par 8 9 (.e (.call 21 (.cons (.v 0) (.cons (.v 3) (.cons (.v 4) .nil))))) (.e (.call 21 (.cons (.v 0) (.cons (.v 4) (.cons (.v 5) .nil)))))) (.cons (.set (.v 10) (.call 52 (.cons (.v 8) (.cons (.v 9) .nil)))) (.cons (.iff (.cmp .IsNot (.call 18 (.cons (.v 3) (.cons (.v 5) (.cons (.v 10) .nil)))) (.bl true)) (.cons (.ret (.bl false)) .nil) .nil) (.cons (.par 11 12 (.e (.call 37 (.cons (.v 3) (.cons (.v 4) (.cons (.v 6) (.cons (.v 8) .nil)))))) (.e (.call 37 (.cons (.v 4) (.cons (.v 5) (.cons (.v 6) (.cons (.v 9) .nil))))))) (.cons (.iff (.bo .And (.cons (.cmp .NotEq (.ix (.v 10) (.int 0)) (.tup .nil)) (.cons (.cmp .Gt (.call 37 (.cons (.v 3) (.cons (.v 5) (.cons (.v 6) (.cons (.v 10) .nil))))) (.bin .Add (.v 11) (.v 12))) .nil))) (.cons (.ret (.bl false)) .nil) .nil) (.cons (.set (.v 13) (.call 50 (.cons (.v 8) .nil))) (.cons (.iff (.cmp .NotEq (.call 37 (.cons (.v 4) (.cons (.v 3) (.cons (.v 6) (.cons (.v 13) .nil))))) (.v 11)) (.cons (.ret (.bl false)) .nil) .nil) (.cons (.set (.v 14) (.call 52 (.cons (.v 8) (.cons (.v 13) .nil)))) (.cons (.own 15 (.disp (.cons (.bin .Sub (.bi .len (.cons (.fld (.v 3) 0) .nil)) (.bi .len (.cons (.ix (.v 14) (.int 0)) .nil))) (.cons (.bin .Sub (.bi .len (.cons (.fld (.v 3) 1) .nil)) (.bi .len (.cons (.ix (.v 14) (.int 1)) .nil))) .nil)))) (.cons (.ret (.cmp .Eq (.call 37 (.cons (.v 3) (.cons (.v 3) (.cons (.v 6) (.cons (.v 14) .nil))))) (.bin .Mult (.int 2) (.bin .Add (.bin .Mult (.ix (.v 7) (.int 2)) (.ix (.v 15) (.int 0))) (.bin .Mult (.ix (.v 7) (.int 1)) (.ix (.v 15) (.int 1))))))) .nil)))))))))))))) from rfl]
  rw [evB_cons, t0, next_bind, evB_cons, t1, next_bind, evB_cons, t2, next_bind, evB_cons, t3, next_bind, evB_cons, t4, next_bind, evB_cons, t5, next_bind, evB_cons, t6, next_bind, evB_cons, t7, next_bind, evB_cons, tl_8 c1 c2, next_bind, evB_cons, tl_9 hn c3, next_bind, evB_cons, t10, next_bind, evB_cons, tl_11 c4, next_bind, evB_cons, t12, next_bind, evB_cons, tl_13 g0 g1, next_bind, evB_cons, tl_14 hB h7 c5]
  rfl
theorem small_al {cs rs : List (Int × Int)} (l1 : cs.length < 64) (l2 : rs.length < 64) : ∀ x y, alP cs rs = .tup [x, y] → (∀ ds, x = .tup ds → ds.length < 64) ∧ (∀ ds, y = .tup ds → ds.length < 64) := fun x y e => by
  unfold alP at e
  injection e with e
  injection e with e1 e
  injection e with e2 _
  exact ⟨fun ds z => by subst z; injection e1 with e1; rw [← e1, List.length_map]; exact l1, fun ds z => by subst z; injection e2 with e2; rw [← e2, List.length_map]; exact l2⟩
theorem rOk (k : Nat) : ROk (callI tab.pg (k + 8)) where
  tb := fun pt hp => by
    obtain ⟨hs, rows, μ', e, f, _, _, p, s, q⟩ := c_table HA (k + 2) (w := 3) (t := 6) pt hp (by decide) (by decide)
    exact ⟨hs, rows, μ', e, f, p, s, q⟩
  dr := @drawOk tab.pg HA.toHs (k + 7)
  bl := fun pt => c_bill2 HA.toHs fn46 (k + 5) pt
  co := fun hB hp => c_costs HC (k + 4) hB hp
  la := fun {h1 r1 h2 r2 p N μ} f1 f2 pt => by
    obtain ⟨cs, rs, μ', e, hal, l1, l2, p', s⟩ := c_laid HD (k + 5) f1 f2 (N := N) pt
    refine ⟨cs, rs, μ', e, ?_, p', s⟩
    have hal : (psD h1.length h2.length (tupP cs) && (psD r1.length r2.length (tupP rs) && (!nilD (tupP cs) || nilD (tupP rs)))) = true := hal
    simp only [Bool.and_eq_true] at hal
    refine ⟨psD_iff.mp hal.1, psD_iff.mp hal.2.1, fun z => ?_⟩
    have h := hal.2.2
    subst z
    cases rs with
    | nil => rfl
    | cons a rs => cases h
  be := fun {h1 r1 h2 r2 h3 r3 cs rs fs gs μ} f1 f2 a1 a2 => by
    have l1 := a1.c.len
    have l2 := a1.r.len
    have l3 := a2.c.len
    have l4 := a2.r.len
    have b1 := f1.hi
    have b2 := f1.m
    have b3 := f2.hi
    have b4 := f2.m
    rw [callI_fn fn52]
    refine behind_run ?_ ?_ (psok_sh (jn_ok a1.c a2.c) μ)
    · rw [callI_fn fn53]
      exact jn_run (a2.c.as.imp fun h => by omega) (by omega) (by omega)
    · rw [callI_fn fn53]
      exact jn_run (a2.r.as.imp fun h => by omega) (by omega) (by omega)
  is := fun {h1 r1 h2 r2 cs rs μ} f1 a => by
    have l1 := a.c.len
    have l2 := a.r.len
    have b1 := f1.hi
    have b2 := f1.m
    have := c_alignment HA (k + 3) (d := alP cs rs) (al_nr cs rs) (small_al (by omega) (by omega)) h1 r1 h2 r2 μ
    rw [this, a.al]
  ct := fun {h1 r1 h2 r2 B cs rs μ} hB f1 f2 a => by
    have l1 := a.c.len
    have l2 := a.r.len
    have b1 := f1.hi
    have b2 := f1.m
    exact c_cost HC.toHc (k + 1) (μ := μ) hB f1.tb f2.tb a.al (by omega) (by omega)
  tu := fun {h1 r1 h2 r2 cs rs μ} f1 a => by
    have l1 := a.c.len
    have l2 := a.r.len
    have b1 := f1.hi
    have b2 := f1.m
    rw [callI_fn fn50]
    exact turn_run (by omega) (by omega)
theorem right_ok (k : Nat) : RightOk (callI tab.pg (k + 9)) 51 200 := by
  intro p N μ pt hp
  rw [callI_fn fn51]
  exact right_run (rOk k) pt hp
theorem law_runs : ∀ ns : List Int, ns.length ≤ 63 → ∃ μ', callI tab.pg 12 0 [.ro (ns.map .int)] [] = .ok (.bl true) μ' := fun ns _ =>
  law_loop HA.toHs 10 (r := 51) (W := 200) (T := 4) (m := 3) rfl (right_ok 2) (by decide) (by decide) (by decide) ns
end T.Law
end

section
open PySem PySem.W PySem.Calls PyProof.Rows
theorem PySem.Challenge.cw_tableheld_k12_whole_alignments_one_behin_holds : PySem.Challenge.rw_tableheld_k12_whole_alignments_one_behin.Holds := by
  w_on; o_law
  refine HandSHeadRun.head_any (r := OpenLaw.row PySem.Challenge.rw_tableheld_k12_whole_alignments_one_behin) (q := view (OpenLaw.row PySem.Challenge.rw_tableheld_k12_whole_alignments_one_behin).prog [53]) (H := T.Law.hk) (ob := T.Law.ob) (M := 8000) (loose := T.Law.names) (d := HandSHeadRun.topDef (OpenLaw.row PySem.Challenge.rw_tableheld_k12_whole_alignments_one_behin).prog 53) (kwd := []) T.Law.ob_eq
    (by kernel_rfl) (fun s => by kernel_rfl) T.Law.run (by kernel_rfl) (by kernel_rfl) (by kernel_rfl) (by rfl) (by first | assumption | decide +kernel) (by decide +kernel) ⟨rfl, rfl, rfl, rfl, rfl, by decide +kernel⟩ ?hw ?hc
  case hw => w_witness2
  case hc =>
    exact T.Tab.walk (t := T.Law.tab) (l := PySem.Challenge.rw_tableheld_k12_whole_alignments_one_behin) (n := 63) (k := 12) (L := 0) (x := "_law_script") rfl (by decide) (by kernel_rfl) ⟨rfl, by decide, by decide⟩ (fun w h Y => Y) T.Law.xsOk rfl (by decide +kernel) T.Law.tabOk T.Law.rowsOk T.Law.kwsOk (List.Mem.head _) (by decide) rfl (by kernel_rfl) rfl T.Law.law_runs
end
