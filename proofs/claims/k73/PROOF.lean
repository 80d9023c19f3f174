import PyProof.Rows.All
import Wide.All
import OpenK.AllK
import Wide.FinOn
import HandS.ForMost
import HandS.Flow
import HandS.Deep
import HandS.IsInst
import HandS.Defaults
import HandS.Gcd
import HandS.Wide
import HandS.WideBits
import HandS.Star
import HandS.Style
import HandS.Conv
import HandS.Zip
import HandS.More
import KE.SortData
import HandS.Ends
import PySem.Challenge.RW_straightcuts_k73_whole_rows_of_exchanges
set_option Elab.async false
set_option linter.all false
set_option maxRecDepth 100000
set_option maxHeartbeats 2000000
namespace PV
open PySem PySem.Spec L2
open PyProof.Rows hiding St

/-! ### 1. contracts of defs that also know that no repr is under way -/
structure FnG (P : Program) (w : World) (K : PySem.W.Frag) (mg : Str → Option Value) (base : Heap) (CX : CXT) (k : Nat) (f : Addr) (fd : FuncData) (ps : List Str) (sp : Sp) : Prop where
  arity : ∀ vs H Q E, sp vs H Q E → vs.length = ps.length
  go : ∀ (A : Around) (outer : List Env) (s : Shared) (H : Hp) (args : Args) (us : List Value) (vs : List V) (Q : VK) (E : XK), Room k A → A.guards = some [] → Env0 P w K mg base A outer s H →
    BindsTo s fd args (ps.zip us) → Vals vs us → sp vs H Q E → codeAny (model P w) A (.call (.ref f) args) (CR CX outer P w H s Q E) s

section
variable {P : Program} {w : World} {K : PySem.W.Frag} {mg : Str → Option Value} {base : Heap} {CX : CXT} {k : Nat} {f : Addr} {fd : FuncData} {ps : List Str} {sp : Sp}
theorem FnG.of_ok (F : FnOk P w K mg base CX k f fd ps sp) : FnG P w K mg base CX k f fd ps sp :=
  ⟨F.len, fun A outer s H args us vs Q E hr _ he hb hv hs => F.run A outer s H args us vs Q E hr he hb hv hs⟩
theorem FnG.mono {j : Nat} (F : FnG P w K mg base CX j f fd ps sp) (h : j ≤ k) : FnG P w K mg base CX k f fd ps sp :=
  ⟨F.arity, fun A outer s H args us vs Q E hr => F.go A outer s H args us vs Q E (hr.mono h)⟩
theorem FnG.imp {sp' : Sp} (F : FnG P w K mg base CX k f fd ps sp) (h : ∀ vs H Q E, sp' vs H Q E → sp vs H Q E) : FnG P w K mg base CX k f fd ps sp' :=
  ⟨fun vs H Q E q => F.arity vs H Q E (h _ _ _ _ q), fun A outer s H args us vs Q E hr hg he hb hv hs => F.go A outer s H args us vs Q E hr hg he hb hv (h _ _ _ _ hs)⟩

/-- the body's walk gives the contract -/
theorem FnG.make {name qual : Str} {params : Arguments} {body : List Stmt} {scope : Scope} {dV kV doc pm cdv ct oc : Value} {an od : Option Addr} {osl : Array (Option Value)} {N : List Str}
    (lk : K.lookup f = some ⟨oc, od, .func (PySem.W.fnOf name qual params body scope dV kV doc pm an cdv ct), osl⟩) (hcd : PySem.W.codeIn K cdv qual = true) (S : FnScope N ps scope)
    (arity : ∀ vs H Q E, sp vs H Q E → vs.length = ps.length)
    (walk : ∀ (A : Around) (outer : List Env) (s : Shared) (H : Hp) (vs : List V) (Q : VK) (E : XK), Room k (A.deeper (envOfC qual scope s.heap.objs.size f cdv)) → A.guards = some [] → sp vs H Q E →
      ∃ t, PSs (cxOf CX P w K mg base N qual scope f cdv A outer s H E) body t ∧ t { nx := fun _ H' => Q .non H', rt := Q } (start N vs) H) :
    FnG P w K mg base CX (k + 1) f (PySem.W.fnOf name qual params body scope dV kV doc pm an cdv ct) ps sp := by
  constructor
  · exact arity
  intro A outer s H args us vs Q E hr hgd e0 hb r hsp
  have hl : vs.length = ps.length := arity vs H Q E hsp
  have kin : K.In s.heap := e0.mod.kin.keeps (fun b o z => (e0.bs b o z).left)
  have nolim : s.heap.NoLimit := e0.mod.nolimit.keeps (fun b o z => (e0.bs b o z).left)
  have kinds : ∀ y ∈ ps.zip us, scope.names.lookup y.1 = some NameKind.local ∨ (scope.names.lookup y.1 = some NameKind.cell ∧ ((cellsFrom (s.heap.objs.size + 1) scope.names []).lookup y.1).isSome = true) := by
    intro y hy
    obtain ⟨n, v⟩ := y
    cases S.par n (List.of_mem_zip hy).1 with
    | inl q => exact Or.inl q
    | inr q => exact Or.inr ⟨q, PySem.W.cellsFrom_some _ _ _ (Or.inl q)⟩
  apply codeAny_call_function hr.depth (kin _ _ lk) rfl S.co S.gen rfl (PySem.W.codeRec_of kin hcd)
  apply hb
  apply wpAny_newFunctionEnv_cells S.kind kinds
  intro env henv s1 x
  subst henv
  refine ⟨nolim.keeps x.toInCall.keep, ?_⟩
  apply codeAny_func
  obtain ⟨t, ht, hq⟩ := walk A outer s H vs Q E (hr.deeper _) hgd hsp
  have I : Inv (cxOf CX P w K mg base N qual scope f cdv A outer s H E) [] (start N vs) H s1 := inv_start S hr.hd e0 hl r x
  have out : ∀ {s' : Shared} {σ' : St} {H' : Hp} {v : V} {u : Value}, Inv (cxOf CX P w K mg base N qual scope f cdv A outer s H E) [] σ' H' s' → RelV v u → Q v H' → CE outer P w H s Q u s' := by
    intro s' σ' H' v u J rv q
    exact ⟨v, H', J.os, J.bare, J.base, J.hok, rv, q⟩
  refine wpAny_mono (ht.run [] s1 (start N vs) H _ I hq) ?_ (fun e s' hs => hs)
  intro fl s' hs
  match fl, hs with
  | .ret u, ⟨v, σ', H', J, rv, q⟩ => exact out J rv q
  | .next, ⟨σ', H', J, q⟩ => exact out (v := V.non) (u := Value.none) J rfl q
  | .brk, ⟨_, _, _, q⟩ => exact q.elim
  | .cont, ⟨_, _, _, q⟩ => exact q.elim
end

section
variable {X : Cx} {CX : CXT} {k n : Nat} {f : Addr} {fd : FuncData} {ps ks : List Str} {sp : Sp} {dvs : List V} {ds : List Value} {E : XK} {x : Str} {p pos : Pos} {e : Expr} {es : List Expr} {kws : List Keyword} {t tk : TA} {g : List Value → List Value → List Value} {gV : List V → List V → List V}
theorem goG {pins : List (Addr × Obj)} {σ : St} {H : Hp} {s : Shared} {Q : VK} {us : List Value} {vs : List V} {args : Args} (F : FnG X.prog X.w X.K X.mg X.base CX k f fd ps sp) (hr : Room k X.A) (hgd : X.A.guards = some []) (hx : Passes CX X E)
    (I : Inv X pins σ H s) (hb : BindsTo s fd args (ps.zip us)) (r : Vals vs us) (h : sp vs H Q E) : wpAny (model X.prog X.w) X.A (call (.ref f) args.pos args.kw) (EP X pins σ Q) X.xe s := by
  refine wpAny_call (codeAny_mono (F.go X.A X.stack s H _ us vs Q E hr hgd I.env0 hb r h) ?_)
  intro res s' hq
  match res, hq with
  | .error e, hq => exact hx pins σ H s e s' I hq
  | .ok (.ret u), hq => exact I.after hq
  | .ok .next, hq => exact hq.elim
  | .ok .brk, hq => exact hq.elim
  | .ok .cont, hq => exact hq.elim
end
end PV

set_option Elab.async false
set_option linter.all false
set_option maxRecDepth 100000
set_option maxHeartbeats 2000000
namespace PV
open PySem PySem.Spec L2
open PyProof.Rows hiding St

abbrev D := PyData
abbrev Fz (Hf H : Hp) : Prop := ∀ b o, Hf b = some o → H b = some o

/-! ### 2. what a value of the heap says -/
mutual
inductive Rp (K : PySem.W.Frag) (H : Hp) : V → D → Prop
  | non : Rp K H .non .none
  | bl (b : Bool) : Rp K H (.bl b) (.bool b)
  | int (i : Int) : Rp K H (.int i) (.int i)
  | str (x : Str) : Rp K H (.str x) (.str x)
  | lst {a : Addr} {xs : List V} {ds : List D} : H a = some (.lst xs) → RpAll K H xs ds → Rp K H (.ref a) (.list ds)
  | tup {a : Addr} {xs : List V} {ds : List D} : H a = some (.tup xs) → RpAll K H xs ds → Rp K H (.ref a) (.tuple ds)
  | dic {a : Addr} : H a = some (.dK []) → Rp K H (.ref a) (.dict [])
inductive RpAll (K : PySem.W.Frag) (H : Hp) : List V → List D → Prop
  | nil : RpAll K H [] []
  | cons {v : V} {vs : List V} {d : D} {ds : List D} : Rp K H v d → RpAll K H vs ds → RpAll K H (v :: vs) (d :: ds)
end

section
variable {K : PySem.W.Frag} {H H' : Hp}
mutual
theorem Rp.up (e : Fz H H') : ∀ {d : D} {v : V}, Rp K H v d → Rp K H' v d
  | .none, _, h => by cases h; exact .non
  | .bool _, _, h => by cases h; exact .bl _
  | .int _, _, h => by cases h; exact .int _
  | .str _, _, h => by cases h; exact .str _
  | .list _, _, h => by cases h with | lst a b => exact .lst (e _ _ a) (RpAll.up e b)
  | .tuple _, _, h => by cases h with | tup a b => exact .tup (e _ _ a) (RpAll.up e b)
  | .dict _, _, h => by cases h with | dic a => exact .dic (e _ _ a)
theorem RpAll.up (e : Fz H H') : ∀ {ds : List D} {vs : List V}, RpAll K H vs ds → RpAll K H' vs ds
  | [], _, h => by cases h; exact .nil
  | _ :: _, _, h => by cases h with | cons a b => exact .cons (Rp.up e a) (RpAll.up e b)
end
theorem RpAll.len : ∀ {vs : List V} {ds : List D}, RpAll K H vs ds → vs.length = ds.length
  | [], _, h => by cases h; rfl
  | _ :: _, _, h => by cases h with | cons a b => exact congrArg Nat.succ b.len
theorem RpAll.get : ∀ {vs : List V} {ds : List D} {i : Nat} {d : D}, RpAll K H vs ds → ds[i]? = some d → ∃ v, vs[i]? = some v ∧ Rp K H v d
  | _, [], _, _, _, e => by simp at e
  | _, _ :: _, i, d, h, e => by
    cases h with
    | cons a b =>
      cases i with
      | zero => simp at e; subst e; exact ⟨_, rfl, a⟩
      | succ i => simp at e; obtain ⟨v, q, r⟩ := b.get e; exact ⟨v, by simpa using q, r⟩
theorem RpAll.getV {vs : List V} {ds : List D} {i : Nat} {v : V} (h : RpAll K H vs ds) (e : vs[i]? = some v) : ∃ d, ds[i]? = some d ∧ Rp K H v d := by
  obtain ⟨hi, _⟩ := List.getElem?_eq_some_iff.mp e
  have hl := h.len
  have hj : i < ds.length := by omega
  obtain ⟨v', q, r⟩ := h.get (List.getElem?_eq_getElem hj)
  rw [e] at q; cases q
  exact ⟨_, List.getElem?_eq_getElem hj, r⟩
theorem RpAll.append : ∀ {vs ws : List V} {ds es : List D}, RpAll K H vs ds → RpAll K H ws es → RpAll K H (vs ++ ws) (ds ++ es)
  | [], _, _, _, h, h' => by cases h; exact h'
  | _ :: _, _, _, _, h, h' => by cases h with | cons a b => exact .cons a (b.append h')
theorem RpAll.take : ∀ {vs : List V} {ds : List D} (n : Nat), RpAll K H vs ds → RpAll K H (vs.take n) (ds.take n)
  | _, _, 0, _ => by simp; exact .nil
  | [], _, _ + 1, h => by cases h; exact .nil
  | _ :: _, _, n + 1, h => by cases h with | cons a b => exact .cons a (b.take n)
theorem RpAll.drop : ∀ {vs : List V} {ds : List D} (n : Nat), RpAll K H vs ds → RpAll K H (vs.drop n) (ds.drop n)
  | _, _, 0, h => by simpa using h
  | [], _, _ + 1, h => by cases h; exact .nil
  | _ :: _, _, n + 1, h => by cases h with | cons a b => exact b.drop n
theorem RpAll.rev : ∀ {vs : List V} {ds : List D}, RpAll K H vs ds → RpAll K H vs.reverse ds.reverse
  | [], _, h => by cases h; exact .nil
  | _ :: _, _, h => by cases h with | cons a b => rw [List.reverse_cons, List.reverse_cons]; exact b.rev.append (.cons a .nil)
theorem RpAll.set {v : V} {d : D} (r : Rp K H v d) : ∀ {vs : List V} {ds : List D} (n : Nat), RpAll K H vs ds → RpAll K H (vs.set n v) (ds.set n d)
  | [], _, _, h => by cases h; exact .nil
  | _ :: _, _, 0, h => by cases h with | cons a b => exact .cons r b
  | _ :: _, _, n + 1, h => by cases h with | cons a b => exact .cons a (b.set r n)
theorem RpAll.eraseIdx : ∀ {vs : List V} {ds : List D} (n : Nat), RpAll K H vs ds → RpAll K H (vs.eraseIdx n) (ds.eraseIdx n)
  | [], _, _, h => by cases h; exact .nil
  | _ :: _, _, 0, h => by cases h with | cons a b => exact b
  | _ :: _, _, n + 1, h => by cases h with | cons a b => exact .cons a (b.eraseIdx n)
theorem RpAll.dropLast {vs : List V} {ds : List D} (h : RpAll K H vs ds) : RpAll K H vs.dropLast ds.dropLast := by
  rw [List.dropLast_eq_take, List.dropLast_eq_take, h.len]; exact h.take _
theorem RpAll.ints : ∀ {ns : List Int} {vs : List V}, RpAll K H vs (ns.map PyData.int) → vs = ns.map V.int
  | [], _, h => by cases h; rfl
  | _ :: _, _, h => by cases h with | cons a b => cases a; rw [b.ints]; rfl
theorem RpAll.bools : ∀ {ns : List Bool} {vs : List V}, RpAll K H vs (ns.map PyData.bool) → vs = ns.map V.bl
  | [], _, h => by cases h; rfl
  | _ :: _, _, h => by cases h with | cons a b => cases a; rw [b.bools]; rfl
theorem RpAll.ofInts : ∀ (ns : List Int), RpAll K H (ns.map V.int) (ns.map PyData.int)
  | [] => .nil
  | _ :: ns => .cons (.int _) (RpAll.ofInts ns)
mutual
theorem Rp.dp : ∀ {d : D} {v : V}, d.canLay0 = true → Rp K H v d → Dp K H v d
  | .none, _, _, h => by cases h; exact .non
  | .bool _, _, _, h => by cases h; exact .bl _
  | .int _, _, _, h => by cases h; exact .int _
  | .str _, _, _, h => by cases h; exact .str _
  | .list ds, _, c, h => by cases h with | lst a b => exact .lst (SqL.of a) (RpAll.dp (by simpa [PyData.canLay0] using c) b)
  | .tuple ds, _, c, h => by cases h with | tup a b => exact .tup (SqT.of a) (RpAll.dp (by simpa [PyData.canLay0] using c) b)
  | .dict _, _, c, _ => by simp [PyData.canLay0] at c
theorem RpAll.dp : ∀ {ds : List D} {vs : List V}, PyData.canLayAll0 ds = true → RpAll K H vs ds → DpAll K H vs ds
  | [], _, _, h => by cases h; exact .nil
  | _ :: _, _, c, h => by
    have c' := c
    rw [PyData.canLayAll0, Bool.and_eq_true] at c'
    cases h with | cons a b => exact .cons (Rp.dp c'.1 a) (RpAll.dp c'.2 b)
end
end

/-! ### 3. the frozen part, the purse, the slots -/
def PurAt (K : PySem.W.Frag) (ap : Option Addr) (p : List D) (H Hf : Hp) : Prop := ∀ a, ap = some a → Hf a = none ∧ ∃ vs, H a = some (.lst vs) ∧ RpAll K Hf vs p
structure Ext (ap : Option Addr) (H Hf H' Hf' : Hp) : Prop where
  same : ∀ b o, ap ≠ some b → H b = some o → H' b = some o
  grow : Fz Hf Hf'
  new : ∀ b o, H b = some o → Hf b = none → Hf' b = none
  there : ∀ b o, H b = some o → ∃ o', H' b = some o'
theorem Ext.refl {ap : Option Addr} {H Hf : Hp} : Ext ap H Hf H Hf := ⟨fun _ _ _ h => h, fun _ _ h => h, fun _ _ _ h => h, fun _ o h => ⟨o, h⟩⟩
theorem Ext.trans {ap : Option Addr} {H Hf H1 Hf1 H2 Hf2 : Hp} (a : Ext ap H Hf H1 Hf1) (b : Ext ap H1 Hf1 H2 Hf2) : Ext ap H Hf H2 Hf2 :=
  ⟨fun c o n h => b.same c o n (a.same c o n h), fun c o h => b.grow c o (a.grow c o h), fun c o h n => let ⟨o', h'⟩ := a.there c o h; b.new c o' h' (a.new c o h n), fun c o h => let ⟨o', h'⟩ := a.there c o h; b.there c o' h'⟩
/-- the state behind: reached, and sound -/
structure Nx (K : PySem.W.Frag) (ap : Option Addr) (p' : List D) (H Hf H' Hf' : Hp) : Prop where
  ext : Ext ap H Hf H' Hf'
  fz : Fz Hf' H'
  pur : PurAt K ap p' H' Hf'
theorem Nx.refl {K : PySem.W.Frag} {ap : Option Addr} {p : List D} {H Hf : Hp} (f : Fz Hf H) (q : PurAt K ap p H Hf) : Nx K ap p H Hf H Hf := ⟨.refl, f, q⟩
theorem Nx.trans {K : PySem.W.Frag} {ap : Option Addr} {p p2 : List D} {H Hf H1 Hf1 H2 Hf2 : Hp} (a : Nx K ap p H Hf H1 Hf1) (b : Nx K ap p2 H1 Hf1 H2 Hf2) : Nx K ap p2 H Hf H2 Hf2 := ⟨a.ext.trans b.ext, b.fz, b.pur⟩
theorem PurAt.up {K : PySem.W.Frag} {ap : Option Addr} {p : List D} {H Hf H' Hf' : Hp} (h : PurAt K ap p H Hf) (g : Fz Hf Hf') (n : ∀ a, ap = some a → Hf' a = none) (k : ∀ a, ap = some a → H' a = H a) : PurAt K ap p H' Hf' := fun a e => by
  obtain ⟨_, vs, h1, h2⟩ := h a e
  exact ⟨n a e, vs, by rw [k a e]; exact h1, h2.up g⟩
/-- a new object, not frozen -/
theorem Nx.laid {K : PySem.W.Frag} {ap : Option Addr} {p : List D} {H Hf : Hp} {q : Addr} {o : HO} (f : Fz Hf H) (hp : PurAt K ap p H Hf) (n : H q = none) : Nx K ap p H Hf (upd H q o) Hf := by
  have ne : ∀ b o', H b = some o' → b ≠ q := fun b o' e => ne_of_none e n
  refine ⟨⟨fun b o' _ e => ?_, fun _ _ e => e, fun _ _ _ e => e, fun b o' e => ⟨o', ?_⟩⟩, fun b o' e => ?_, hp.up (fun _ _ e => e) (fun a e => (hp a e).1) fun a e => ?_⟩
  · rw [upd_ne (ne b o' e)]; exact e
  · rw [upd_ne (ne b o' e)]; exact e
  · rw [upd_ne (ne b o' (f b o' e))]; exact f b o' e
  · obtain ⟨_, vs, h1, _⟩ := hp a e
    exact upd_ne (ne a _ h1)
/-- an object that is not frozen and is no older than H₀ is frozen -/
theorem Nx.freeze {K : PySem.W.Frag} {ap : Option Addr} {p : List D} {H₀ Hf₀ H Hf : Hp} {q : Addr} {o : HO} (x : Nx K ap p H₀ Hf₀ H Hf) (n : H₀ q = none) (e : H q = some o) (hf : Hf q = none) (na : ap ≠ some q) : Nx K ap p H₀ Hf₀ H (upd Hf q o) := by
  have g : Fz Hf (upd Hf q o) := fun b o' h => by rw [upd_ne (ne_of_none h hf)]; exact h
  refine ⟨⟨x.ext.same, fun b o' h => g b o' (x.ext.grow b o' h), fun b o' h h' => ?_, x.ext.there⟩, fun b o' h => ?_, x.pur.up g (fun a ea => ?_) fun _ _ => rfl⟩
  · rw [upd_ne (ne_of_none h n)]; exact x.ext.new b o' h h'
  · by_cases hb : b = q
    · subst hb; rw [upd_same] at h; cases h; exact e
    · rw [upd_ne hb] at h; exact x.fz b o' h
  · rw [upd_ne (by rintro rfl; exact na ea)]; exact (x.pur a ea).1
theorem PurAt.ne {K : PySem.W.Frag} {ap : Option Addr} {p : List D} {H Hf : Hp} {q : Addr} (hp : PurAt K ap p H Hf) (n : H q = none) : ap ≠ some q := fun e => by
  obtain ⟨_, vs, h1, _⟩ := hp q e
  rw [n] at h1; cases h1

inductive Sl where
  | fro (d : D)
  | opn (ds : List D)
  | pur
abbrev Env := List (Option Sl)
def SlOk (K : PySem.W.Frag) (ap : Option Addr) (H Hf : Hp) : Sl → V → Prop
  | .fro d, v => Rp K Hf v d
  | .opn ds, v => ∃ a vs, v = .ref a ∧ H a = some (.lst vs) ∧ Hf a = none ∧ ap ≠ some a ∧ RpAll K Hf vs ds
  | .pur, v => ∃ a, v = .ref a ∧ ap = some a
structure SO (K : PySem.W.Frag) (ap : Option Addr) (env : Env) (p : List D) (σ : L2.St) (H Hf : Hp) : Prop where
  fz : Fz Hf H
  pur : PurAt K ap p H Hf
  slot : ∀ (i : Nat) (s : Sl), (env : List (Option Sl))[i]? = some (some s) → ∃ v : V, (σ : List (Option V))[i]? = some (some v) ∧ SlOk K ap H Hf s v
section
variable {K : PySem.W.Frag} {ap : Option Addr} {env : Env} {p p' : List D} {σ : L2.St} {H Hf H' Hf' : Hp}
theorem SlOk.ext {s : Sl} {v : V} (h : SlOk K ap H Hf s v) (x : Ext ap H Hf H' Hf') : SlOk K ap H' Hf' s v := by
  cases s with
  | fro d => exact Rp.up x.grow h
  | pur => exact h
  | opn ds =>
    obtain ⟨a, vs, h1, h2, h3, h4, h5⟩ := h
    exact ⟨a, vs, h1, x.same a _ h4 h2, x.new a _ h2 h3, h4, h5.up x.grow⟩
theorem SO.ext (h : SO K ap env p σ H Hf) (x : Nx K ap p' H Hf H' Hf') : SO K ap env p' σ H' Hf' :=
  ⟨x.fz, x.pur, fun i s e => let ⟨v, q, r⟩ := h.slot i s e; ⟨v, q, r.ext x.ext⟩⟩
/-- an operand: frozen, or an open list as it stands -/
def RpO (K : PySem.W.Frag) (ap : Option Addr) (H Hf : Hp) (v : V) (d : D) : Prop :=
  Rp K Hf v d ∨ ∃ a vs ds, v = .ref a ∧ d = .list ds ∧ H a = some (.lst vs) ∧ Hf a = none ∧ ap ≠ some a ∧ RpAll K Hf vs ds
theorem RpO.ext {v : V} {d : D} (h : RpO K ap H Hf v d) (x : Ext ap H Hf H' Hf') : RpO K ap H' Hf' v d := by
  rcases h with h | ⟨a, vs, ds, h1, h2, h3, h4, h5, h6⟩
  · exact Or.inl (h.up x.grow)
  · exact Or.inr ⟨a, vs, ds, h1, h2, x.same a _ h5 h3, x.new a _ h3 h4, h5, h6.up x.grow⟩
/-- seen at H: all the data -/
theorem RpO.at_ {v : V} {d : D} (h : RpO K ap H Hf v d) (f : Fz Hf H) : Rp K H v d := by
  rcases h with h | ⟨a, vs, ds, rfl, rfl, h3, h4, h5, h6⟩
  · exact h.up f
  · exact .lst h3 (h6.up f)
/-- a list operand -/
theorem RpO.list {v : V} {ds : List D} (h : RpO K ap H Hf v (.list ds)) (f : Fz Hf H) : ∃ a vs, v = .ref a ∧ H a = some (.lst vs) ∧ RpAll K Hf vs ds := by
  rcases h with h | ⟨a, vs, ds', rfl, e, h3, h4, h5, h6⟩
  · cases h with | lst a b => exact ⟨_, _, rfl, f _ _ a, b⟩
  · cases e; exact ⟨a, vs, rfl, h3, h6⟩
theorem RpO.tup {v : V} {ds : List D} (h : RpO K ap H Hf v (.tuple ds)) (f : Fz Hf H) : ∃ a vs, v = .ref a ∧ H a = some (.tup vs) ∧ RpAll K Hf vs ds := by
  rcases h with h | ⟨a, vs, ds', rfl, e, h3, h4, h5, h6⟩
  · cases h with | tup a b => exact ⟨_, _, rfl, f _ _ a, b⟩
  · cases e
theorem RpO.flat {v : V} {d : D} (h : RpO K ap H Hf v d) (n : ∀ ds, d ≠ .list ds) : Rp K Hf v d := by
  rcases h with h | ⟨a, vs, ds', rfl, e, h3, h4, h5, h6⟩
  · exact h
  · exact absurd e (n _)
theorem RpO.int {v : V} {i : Int} (h : RpO K ap H Hf v (.int i)) : v = .int i := by cases h.flat (by intro _ z; cases z); rfl
theorem RpO.bl {v : V} {i : Bool} (h : RpO K ap H Hf v (.bool i)) : v = .bl i := by cases h.flat (by intro _ z; cases z); rfl
theorem RpO.str {v : V} {i : Str} (h : RpO K ap H Hf v (.str i)) : v = .str i := by cases h.flat (by intro _ z; cases z); rfl
theorem RpO.non {v : V} (h : RpO K ap H Hf v .none) : v = .non := by cases h.flat (by intro _ z; cases z); rfl
end

/-! ### 4. the judgements -/
abbrev Ms (α : Type) := Env → List D → Option (α × List D)
def tP (K : PySem.W.Frag) (m : Ms D) : TE := fun σ H Q => ∃ ap Hf env p d p', SO K ap env p σ H Hf ∧ m env p = some (d, p') ∧ ∀ H' Hf' v, Nx K ap p' H Hf H' Hf' → Rp K Hf' v d → Q v H'
def tO (K : PySem.W.Frag) (m : Ms D) : TE := fun σ H Q => ∃ ap Hf env p d p', SO K ap env p σ H Hf ∧ m env p = some (d, p') ∧ ∀ H' Hf' v, Nx K ap p' H Hf H' Hf' → RpO K ap H' Hf' v d → Q v H'
/-- a new list, not yet frozen -/
def tF (K : PySem.W.Frag) (m : Ms (List D)) : TE := fun σ H Q => ∃ ap Hf env p ds p', SO K ap env p σ H Hf ∧ m env p = some (ds, p') ∧ ∀ H' Hf' a vs, Nx K ap p' H Hf H' Hf' → H a = none → H' a = some (.lst vs) → Hf' a = none → RpAll K Hf' vs ds → Q (.ref a) H'
def tT (K : PySem.W.Frag) (m : Ms Bool) : TT := fun σ H Q => ∃ ap Hf env p b p', SO K ap env p σ H Hf ∧ m env p = some (b, p') ∧ ∀ H' Hf', Nx K ap p' H Hf H' Hf' → Q b H'
def tAr (K : PySem.W.Frag) (m : Ms (List D)) : TA := fun σ H Q => ∃ ap Hf env p ds p', SO K ap env p σ H Hf ∧ m env p = some (ds, p') ∧ ∀ H' Hf' vs, Nx K ap p' H Hf H' Hf' → RpAll K Hf' vs ds → Q vs H'
abbrev PP (X : Cx) (m : Ms D) (e : Expr) : Prop := PE X e (tP X.K m)
abbrev PO (X : Cx) (m : Ms D) (e : Expr) : Prop := PE X e (tO X.K m)
abbrev PF (X : Cx) (m : Ms (List D)) (e : Expr) : Prop := PE X e (tF X.K m)
abbrev PB (X : Cx) (m : Ms Bool) (e : Expr) : Prop := PT X e (tT X.K m)
abbrev PR (X : Cx) (m : Ms (List D)) (es : List Expr) : Prop := PA X es (tAr X.K m)
theorem pe_weak {X : Cx} {e : Expr} {t t' : TE} (h : PE X e t) (w : ∀ σ H Q, t' σ H Q → t σ H Q) : PE X e t' := ⟨fun pins s σ H Q I q => h.run pins s σ H Q I (w σ H Q q)⟩
theorem pt_weak {X : Cx} {e : Expr} {t t' : TT} (h : PT X e t) (w : ∀ σ H Q, t' σ H Q → t σ H Q) : PT X e t' := ⟨fun pins s σ H Q I q => h.run pins s σ H Q I (w σ H Q q)⟩
theorem pa_weak {X : Cx} {e : List Expr} {t t' : TA} (h : PA X e t) (w : ∀ σ H Q, t' σ H Q → t σ H Q) : PA X e t' := ⟨fun pos pins s σ H Q I q => h.run pos pins s σ H Q I (w σ H Q q)⟩
def mList (m : Ms (List D)) : Ms D := fun env p => (m env p).map fun r => (.list r.1, r.2)
section
variable {X : Cx} {e a b : Expr} {pos : Pos} {m ma mb : Ms D}
theorem PP.o (h : PP X m e) : PO X m e := pe_weak h fun σ H Q ⟨ap, Hf, env, p, d, p', s, q, k⟩ => ⟨ap, Hf, env, p, d, p', s, q, fun H' Hf' v x r => k H' Hf' v x (.inl r)⟩
theorem PF.p {m : Ms (List D)} (h : PF X m e) : PP X (mList m) e := pe_weak h fun σ H Q ⟨ap, Hf, env, p, d, p', s, q, k⟩ => by
  unfold mList at q
  cases hm : m env p with
  | none => rw [hm] at q; cases q
  | some r =>
    obtain ⟨ds, p1⟩ := r
    rw [hm] at q; cases q
    refine ⟨ap, Hf, env, p, ds, _, s, hm, fun H' Hf' a vs x n h1 h2 h3 => ?_⟩
    have na : ap ≠ some a := s.pur.ne n
    refine k H' (upd Hf' a (.lst vs)) _ (x.freeze n h1 h2 na) (.lst upd_same (h3.up fun b o z => ?_))
    rw [upd_ne (ne_of_none z h2)]; exact z
def m2 (g : D → D → Option D) (ma mb : Ms D) : Ms D := fun env p => (ma env p).bind fun r => (mb env r.2).bind fun s => (g r.1 s.1).map fun d => (d, s.2)
/-- an operator by the data -/
def OpP (K : PySem.W.Frag) (r : R2) (g : D → D → Option D) : Prop := ∀ ap p x y dx dy d H Hf Q, Fz Hf H → PurAt K ap p H Hf → RpO K ap H Hf x dx → RpO K ap H Hf y dy → g dx dy = some d →
  (∀ H' Hf' v, Nx K ap p H Hf H' Hf' → Rp K Hf' v d → Q v H') → r x y H Q
theorem m2_some {g : D → D → Option D} {ma mb : Ms D} {env : Env} {p p' : List D} {d : D} (h : m2 g ma mb env p = some (d, p')) : ∃ dx p1 dy, ma env p = some (dx, p1) ∧ mb env p1 = some (dy, p') ∧ g dx dy = some d := by
  unfold m2 at h
  cases ha : ma env p with
  | none => rw [ha] at h; cases h
  | some r =>
    obtain ⟨dx, p1⟩ := r
    rw [ha] at h
    cases hb : mb env p1 with
    | none => simp [hb] at h
    | some r2 =>
      obtain ⟨dy, p2⟩ := r2
      cases hg : g dx dy with
      | none => simp [hb, hg] at h
      | some z => simp [hb, hg] at h; obtain ⟨rfl, rfl⟩ := h; exact ⟨dx, p1, dy, rfl, hb, hg⟩
theorem bin_read {r : R2} {g : D → D → Option D} {σ : L2.St} {H : Hp} {Q : VK} (hg : OpP X.K r g) (h : tP X.K (m2 g ma mb) σ H Q) : tOp r (tO X.K ma) (tO X.K mb) σ H Q := by
  obtain ⟨ap, Hf, env, p, d, p', s, q, k⟩ := h
  obtain ⟨dx, p1, dy, q1, q2, q3⟩ := m2_some q
  refine ⟨ap, Hf, env, p, dx, p1, s, q1, fun H1 Hf1 x n1 rx => ?_⟩
  refine ⟨ap, Hf1, env, p1, dy, p', s.ext n1, q2, fun H2 Hf2 y n2 ry => ?_⟩
  exact hg ap p' x y dx dy d H2 Hf2 Q n2.fz n2.pur (rx.ext n2.ext) ry q3 fun H' Hf' v n3 rv => k H' Hf' v ((n1.trans n2).trans n3) rv
theorem pp_bin {op : Operator} {r : R2} {g : D → D → Option D} (ho : OpR X (binaryOp op) r) (hg : OpP X.K r g) (ha : PO X ma a) (hb : PO X mb b) : PP X (m2 g ma mb) (.BinOp a op b pos) :=
  pe_weak (pe_op ho ha hb) fun σ H Q h => bin_read hg h
theorem pp_cmp {op : CmpOp} {r : R2} {g : D → D → Option D} (ho : OpR X (compareOp op) r) (hg : OpP X.K r g) (ha : PO X ma a) (hb : PO X mb b) (hm : behindInMarks op b = false) : PP X (m2 g ma mb) (.Compare a [op] [b] pos) :=
  pe_weak (pe_cmpR ho ha hb hm) fun σ H Q h => bin_read hg h
end
end PV

set_option Elab.async false
set_option linter.all false
set_option maxRecDepth 100000
set_option maxHeartbeats 2000000
namespace PV
open PySem PySem.Spec L2
open PyProof.Rows hiding St

/-! ### 5. operators by the data -/
abbrev sizeMax : Nat := 16000000
theorem size_ok {n : Nat} (h : n ≤ sizeMax) : n ≤ sizeLine := Nat.le_trans h (by decide)
def b2n (b : Bool) : Int := if b then 1 else 0
def gAdd : D → D → Option D
  | .int a, .int b => some (.int (a + b))
  | .list xs, .list ys => if xs.length + ys.length ≤ sizeMax then some (.list (xs ++ ys)) else none
  | .str x, .str y => if x.length + y.length ≤ sizeMax then some (.str (x ++ y)) else none
  | _, _ => none
def gSub : D → D → Option D
  | .int a, .int b => some (.int (a - b))
  | _, _ => none
def gMul : D → D → Option D
  | .int a, .int b => if a.natAbs.log2 + b.natAbs.log2 < 1000000 then some (.int (a * b)) else none
  | .list xs, .int k => if k < 2 ^ 62 ∧ -(2 ^ 62) < k ∧ xs.length * k.toNat ≤ sizeMax then some (.list (List.replicate k.toNat xs).flatten) else none
  | _, _ => none
def gDiv : D → D → Option D
  | .int a, .int b => if b ≠ 0 ∧ b.natAbs.log2 < 9000 then some (.int (a.fdiv b)) else none
  | _, _ => none
def gMod : D → D → Option D
  | .int a, .int b => if b ≠ 0 then some (.int (a.fmod b)) else none
  | _, _ => none
def gPow : D → D → Option D
  | .int a, .int b => if 0 ≤ b ∧ b ≤ 1000 ∧ a.natAbs.log2 < 1000 then some (.int (a ^ b.toNat)) else none
  | _, _ => none
def gEq : D → D → Option D
  | .int a, .int b => some (.bool (a == b))
  | x, y => if SeqAt.shaped x && SeqAt.shaped y then some (.bool (PyData.eqv x y)) else none
def gNe : D → D → Option D
  | .int a, .int b => some (.bool (!(a == b)))
  | x, y => if SeqAt.shaped x && SeqAt.shaped y then some (.bool (!PyData.eqv x y)) else none
def intsOf : List D → Option (List Int)
  | [] => some []
  | .int i :: ds => (intsOf ds).map (i :: ·)
  | _ :: _ => none
def gLt : D → D → Option D
  | .int a, .int b => some (.bool (decide (a < b)))
  | .tuple xs, .tuple ys => (intsOf xs).bind fun ns => (intsOf ys).map fun ms => .bool (HT.lexLt ns ms)
  | _, _ => none
def gGt : D → D → Option D
  | .int a, .int b => some (.bool (decide (b < a)))
  | _, _ => none
def gLe : D → D → Option D
  | .int a, .int b => some (.bool (decide (a ≤ b)))
  | _, _ => none
def gGe : D → D → Option D
  | .int a, .int b => some (.bool (decide (b ≤ a)))
  | _, _ => none
def gIn : D → D → Option D
  | x, .list ds => if SeqAt.shaped x && SeqAt.shaped (.list ds) then some (.bool (ds.any fun z => PyData.eqv z x)) else none
  | _, _ => none
def gNotIn : D → D → Option D
  | x, .list ds => if SeqAt.shaped x && SeqAt.shaped (.list ds) then some (.bool (!ds.any fun z => PyData.eqv z x)) else none
  | _, _ => none
def isNone : D → Bool
  | .none => true
  | _ => false
def gIs : D → D → Option D
  | x, .none => some (.bool (isNone x))
  | _, _ => none
def gIsNot : D → D → Option D
  | x, .none => some (.bool (!isNone x))
  | _, _ => none

theorem intsOf_eq : ∀ {ds : List D} {ns : List Int}, intsOf ds = some ns → ds = ns.map PyData.int
  | [], ns, h => by simp [intsOf] at h; subst h; rfl
  | d :: ds, ns, h => by
    cases d with
    | int i =>
      simp [intsOf] at h
      obtain ⟨ms, h1, rfl⟩ := h
      rw [intsOf_eq h1]; rfl
    | _ => simp [intsOf] at h
theorem intsOf_map : ∀ ns : List Int, intsOf (ns.map PyData.int) = some ns
  | [] => rfl
  | n :: ns => by simp [intsOf, intsOf_map ns]

section
variable {X : Cx}
theorem op_powW : OpR X (binaryOp .Pow) (rI (fun i j => 0 ≤ j ∧ j ≤ 1000 ∧ i.natAbs.log2 < 1000) fun i j => .int (i ^ j.toNat)) := opI fun i j _ _ _ _ _ hc q => by
  obtain ⟨h1, h2, h3⟩ := hc
  refine pow_int h1 ?_ q
  have hb : Builtin.Int.intBits i ≤ 1000 := by
    unfold Builtin.Int.intBits
    split <;> omega
  have : (Builtin.Int.intBits i : Int) * j ≤ 1000 * 1000 := Int.mul_le_mul (by omega) h2 h1 (by omega)
  omega
theorem op_divN : OpR X (binaryOp .FloorDiv) (rI (fun _ j => j ≠ 0 ∧ j.natAbs.log2 < 9000) fun i j => .int (i.fdiv j)) := opI fun _ _ _ _ _ _ _ hc q => floordiv_int hc.1 q (.inl (PyProof.noPylong_of_log2 hc.2))
variable {K : PySem.W.Frag}
theorem OpP.int {g : D → D → Option D} {C : Int → Int → Prop} {f : Int → Int → V} {fd : Int → Int → D} (hv : ∀ a b Hf, Rp K Hf (f a b) (fd a b))
    (hg : ∀ x y d, g x y = some d → ∃ a b, x = .int a ∧ y = .int b ∧ C a b ∧ d = fd a b) : OpP K (rI C f) g := by
  intro ap p x y dx dy d H Hf Q fz pu rx ry e k
  obtain ⟨a, b, rfl, rfl, c, rfl⟩ := hg dx dy d e
  exact ⟨a, b, rx.int, ry.int, c, k H Hf _ (Nx.refl fz pu) (hv a b Hf)⟩
theorem OpP.int0 {g : D → D → Option D} {f : Int → Int → V} {fd : Int → Int → D} (hv : ∀ a b Hf, Rp K Hf (f a b) (fd a b))
    (hg : ∀ x y d, g x y = some d → ∃ a b, x = .int a ∧ y = .int b ∧ d = fd a b) : OpP K (rI0 f) g := by
  intro ap p x y dx dy d H Hf Q fz pu rx ry e k
  obtain ⟨a, b, rfl, rfl, rfl⟩ := hg dx dy d e
  exact ⟨a, b, rx.int, ry.int, k H Hf _ (Nx.refl fz pu) (hv a b Hf)⟩
/-- a new list, frozen at once -/
theorem new_list {ap : Option Addr} {p : List D} {H Hf : Hp} {Q : VK} {vs : List V} {ds : List D} (fz : Fz Hf H) (pu : PurAt K ap p H Hf) (r : RpAll K Hf vs ds) (k : ∀ H' Hf' v, Nx K ap p H Hf H' Hf' → Rp K Hf' v (.list ds) → Q v H')
    (a : Addr) (n : H a = none) : Q (.ref a) (upd H a (.lst vs)) := by
  have hf : Hf a = none := by
    cases z : Hf a with
    | none => rfl
    | some o => have := fz a o z; rw [n] at this; cases this
  refine k _ (upd Hf a (.lst vs)) _ ((Nx.laid fz pu n).freeze n upd_same hf (pu.ne n)) (.lst upd_same (r.up fun b o z => ?_))
  rw [upd_ne (ne_of_none z hf)]; exact z
theorem new_tup {ap : Option Addr} {p : List D} {H Hf : Hp} {Q : VK} {vs : List V} {ds : List D} (fz : Fz Hf H) (pu : PurAt K ap p H Hf) (r : RpAll K Hf vs ds) (k : ∀ H' Hf' v, Nx K ap p H Hf H' Hf' → Rp K Hf' v (.tuple ds) → Q v H')
    (a : Addr) (n : H a = none) : Q (.ref a) (upd H a (.tup vs)) := by
  have hf : Hf a = none := by
    cases z : Hf a with
    | none => rfl
    | some o => have := fz a o z; rw [n] at this; cases this
  refine k _ (upd Hf a (.tup vs)) _ ((Nx.laid fz pu n).freeze n upd_same hf (pu.ne n)) (.tup upd_same (r.up fun b o z => ?_))
  rw [upd_ne (ne_of_none z hf)]; exact z
def rStrCat : R2 := fun x y H Q => ∃ i j, x = .str i ∧ y = .str j ∧ i.length + j.length ≤ sizeLine ∧ Q (.str (i ++ j)) H
def rAdd3 : R2 := fun x y H Q => rI0 (fun i j => .int (i + j)) x y H Q ∨ rCat x y H Q ∨ rStrCat x y H Q
theorem op_add3 : OpR X (binaryOp .Add) rAdd3 := op_add.or (op_cat.or op_add_str)
theorem opp_add : OpP K rAdd3 gAdd := by
  intro ap p x y dx dy d H Hf Q fz pu rx ry e k
  unfold gAdd at e
  split at e
  · cases e
    exact .inl ⟨_, _, rx.int, ry.int, k H Hf _ (Nx.refl fz pu) (.int _)⟩
  · split at e
    · rename_i h
      cases e
      obtain ⟨a, vs, rfl, h1, h2⟩ := rx.list fz
      obtain ⟨b, ws, rfl, h3, h4⟩ := ry.list fz
      refine .inr (.inl ⟨a, b, vs, ws, rfl, rfl, h1, h3, by rw [h2.len, h4.len]; exact size_ok h, fun q n => new_list fz pu (h2.append h4) k q n⟩)
    · cases e
  · split at e
    · rename_i h
      cases e
      exact .inr (.inr ⟨_, _, rx.str, ry.str, size_ok h, k H Hf _ (Nx.refl fz pu) (.str _)⟩)
    · cases e
  · cases e
theorem opp_sub : OpP K (rI0 fun i j => .int (i - j)) gSub := OpP.int0 (fd := fun a b => .int (a - b)) (fun _ _ _ => .int _) fun x y d e => by
  unfold gSub at e; split at e <;> cases e; exact ⟨_, _, rfl, rfl, rfl⟩
theorem opp_div : OpP K (rI (fun _ j => j ≠ 0 ∧ j.natAbs.log2 < 9000) fun i j => .int (i.fdiv j)) gDiv := OpP.int (fd := fun a b => .int (a.fdiv b)) (fun _ _ _ => .int _) fun x y d e => by
  unfold gDiv at e
  split at e
  · split at e
    · rename_i hc
      cases e; exact ⟨_, _, rfl, rfl, hc, rfl⟩
    · cases e
  · cases e
theorem opp_mod : OpP K (rI (fun _ j => j ≠ 0) fun i j => .int (i.fmod j)) gMod := OpP.int (fd := fun a b => .int (a.fmod b)) (fun _ _ _ => .int _) fun x y d e => by
  unfold gMod at e
  split at e
  · split at e
    · rename_i hc
      cases e; exact ⟨_, _, rfl, rfl, hc, rfl⟩
    · cases e
  · cases e
theorem opp_pow : OpP K (rI (fun i j => 0 ≤ j ∧ j ≤ 1000 ∧ i.natAbs.log2 < 1000) fun i j => .int (i ^ j.toNat)) gPow := OpP.int (fd := fun a b => .int (a ^ b.toNat)) (fun _ _ _ => .int _) fun x y d e => by
  unfold gPow at e
  split at e
  · split at e
    · rename_i hc
      cases e; exact ⟨_, _, rfl, rfl, hc, rfl⟩
    · cases e
  · cases e
theorem RpAll.rep {Hf : Hp} {vs : List V} {ds : List D} (h : RpAll K Hf vs ds) : ∀ n : Nat, RpAll K Hf (List.replicate n vs).flatten (List.replicate n ds).flatten
  | 0 => .nil
  | n + 1 => by rw [List.replicate_succ, List.replicate_succ, List.flatten_cons, List.flatten_cons]; exact h.append (h.rep n)
def rMulR : R2 := fun x y H Q => rI CMulW (fun i j => .int (i * j)) x y H Q ∨ rRep x y H Q
theorem op_mulR : OpR X (binaryOp .Mult) rMulR := op_mulW.or op_rep
theorem opp_mul : OpP K rMulR gMul := by
  intro ap p x y dx dy d H Hf Q fz pu rx ry e k
  unfold gMul at e
  split at e
  · split at e
    · rename_i hc
      cases e
      exact .inl ⟨_, _, rx.int, ry.int, hc, k H Hf _ (Nx.refl fz pu) (.int _)⟩
    · cases e
  · split at e
    · rename_i hc
      cases e
      obtain ⟨h1, h2, h3⟩ := hc
      obtain ⟨a, vs, rfl, q1, q2⟩ := rx.list fz
      exact .inr ⟨a, _, vs, rfl, ry.int, q1, by omega, by omega, by rw [q2.len]; exact size_ok h3, fun q n => new_list fz pu (q2.rep _) k q n⟩
    · cases e
  · cases e
/-! ### 6. comparisons -/
theorem OpP.or1 {r r' : R2} {g : D → D → Option D} (h : OpP K r g) : OpP K (fun x y H Q => r x y H Q ∨ r' x y H Q) g := fun ap p x y dx dy d H Hf Q a b c c' e k => .inl (h ap p x y dx dy d H Hf Q a b c c' e k)
def rEqX (K : PySem.W.Frag) : R2 := fun x y H Q => rI0 (fun i j => .bl (i == j)) x y H Q ∨ rEqD K x y H Q
def rNeX (K : PySem.W.Frag) : R2 := fun x y H Q => rI0 (fun i j => .bl (!(i == j))) x y H Q ∨ rNeD K x y H Q
theorem op_eqI : OpR X (compareOp .Eq) (rI0 fun i j => .bl (i == j)) := opB0 fun _ _ _ _ _ _ _ q => eq_int q
theorem op_neI : OpR X (compareOp .NotEq) (rI0 fun i j => .bl (!(i == j))) := opB0 fun _ _ _ _ _ _ _ q => ne_int q
theorem op_eqX (hu : X.A.units + 64 < cLine) : OpR X (compareOp .Eq) (rEqX X.K) := op_eqI.or (op_eqD hu)
theorem op_neX (hu : X.A.units + 64 < cLine) : OpR X (compareOp .NotEq) (rNeX X.K) := op_neI.or (op_neD hu)
theorem shaped_lay {d : D} (h : SeqAt.shaped d = true) : d.canLay0 = true := SeqAt.canLay_of_shaped h
theorem opp_eq : OpP K (rEqX K) gEq := by
  intro ap p x y dx dy d H Hf Q fz pu rx ry e k
  unfold gEq at e
  split at e
  · cases e
    exact .inl ⟨_, _, rx.int, ry.int, k H Hf _ (Nx.refl fz pu) (.bl _)⟩
  · split at e
    · rename_i hc
      cases e
      rw [Bool.and_eq_true] at hc
      exact .inr ⟨_, _, (rx.at_ fz).dp (shaped_lay hc.1), (ry.at_ fz).dp (shaped_lay hc.2), hc.1, hc.2, k H Hf _ (Nx.refl fz pu) (.bl _)⟩
    · cases e
theorem opp_ne : OpP K (rNeX K) gNe := by
  intro ap p x y dx dy d H Hf Q fz pu rx ry e k
  unfold gNe at e
  split at e
  · cases e
    exact .inl ⟨_, _, rx.int, ry.int, k H Hf _ (Nx.refl fz pu) (.bl _)⟩
  · split at e
    · rename_i hc
      cases e
      rw [Bool.and_eq_true] at hc
      exact .inr ⟨_, _, (rx.at_ fz).dp (shaped_lay hc.1), (ry.at_ fz).dp (shaped_lay hc.2), hc.1, hc.2, k H Hf _ (Nx.refl fz pu) (.bl _)⟩
    · cases e
def rLtX (K : PySem.W.Frag) : R2 := fun x y H Q => rI0 (fun i j => .bl (decide (i < j))) x y H Q ∨ rLtT K x y H Q
theorem op_ltX (hu : X.A.units < cLine) : OpR X (compareOp .Lt) (rLtX X.K) := op_lt.or (op_ltT hu)
theorem opp_lt : OpP K (rLtX K) gLt := by
  intro ap p x y dx dy d H Hf Q fz pu rx ry e k
  unfold gLt at e
  split at e
  · cases e
    exact .inl ⟨_, _, rx.int, ry.int, k H Hf _ (Nx.refl fz pu) (.bl _)⟩
  · rename_i xs ys
    cases h1 : intsOf xs with
    | none => rw [h1] at e; cases e
    | some ns =>
      cases h2 : intsOf ys with
      | none => simp [h1, h2] at e
      | some ms =>
        simp [h1, h2] at e
        subst e
        rw [intsOf_eq h1] at rx
        rw [intsOf_eq h2] at ry
        obtain ⟨a, vs, rfl, q1, q2⟩ := rx.tup fz
        obtain ⟨b, ws, rfl, q3, q4⟩ := ry.tup fz
        rw [q2.ints] at q1
        rw [q4.ints] at q3
        exact .inr ⟨a, b, ns, ms, rfl, rfl, SqT.of q1, SqT.of q3, k H Hf _ (Nx.refl fz pu) (.bl _)⟩
  · cases e
theorem opp_gt : OpP K (rI0 fun i j => .bl (decide (j < i))) gGt := OpP.int0 (fd := fun a b => .bool (decide (b < a))) (fun _ _ _ => .bl _) fun x y d e => by
  unfold gGt at e; split at e <;> cases e; exact ⟨_, _, rfl, rfl, rfl⟩
theorem opp_le : OpP K (rI0 fun i j => .bl (decide (i ≤ j))) gLe := OpP.int0 (fd := fun a b => .bool (decide (a ≤ b))) (fun _ _ _ => .bl _) fun x y d e => by
  unfold gLe at e; split at e <;> cases e; exact ⟨_, _, rfl, rfl, rfl⟩
theorem opp_ge : OpP K (rI0 fun i j => .bl (decide (j ≤ i))) gGe := OpP.int0 (fd := fun a b => .bool (decide (b ≤ a))) (fun _ _ _ => .bl _) fun x y d e => by
  unfold gGe at e; split at e <;> cases e; exact ⟨_, _, rfl, rfl, rfl⟩
theorem opp_in : OpP K (rInD K) gIn := by
  intro ap p x y dx dy d H Hf Q fz pu rx ry e k
  unfold gIn at e
  split at e
  · split at e
    · rename_i hc
      cases e
      rw [Bool.and_eq_true] at hc
      exact ⟨_, _, (rx.at_ fz).dp (shaped_lay hc.1), (ry.at_ fz).dp (shaped_lay hc.2), hc.1, hc.2, k H Hf _ (Nx.refl fz pu) (.bl _)⟩
    · cases e
  · cases e
theorem opp_notIn : OpP K (rNotInD K) gNotIn := by
  intro ap p x y dx dy d H Hf Q fz pu rx ry e k
  unfold gNotIn at e
  split at e
  · split at e
    · rename_i hc
      cases e
      rw [Bool.and_eq_true] at hc
      exact ⟨_, _, (rx.at_ fz).dp (shaped_lay hc.1), (ry.at_ fz).dp (shaped_lay hc.2), hc.1, hc.2, k H Hf _ (Nx.refl fz pu) (.bl _)⟩
    · cases e
  · cases e
theorem Rp.non_iff {Hf : Hp} {v : V} {d : D} (h : Rp K Hf v d) : decide (v = V.non) = isNone d := by
  cases h <;> first | rfl | exact decide_eq_false (by intro z; cases z)
theorem RpO.non_iff {ap : Option Addr} {H Hf : Hp} {v : V} {d : D} (h : RpO K ap H Hf v d) : decide (v = V.non) = isNone d := by
  rcases h with h | ⟨a, vs, ds, rfl, rfl, _⟩
  · exact h.non_iff
  · exact decide_eq_false (by intro z; cases z)
theorem opp_is : OpP K (fun x y H Q => y = .non ∧ Q (.bl (decide (x = .non))) H) gIs := by
  intro ap p x y dx dy d H Hf Q fz pu rx ry e k
  unfold gIs at e
  split at e <;> cases e
  exact ⟨ry.non, by rw [rx.non_iff]; exact k H Hf _ (Nx.refl fz pu) (.bl _)⟩
theorem opp_isNot : OpP K (fun x y H Q => y = .non ∧ Q (.bl (!decide (x = .non))) H) gIsNot := by
  intro ap p x y dx dy d H Hf Q fz pu rx ry e k
  unfold gIsNot at e
  split at e <;> cases e
  exact ⟨ry.non, by rw [rx.non_iff]; exact k H Hf _ (Nx.refl fz pu) (.bl _)⟩
end
end PV

set_option Elab.async false
set_option linter.all false
set_option maxRecDepth 100000
set_option maxHeartbeats 2000000
namespace PV
open PySem PySem.Spec L2
open PyProof.Rows hiding St

/-! ### 7. names, constants, truth -/
def mK (d : D) : Ms D := fun _ p => some (d, p)
def mVar (i : Nat) : Ms D := fun env p => match (env : List (Option Sl))[i]? with
  | some (some (.fro d)) => some (d, p)
  | _ => none
def mOv (i : Nat) : Ms D := fun env p => match (env : List (Option Sl))[i]? with
  | some (some (.fro d)) => some (d, p)
  | some (some (.opn ds)) => some (.list ds, p)
  | _ => none
def mB (m : Ms D) : Ms Bool := fun env p => match m env p with
  | some (.bool b, p') => some (b, p')
  | _ => none
def mNotV (m : Ms D) : Ms D := fun env p => match m env p with
  | some (.bool b, p') => some (.bool (!b), p')
  | _ => none
def mNeg (m : Ms D) : Ms D := fun env p => match m env p with
  | some (.int b, p') => some (.int (-b), p')
  | _ => none
def mAndV (ma mb : Ms D) : Ms D := fun env p => match ma env p with
  | some (.bool true, p') => mb env p'
  | some (.bool false, p') => some (.bool false, p')
  | _ => none
def mOrV (ma mb : Ms D) : Ms D := fun env p => match ma env p with
  | some (.bool true, p') => some (.bool true, p')
  | some (.bool false, p') => mb env p'
  | _ => none
def mAndB (ma mb : Ms Bool) : Ms Bool := fun env p => match ma env p with
  | some (true, p') => mb env p'
  | some (false, p') => some (false, p')
  | none => none
def mOrB (ma mb : Ms Bool) : Ms Bool := fun env p => match ma env p with
  | some (true, p') => some (true, p')
  | some (false, p') => mb env p'
  | none => none
def mNotB (m : Ms Bool) : Ms Bool := fun env p => (m env p).map fun r => (!r.1, r.2)
def mIfB {α : Type} (c : Ms Bool) (a b : Ms α) : Ms α := fun env p => match c env p with
  | some (true, p') => a env p'
  | some (false, p') => b env p'
  | none => none
def mNever {α : Type} : Ms α := fun _ _ => none

section
variable {X : Cx} {e a b : Expr} {pos : Pos} {m ma mb : Ms D} {rest : List Expr}
theorem pp_k {d : D} {v : V} (h : PE X e (tC v)) (r : ∀ Hf, Rp X.K Hf v d) : PP X (mK d) e := pe_weak h fun σ H Q ⟨ap, Hf, env, p, d', p', s, q, k⟩ => by
  cases q
  exact k H Hf v (Nx.refl s.fz s.pur) (r Hf)
theorem pp_int {i : Int} {j : Nat} : PP X (mK (.int i)) (.Constant (.int i) j pos) := pp_k pe_int fun _ => .int i
theorem pp_bool {i : Bool} {j : Nat} : PP X (mK (.bool i)) (.Constant (.bool i) j pos) := pp_k pe_bl fun _ => .bl i
theorem pp_none {j : Nat} : PP X (mK .none) (.Constant .none j pos) := pp_k pe_non fun _ => .non
theorem pp_str {i : Str} {j : Nat} : PP X (mK (.str i)) (.Constant (.str i) j pos) := pp_k pe_str fun _ => .str i
theorem pp_var {i : Nat} {x : Str} (hN : X.N[i]? = some x) (hv : Vis X.env.scope x) (hd : (x == ("__debug__" : Str)) = false) (hc : (x == ("__classdict__" : Str)) = false) : PP X (mVar i) (.Name x pos) := pe_weak (pe_var hN hv hd hc) fun σ H Q ⟨ap, Hf, env, p, d, p', s, q, k⟩ => by
  unfold mVar at q
  split at q
  · rename_i d' he
    cases q
    obtain ⟨v, h1, h2⟩ := s.slot i _ he
    exact ⟨v, h1, k H Hf v (Nx.refl s.fz s.pur) h2⟩
  · cases q
theorem po_var {i : Nat} {x : Str} (hN : X.N[i]? = some x) (hv : Vis X.env.scope x) (hd : (x == ("__debug__" : Str)) = false) (hc : (x == ("__classdict__" : Str)) = false) : PO X (mOv i) (.Name x pos) := pe_weak (pe_var hN hv hd hc) fun σ H Q ⟨ap, Hf, env, p, d, p', s, q, k⟩ => by
  unfold mOv at q
  split at q
  · rename_i d' he
    cases q
    obtain ⟨v, h1, h2⟩ := s.slot i _ he
    exact ⟨v, h1, k H Hf v (Nx.refl s.fz s.pur) (.inl h2)⟩
  · rename_i ds he
    cases q
    obtain ⟨v, h1, a, vs, h2, h3, h4, h5, h6⟩ := s.slot i _ he
    exact ⟨v, h1, k H Hf v (Nx.refl s.fz s.pur) (.inr ⟨a, vs, ds, h2, rfl, h3, h4, h5, h6⟩)⟩
  · cases q
theorem pe_bad : PE X e (tP X.K mNever) := ⟨fun pins s σ H Q I ⟨ap, Hf, env, p, d, p', s', q, k⟩ => by cases q⟩
theorem pp_neg (ha : PO X m a) : PP X (mNeg m) (.UnaryOp .USub a pos) := pe_weak (pe_un un_neg ha) fun σ H Q ⟨ap, Hf, env, p, d, p', s, q, k⟩ => by
  unfold mNeg at q
  split at q
  · rename_i i p1 he
    cases q
    exact ⟨ap, Hf, env, p, .int i, p', s, he, fun H' Hf' v x r => ⟨i, r.int, k H' Hf' _ x (.int _)⟩⟩
  · cases q
theorem pp_not (ha : PO X m a) : PP X (mNotV m) (.UnaryOp .Not a pos) := pe_weak (pe_not ha) fun σ H Q ⟨ap, Hf, env, p, d, p', s, q, k⟩ => by
  unfold mNotV at q
  split at q
  · rename_i i p1 he
    cases q
    exact ⟨ap, Hf, env, p, .bool i, p', s, he, fun H' Hf' v x r => ⟨i, r.bl, k H' Hf' _ x (.bl _)⟩⟩
  · cases q
theorem pp_and (ha : PO X ma a) (hb : PP X mb (.BoolOp .And (b :: rest) pos)) : PP X (mAndV ma mb) (.BoolOp .And (a :: b :: rest) pos) := pe_weak (pe_and ha hb) fun σ H Q ⟨ap, Hf, env, p, d, p', s, q, k⟩ => by
  unfold mAndV at q
  split at q
  · rename_i p1 he
    refine ⟨ap, Hf, env, p, _, _, s, he, fun H' Hf' v x r => ⟨true, r.bl, iteT ?_⟩⟩
    exact ⟨ap, Hf', env, p1, d, p', s.ext x, q, fun H2 Hf2 v2 x2 r2 => k H2 Hf2 v2 (x.trans x2) r2⟩
  · rename_i p1 he
    cases q
    exact ⟨ap, Hf, env, p, _, _, s, he, fun H' Hf' v x r => ⟨false, r.bl, iteF (k H' Hf' _ x (.bl _))⟩⟩
  · cases q
theorem pp_or (ha : PO X ma a) (hb : PP X mb (.BoolOp .Or (b :: rest) pos)) : PP X (mOrV ma mb) (.BoolOp .Or (a :: b :: rest) pos) := pe_weak (pe_or ha hb) fun σ H Q ⟨ap, Hf, env, p, d, p', s, q, k⟩ => by
  unfold mOrV at q
  split at q
  · rename_i p1 he
    cases q
    exact ⟨ap, Hf, env, p, _, _, s, he, fun H' Hf' v x r => ⟨true, r.bl, iteT (k H' Hf' _ x (.bl _))⟩⟩
  · rename_i p1 he
    refine ⟨ap, Hf, env, p, _, _, s, he, fun H' Hf' v x r => ⟨false, r.bl, iteF ?_⟩⟩
    exact ⟨ap, Hf', env, p1, d, p', s.ext x, q, fun H2 Hf2 v2 x2 r2 => k H2 Hf2 v2 (x.trans x2) r2⟩
  · cases q
theorem pp_one {op : BoolOp} (h : PP X m a) : PP X m (.BoolOp op [a] pos) := pe_one h
/-! tests -/
def plainTest : Expr → Bool
  | .UnaryOp .Not _ _ => false
  | .BoolOp _ _ _ => false
  | .IfExp _ _ _ _ => false
  | .Compare _ _ _ _ => false
  | _ => true
theorem plain_test (h : plainTest e = true) (env : PySem.Env) : ∀ whole, isTrue e env whole = (do let v ← whole; standAt e.pos; holding [v] (truthy v)) := by
  intro whole
  cases e <;> first
    | rfl
    | (simp [plainTest] at h; done)
    | (rename_i op _ _; cases op <;> first | rfl | (simp [plainTest] at h; done))
theorem pb_val (h : PO X m e) (hp : plainTest e = true) : PB X (mB m) e := pt_weak (pt_val h (plain_test hp X.env)) fun σ H Q ⟨ap, Hf, env, p, d, p', s, q, k⟩ => by
  unfold mB at q
  split at q
  · rename_i b p1 he
    cases q
    exact ⟨ap, Hf, env, p, _, _, s, he, fun H' Hf' v x r => ⟨_, r.bl, k H' Hf' x⟩⟩
  · cases q
theorem pb_cmp {op : CmpOp} {r : R2} {g : D → D → Option D} (ho : OpR X (compareOp op) r) (hg : OpP X.K r g) (ha : PO X ma a) (hb : PO X mb b) (hm : behindInMarks op b = false) : PB X (mB (m2 g ma mb)) (.Compare a [op] [b] pos) :=
  pt_weak (pt_cmpR ho ha hb hm) fun σ H Q ⟨ap, Hf, env, p, d, p', s, q, k⟩ => by
    unfold mB at q
    split at q
    · rename_i b' p1 he
      cases q
      refine bin_read hg ⟨ap, Hf, env, p, _, _, s, he, fun H' Hf' v x r => ?_⟩
      cases r
      exact ⟨_, rfl, k H' Hf' x⟩
    · cases q
theorem pb_not {m : Ms Bool} (h : PB X m a) : PB X (mNotB m) (.UnaryOp .Not a pos) := pt_weak (pt_not h) fun σ H Q ⟨ap, Hf, env, p, d, p', s, q, k⟩ => by
  unfold mNotB at q
  cases he : m env p with
  | none => rw [he] at q; cases q
  | some r => rw [he] at q; cases q; exact ⟨ap, Hf, env, p, _, _, s, he, fun H' Hf' x => k H' Hf' x⟩
abbrev PWB (X : Cx) (m : Ms Bool) (e : Expr) : Prop := PW X e (tT X.K m)
theorem pw_weak {t t' : TT} (h : PW X e t) (w : ∀ σ H Q, t' σ H Q → t σ H Q) : PW X e t' := ⟨fun wh pins s σ H Q I q => h.run wh pins s σ H Q I (w σ H Q q)⟩
theorem pwb_and1 {m : Ms Bool} (h : PB X m a) : PWB X m (.BoolOp .And [a] pos) := pw_and1 h
theorem pwb_or1 {m : Ms Bool} (h : PB X m a) : PWB X m (.BoolOp .Or [a] pos) := pw_or1 h
theorem pwb_and {ma mb : Ms Bool} (ha : PB X ma a) (hb : PWB X mb (.BoolOp .And (b :: rest) pos)) : PWB X (mAndB ma mb) (.BoolOp .And (a :: b :: rest) pos) := pw_weak (pw_and ha hb) fun σ H Q ⟨ap, Hf, env, p, d, p', s, q, k⟩ => by
  unfold mAndB at q
  split at q
  · rename_i p1 he
    refine ⟨ap, Hf, env, p, _, _, s, he, fun H' Hf' x => iteT ?_⟩
    exact ⟨ap, Hf', env, p1, d, p', s.ext x, q, fun H2 Hf2 x2 => k H2 Hf2 (x.trans x2)⟩
  · rename_i p1 he
    cases q
    exact ⟨ap, Hf, env, p, _, _, s, he, fun H' Hf' x => iteF (k H' Hf' x)⟩
  · cases q
theorem pwb_or {ma mb : Ms Bool} (ha : PB X ma a) (hb : PWB X mb (.BoolOp .Or (b :: rest) pos)) : PWB X (mOrB ma mb) (.BoolOp .Or (a :: b :: rest) pos) := pw_weak (pw_or ha hb) fun σ H Q ⟨ap, Hf, env, p, d, p', s, q, k⟩ => by
  unfold mOrB at q
  split at q
  · rename_i p1 he
    cases q
    exact ⟨ap, Hf, env, p, _, _, s, he, fun H' Hf' x => iteT (k H' Hf' x)⟩
  · rename_i p1 he
    refine ⟨ap, Hf, env, p, _, _, s, he, fun H' Hf' x => iteF ?_⟩
    exact ⟨ap, Hf', env, p1, d, p', s.ext x, q, fun H2 Hf2 x2 => k H2 Hf2 (x.trans x2)⟩
  · cases q
theorem pp_if {c : Expr} {mc : Ms Bool} (hc : PB X mc c) (ha : PP X ma a) (hb : PP X mb b) : PP X (mIfB mc ma mb) (.IfExp c a b pos) := pe_weak (pe_ifExp hc ha hb) fun σ H Q ⟨ap, Hf, env, p, d, p', s, q, k⟩ => by
  unfold mIfB at q
  split at q
  · rename_i p1 he
    refine ⟨ap, Hf, env, p, _, _, s, he, fun H' Hf' x => iteT ?_⟩
    exact ⟨ap, Hf', env, p1, d, p', s.ext x, q, fun H2 Hf2 v x2 r => k H2 Hf2 v (x.trans x2) r⟩
  · rename_i p1 he
    refine ⟨ap, Hf, env, p, _, _, s, he, fun H' Hf' x => iteF ?_⟩
    exact ⟨ap, Hf', env, p1, d, p', s.ext x, q, fun H2 Hf2 v x2 r => k H2 Hf2 v (x.trans x2) r⟩
  · cases q
end

/-! ### 8. lists of expressions, displays -/
def mNil : Ms (List D) := fun _ p => some ([], p)
def mCons (ma : Ms D) (mr : Ms (List D)) : Ms (List D) := fun env p => (ma env p).bind fun r => (mr env r.2).map fun s => (r.1 :: s.1, s.2)
def mStar (ma : Ms D) (mr : Ms (List D)) : Ms (List D) := fun env p => match ma env p with
  | some (.list ds, p1) => (mr env p1).map fun s => (ds ++ s.1, s.2)
  | some (.tuple ds, p1) => (mr env p1).map fun s => (ds ++ s.1, s.2)
  | _ => none
def mSz (m : Ms (List D)) : Ms (List D) := fun env p => (m env p).bind fun r => if r.1.length ≤ sizeMax then some r else none
def mTup (m : Ms (List D)) : Ms D := fun env p => (m env p).bind fun r => if r.1.length ≤ sizeMax then some (.tuple r.1, r.2) else none
def notStar : Expr → Bool
  | .Starred _ _ => false
  | _ => true
theorem star_plain {e : Expr} (h : notStar e = true) (es : List Expr) (env : PySem.Env) : starEach (e :: es) env = (false, eval e env) :: starEach es env := by
  cases e <;> first | rfl | (simp [notStar] at h; done)
section
variable {X : Cx} {e : Expr} {es : List Expr} {pos p : Pos} {m : Ms D} {ms : Ms (List D)}
theorem pr_nil : PR X mNil [] := pa_weak pa_nil fun σ H Q ⟨ap, Hf, env, p, d, p', s, q, k⟩ => by
  cases q
  exact k H Hf [] (Nx.refl s.fz s.pur) .nil
theorem mCons_some {env : Env} {q q' : List D} {ds : List D} (h : mCons m ms env q = some (ds, q')) : ∃ d q1 es, m env q = some (d, q1) ∧ ms env q1 = some (es, q') ∧ ds = d :: es := by
  unfold mCons at h
  cases ha : m env q with
  | none => rw [ha] at h; cases h
  | some r =>
    obtain ⟨d, q1⟩ := r
    cases hb : ms env q1 with
    | none => simp [ha, hb] at h
    | some r2 => obtain ⟨es, q2⟩ := r2; simp [ha, hb] at h; obtain ⟨rfl, rfl⟩ := h; exact ⟨d, q1, es, rfl, hb, rfl⟩
theorem pr_cons (ha : PP X m e) (hr : PR X ms es) (hs : notStar e = true) : PR X (mCons m ms) (e :: es) := pa_weak (pa_cons ha hr (star_plain hs es X.env)) fun σ H Q ⟨ap, Hf, env, p, ds, p', s, q, k⟩ => by
  obtain ⟨d, q1, es', h1, h2, rfl⟩ := mCons_some q
  refine ⟨ap, Hf, env, p, d, q1, s, h1, fun H1 Hf1 v x r => ?_⟩
  refine ⟨ap, Hf1, env, q1, es', p', s.ext x, h2, fun H2 Hf2 vs x2 r2 => ?_⟩
  exact k H2 Hf2 _ (x.trans x2) (.cons (r.up x2.ext.grow) r2)
theorem pr_star (ha : PO X m e) (hr : PR X ms es) : PR X (mStar m ms) (.Starred e p :: es) := pa_weak (StX.pa_star ha hr rfl) fun σ H Q ⟨ap, Hf, env, p, ds, p', s, q, k⟩ => by
  unfold mStar at q
  split at q
  · rename_i ds0 p1 he
    cases hb : ms env p1 with
    | none => rw [hb] at q; cases q
    | some r2 =>
      obtain ⟨es, q2⟩ := r2
      rw [hb] at q; cases q
      refine ⟨ap, Hf, env, p, _, _, s, he, fun H1 Hf1 v x r => ?_⟩
      obtain ⟨a, vs, rfl, h1, h2⟩ := r.list x.fz
      refine ⟨a, vs, rfl, .inr (SqL.of h1), ap, Hf1, env, p1, es, _, s.ext x, hb, fun H2 Hf2 ws x2 r2 => ?_⟩
      exact k H2 Hf2 _ (x.trans x2) ((h2.up x2.ext.grow).append r2)
  · rename_i ds0 p1 he
    cases hb : ms env p1 with
    | none => rw [hb] at q; cases q
    | some r2 =>
      obtain ⟨es, q2⟩ := r2
      rw [hb] at q; cases q
      refine ⟨ap, Hf, env, p, _, _, s, he, fun H1 Hf1 v x r => ?_⟩
      obtain ⟨a, vs, rfl, h1, h2⟩ := r.tup x.fz
      refine ⟨a, vs, rfl, .inl (SqT.of h1), ap, Hf1, env, p1, es, _, s.ext x, hb, fun H2 Hf2 ws x2 r2 => ?_⟩
      exact k H2 Hf2 _ (x.trans x2) ((h2.up x2.ext.grow).append r2)
  · cases q
theorem fz_none {H Hf : Hp} {a : Addr} (fz : Fz Hf H) (n : H a = none) : Hf a = none := by
  cases z : Hf a with
  | none => rfl
  | some o => have := fz a o z; rw [n] at this; cases this
theorem pp_tup {k : Nat} (h : PR X ms es) : PP X (mTup ms) (.Tuple es k pos) := pe_weak (pe_tup h) fun σ H Q ⟨ap, Hf, env, p, d, p', s, q, kk⟩ => by
  unfold mTup at q
  cases he : ms env p with
  | none => rw [he] at q; cases q
  | some r =>
    obtain ⟨ds, p1⟩ := r
    rw [he] at q
    by_cases hz : ds.length ≤ sizeMax
    · simp [hz] at q
      obtain ⟨rfl, rfl⟩ := q
      refine ⟨ap, Hf, env, p, ds, p1, s, he, fun H1 Hf1 vs x r => ⟨by rw [r.len]; exact size_ok hz, fun a n => ?_⟩⟩
      exact new_tup x.fz x.pur r (fun H' Hf' v x2 r2 => kk H' Hf' v (x.trans x2) r2) a n
    · simp [hz] at q
theorem pf_lst (h : PR X ms es) : PF X (mSz ms) (.List es pos) := pe_weak (pe_lst h) fun σ H Q ⟨ap, Hf, env, p, d, p', s, q, kk⟩ => by
  unfold mSz at q
  cases he : ms env p with
  | none => rw [he] at q; cases q
  | some r =>
    obtain ⟨ds, p1⟩ := r
    rw [he] at q
    by_cases hz : ds.length ≤ sizeMax
    · simp [hz] at q
      obtain ⟨rfl, rfl⟩ := q
      refine ⟨ap, Hf, env, p, ds, p1, s, he, fun H1 Hf1 vs x r => ⟨by rw [r.len]; exact size_ok hz, fun a n => ?_⟩⟩
      have n0 : H a = none := by
        cases z : H a with
        | none => rfl
        | some o => obtain ⟨o', z'⟩ := x.ext.there a o z; rw [n] at z'; cases z'
      exact kk _ Hf1 a vs (x.trans (Nx.laid x.fz x.pur n)) n0 upd_same (fz_none x.fz n) r
    · simp [hz] at q
end
end PV

set_option Elab.async false
set_option linter.all false
set_option maxRecDepth 100000
set_option maxHeartbeats 2000000
namespace PV
open PySem PySem.Spec L2
open PyProof.Rows hiding St

/-! ### 9. items and slices -/
theorem RpAll.atI {K : PySem.W.Frag} {H : Hp} {vs : List V} {ds : List D} {i : Int} {d : D} (h : RpAll K H vs ds) (e : L2.atI ds i = some d) : ∃ v, L2.atI vs i = some v ∧ Rp K H v d := by
  unfold L2.atI at e ⊢
  rw [h.len]
  cases hx : ixN ds.length i with
  | none => rw [hx] at e; cases e
  | some j =>
    rw [hx] at e
    obtain ⟨v, h1, h2⟩ := h.get e
    exact ⟨v, h1, h2⟩
def gIx : D → D → Option D
  | .list ds, .int i => atI ds i
  | .tuple ds, .int i => atI ds i
  | _, _ => none
def plainIx : Expr → Bool
  | .Slice _ _ _ _ => false
  | _ => true
theorem plain_ix {b : Expr} (h : plainIx b = true) : PlainIx b := by
  intro o i
  cases b <;> first | rfl | (simp [plainIx] at h; done)
section
variable {X : Cx} {K : PySem.W.Frag} {e a b : Expr} {pos : Pos} {m ma mb : Ms D}
theorem opp_ix : OpP K (rIx K) gIx := by
  intro ap p x y dx dy d H Hf Q fz pu rx ry e k
  unfold gIx at e
  split at e
  · obtain ⟨a, vs, rfl, h1, h2⟩ := rx.list fz
    obtain ⟨v, h3, h4⟩ := h2.atI e
    exact .inl ⟨a, vs, _, v, rfl, ry.int, SqL.of h1, h3, k H Hf _ (Nx.refl fz pu) h4⟩
  · obtain ⟨a, vs, rfl, h1, h2⟩ := rx.tup fz
    obtain ⟨v, h3, h4⟩ := h2.atI e
    exact .inr (.inl ⟨a, vs, _, v, rfl, ry.int, SqT.of h1, h3, k H Hf _ (Nx.refl fz pu) h4⟩)
  · cases e
theorem pp_ix (ha : PO X ma a) (hb : PO X mb b) (hs : plainIx b = true) : PP X (m2 gIx ma mb) (.Subscript a b pos) :=
  pe_weak (pe_ix ix_seq ha hb (plain_ix hs)) fun σ H Q h => bin_read opp_ix h
/-! a part of a slice -/
def mPart : Option (Ms D) → Ms (Option Int)
  | none => fun _ p => some (none, p)
  | some m => fun env p => match m env p with
    | some (.int i, p') => some (some i, p')
    | _ => none
def tPt (K : PySem.W.Frag) (m : Ms (Option Int)) : TO := fun σ H Q => ∃ ap Hf env p o p', SO K ap env p σ H Hf ∧ m env p = some (o, p') ∧ ∀ H' Hf', Nx K ap p' H Hf H' Hf' → Q o H'
abbrev PPt (X : Cx) (m : Option (Ms D)) (e : Option Expr) : Prop := L2.PO X e (tPt X.K (mPart m))
theorem po_weak {X : Cx} {e : Option Expr} {t t' : TO} (h : L2.PO X e t) (w : ∀ σ H Q, t' σ H Q → t σ H Q) : L2.PO X e t' := ⟨fun pins s σ H Q I q => h.run pins s σ H Q I (w σ H Q q)⟩
theorem ppt_none : PPt X none none := po_weak po_none fun σ H Q ⟨ap, Hf, env, p, o, p', s, q, k⟩ => by
  cases q
  exact k H Hf (Nx.refl s.fz s.pur)
theorem ppt_some (h : PO X m e) : PPt X (some m) (some e) := po_weak (po_some h) fun σ H Q ⟨ap, Hf, env, p, o, p', s, q, k⟩ => by
  unfold mPart at q
  simp only at q
  split at q
  · rename_i i p1 he
    cases q
    exact ⟨ap, Hf, env, p, _, _, s, he, fun H' Hf' v x r => ⟨i, r.int, k H' Hf' x⟩⟩
  · cases q
def cutD (xs : List D) (lo hi : Option Int) : List D := (xs.drop (HT.sIx xs.length 0 lo)).take (HT.sIx xs.length xs.length hi - HT.sIx xs.length 0 lo)
theorem RpAll.cut {H : Hp} {vs : List V} {ds : List D} (h : RpAll K H vs ds) (lo hi : Option Int) : RpAll K H (cutV vs lo hi) (cutD ds lo hi) := by
  unfold cutV cutD
  rw [h.len]
  exact (h.drop _).take _
def mCutL (m : Ms D) (lo hi : Option (Ms D)) : Ms (List D) := fun env p => match m env p with
  | some (.list ds, p1) => (mPart lo env p1).bind fun r => (mPart hi env r.2).map fun s => (cutD ds r.1 s.1, s.2)
  | _ => none
theorem mCutL_some {lo hi : Option (Ms D)} {env : Env} {p p' : List D} {ds : List D} (h : mCutL m lo hi env p = some (ds, p')) :
    ∃ xs p1 l p2 u, m env p = some (.list xs, p1) ∧ mPart lo env p1 = some (l, p2) ∧ mPart hi env p2 = some (u, p') ∧ ds = cutD xs l u := by
  unfold mCutL at h
  split at h
  · rename_i xs p1 he
    cases h1 : mPart lo env p1 with
    | none => rw [h1] at h; cases h
    | some r =>
      obtain ⟨l, p2⟩ := r
      cases h2 : mPart hi env p2 with
      | none => simp [h1, h2] at h
      | some r2 => obtain ⟨u, p3⟩ := r2; simp [h1, h2] at h; obtain ⟨rfl, rfl⟩ := h; exact ⟨xs, p1, l, p2, u, he, h1, h2, rfl⟩
  · cases h
theorem h_new {ap : Option Addr} {p : List D} {H Hf H' Hf' : Hp} {a : Addr} (x : Nx K ap p H Hf H' Hf') (n : H' a = none) : H a = none := by
  cases z : H a with
  | none => rfl
  | some o => obtain ⟨o', z'⟩ := x.ext.there a o z; rw [n] at z'; cases z'
theorem pf_cut {lo hi : Option (Ms D)} {el eh : Option Expr} {p2 : Pos} (ha : PO X m a) (hl : PPt X lo el) (hh : PPt X hi eh) : PF X (mCutL m lo hi) (.Subscript a (.Slice el eh none p2) pos) :=
  pe_weak (pe_slice sl_list ha hl hh) fun σ H Q ⟨ap, Hf, env, p, ds, p', s, q, k⟩ => by
    obtain ⟨xs, p1, l, p2, u, h1, h2, h3, rfl⟩ := mCutL_some q
    refine ⟨ap, Hf, env, p, _, _, s, h1, fun H1 Hf1 v x1 r1 => ?_⟩
    refine ⟨ap, Hf1, env, p1, _, _, s.ext x1, h2, fun H2 Hf2 x2 => ?_⟩
    refine ⟨ap, Hf2, env, p2, _, _, (s.ext x1).ext x2, h3, fun H3 Hf3 x3 => ?_⟩
    obtain ⟨b, vs, rfl, h4, h5⟩ := ((r1.ext x2.ext).ext x3.ext).list x3.fz
    refine ⟨b, vs, rfl, SqL.of h4, fun q n => ?_⟩
    have x := (x1.trans x2).trans x3
    exact k _ Hf3 q _ (x.trans (Nx.laid x3.fz x3.pur n)) (h_new x n) upd_same (fz_none x3.fz n) (h5.cut l u)
/-! xs[::step], the step coming to -1 -/
theorem pe_revB {e st : Expr} {te ts : TE} {p3 pos : Pos} (he : PE X e te) (hst : PE X st ts) (hone : ∀ σ H Q, Q (V.int (-1)) H → ts σ H Q)
    (hsub : ∀ o i, subscripted (.Slice none none (some st) p3) false o i = operate [o, i] (getItem o i)) : PE X (.Subscript e (.Slice none none (some st) p3) pos) (tRevL X.K te) := by
  constructor
  intro pins s σ H Q I h
  apply Subscript_
  refine thn (he.run pins s σ H _ I h) ?_
  rintro v s1 ⟨x, H1, I1, r1, a, xs, rfl, hx, q⟩
  cases r1
  apply wpAny_Slice
  refine thn (po_none.run pins s1 σ H1 (fun o Hb => o = none ∧ Hb = H1) I1 ⟨rfl, rfl⟩) ?_
  rintro vl s2 ⟨l, H2, I2, pl, rfl, rfl⟩
  refine thn (po_none.run pins s2 σ _ (fun o Hb => o = none ∧ Hb = H2) I2 ⟨rfl, rfl⟩) ?_
  rintro vu s3 ⟨u, H3, I3, pu, rfl, rfl⟩
  refine thn ((po_some hst).run pins s3 σ _ (fun o Hb => o = some (-1) ∧ Hb = H3) I3 (hone _ _ _ ⟨-1, rfl, rfl, rfl⟩)) ?_
  rintro vs s4 ⟨o, H4, I4, ps, rfl, rfl⟩
  have I5 : Inv X pins σ H4 { s4 with heap := s4.heap.push { cls := .type "slice", data := .fields #[vl, vu, vs] } } := I4.kept (t' := s4.toks) (fun b ob z => Heap.get?_push_of_some _ z)
  obtain ⟨its, r, ht, hz⟩ := I5.list hx
  have hlen := r.length
  refine tail_any (ops := [.ref a, .ref s4.heap.objs.size]) ht.isList.typeIs PySem.slot_list_getitem.lookup ?_ (by rw [hsub])
  refine wpAny_getItem_list_slice ht.isList (Heap.IsSliceOf.new _ vl vu vs) pl pu ps (by decide) ?_ (by simp only [List.size_toArray]; omega)
  rw [PySem.W.krv_pick]
  refine ⟨V.ref _, _, I5.laid (t' := s4.toks) (o := .lst xs.reverse) (fun b ob z => Heap.get?_push_of_some _ z) (Nat.le_refl _) ?_, rfl, q _ (I5.hok.fresh (Nat.le_refl _))⟩
  exact ⟨by rw [List.length_reverse]; exact hz, _, 0, r.reverse, Heap.get?_push_size _ rfl⟩
def mRev (m : Ms D) : Ms (List D) := fun env p => match m env p with
  | some (.list ds, p1) => some (ds.reverse, p1)
  | _ => none
theorem pf_rev {st : Expr} {ts : TE} {p3 : Pos} (ha : PO X m a) (hst : PE X st ts) (hone : ∀ σ H Q, Q (V.int (-1)) H → ts σ H Q)
    (hsub : ∀ o i, subscripted (.Slice none none (some st) p3) false o i = operate [o, i] (getItem o i)) : PF X (mRev m) (.Subscript a (.Slice none none (some st) p3) pos) :=
  pe_weak (pe_revB ha hst hone hsub) fun σ H Q ⟨ap, Hf, env, p, ds, p', s, q, k⟩ => by
    unfold mRev at q
    split at q
    · rename_i xs p1 he
      cases q
      refine ⟨ap, Hf, env, p, _, _, s, he, fun H1 Hf1 v x1 r1 => ?_⟩
      obtain ⟨b, vs, rfl, h4, h5⟩ := r1.list x1.fz
      exact ⟨b, vs, rfl, SqL.of h4, fun q n => k _ Hf1 q _ (x1.trans (Nx.laid x1.fz x1.pur n)) (h_new x1 n) upd_same (fz_none x1.fz n) h5.rev⟩
    · cases q
def stepA : Expr → Bool
  | .UnaryOp .USub (.Constant (.int 1) _ _) _ => true
  | .BinOp (.Constant (.int 0) _ _) .Sub (.Constant (.int 1) _ _) _ => true
  | _ => false
theorem pf_rev1 {st : Expr} {p3 : Pos} (ha : PO X m a) (h : stepA st = true) : PF X (mRev m) (.Subscript a (.Slice none none (some st) p3) pos) := by
  unfold stepA at h
  split at h
  · exact pf_rev ha (pe_un un_neg pe_int) (fun σ H Q q => ⟨1, rfl, q⟩) fun _ _ => rfl
  · exact pf_rev ha (pe_op op_sub pe_int pe_int) (fun σ H Q q => ⟨0, 1, rfl, rfl, q⟩) fun _ _ => rfl
  · cases h
end

/-! ### 10. built-ins by their arguments -/
inductive RpOs (K : PySem.W.Frag) (ap : Option Addr) (H Hf : Hp) : List V → List D → Prop
  | nil : RpOs K ap H Hf [] []
  | cons {v : V} {vs : List V} {d : D} {ds : List D} : RpO K ap H Hf v d → RpOs K ap H Hf vs ds → RpOs K ap H Hf (v :: vs) (d :: ds)
def tArO (K : PySem.W.Frag) (m : Ms (List D)) : TA := fun σ H Q => ∃ ap Hf env p ds p', SO K ap env p σ H Hf ∧ m env p = some (ds, p') ∧ ∀ H' Hf' vs, Nx K ap p' H Hf H' Hf' → RpOs K ap H' Hf' vs ds → Q vs H'
abbrev PRO (X : Cx) (m : Ms (List D)) (es : List Expr) : Prop := PA X es (tArO X.K m)
def CallP (K : PySem.W.Frag) (r : List V → Hp → VK → Prop) (g : List D → Option D) : Prop := ∀ ap p vs ds d H Hf Q, Fz Hf H → PurAt K ap p H Hf → RpOs K ap H Hf vs ds → g ds = some d →
  (∀ H' Hf' v, Nx K ap p H Hf H' Hf' → Rp K Hf' v d → Q v H') → r vs H Q
def CallF (K : PySem.W.Frag) (r : List V → Hp → VK → Prop) (g : List D → Option (List D)) : Prop := ∀ ap p vs ds d H Hf Q, Fz Hf H → PurAt K ap p H Hf → RpOs K ap H Hf vs ds → g ds = some d →
  (∀ a ws, H a = none → RpAll K Hf ws d → Q (.ref a) (upd H a (.lst ws))) → r vs H Q
def mApp {α : Type} (g : List D → Option α) (ms : Ms (List D)) : Ms α := fun env p => (ms env p).bind fun r => (g r.1).map fun d => (d, r.2)
theorem mApp_some {α : Type} {g : List D → Option α} {ms : Ms (List D)} {env : Env} {p p' : List D} {d : α} (h : mApp g ms env p = some (d, p')) : ∃ ds, ms env p = some (ds, p') ∧ g ds = some d := by
  unfold mApp at h
  cases he : ms env p with
  | none => rw [he] at h; cases h
  | some r =>
    obtain ⟨ds, p1⟩ := r
    cases hg : g ds with
    | none => simp [he, hg] at h
    | some z => simp [he, hg] at h; obtain ⟨rfl, rfl⟩ := h; exact ⟨ds, rfl, hg⟩
section
variable {X : Cx} {K : PySem.W.Frag} {e a b : Expr} {es : List Expr} {p0 pos : Pos} {m ma mb : Ms D} {ms : Ms (List D)} {x : Str} {id T : String} {r : List V → Hp → VK → Prop}
theorem RpOs.ext {ap : Option Addr} {H Hf H' Hf' : Hp} {vs : List V} {ds : List D} (h : RpOs K ap H Hf vs ds) (x : Ext ap H Hf H' Hf') : RpOs K ap H' Hf' vs ds := by
  induction h with
  | nil => exact .nil
  | cons a _ ih => exact .cons (a.ext x) ih
theorem pro_nil : PRO X mNil [] := pa_weak pa_nil fun σ H Q ⟨ap, Hf, env, p, d, p', s, q, k⟩ => by
  cases q
  exact k H Hf [] (Nx.refl s.fz s.pur) .nil
theorem pro_cons (ha : PO X m e) (hr : PRO X ms es) (hs : notStar e = true) : PRO X (mCons m ms) (e :: es) := pa_weak (pa_cons ha hr (star_plain hs es X.env)) fun σ H Q ⟨ap, Hf, env, p, ds, p', s, q, k⟩ => by
  obtain ⟨d, q1, es', h1, h2, rfl⟩ := mCons_some q
  refine ⟨ap, Hf, env, p, d, q1, s, h1, fun H1 Hf1 v x r => ?_⟩
  refine ⟨ap, Hf1, env, q1, es', p', s.ext x, h2, fun H2 Hf2 vs x2 r2 => ?_⟩
  exact k H2 Hf2 _ (x.trans x2) (.cons (r.ext x2.ext) r2)
/-- no starred argument in a list -/
def noStars (es : List Expr) : Bool := es.all notStar
theorem no_stars : ∀ {es : List Expr} (env : PySem.Env), noStars es = true → starEach es env = es.map fun e => (false, eval e env)
  | [], _, _ => rfl
  | e :: es, env, h => by
    unfold noStars at h
    rw [List.all_cons, Bool.and_eq_true] at h
    rw [star_plain h.1, no_stars env h.2]; rfl
theorem backTo_plain {es : List Expr} {env : PySem.Env} (h : noStars es = true) (pos : Pos) : (backTo pos (starEach es env)).any (·.1) = false := by
  rw [no_stars env h]
  induction es with
  | nil => rfl
  | cons e es ih =>
    unfold noStars at h
    rw [List.all_cons, Bool.and_eq_true] at h
    have := ih h.2
    simpa [backTo] using this
theorem pp_callB {g : List D → Option D} (hc : CallR X (.builtin id) r) (hp : CallP X.K r g) (hg : Gl X x) (hm : X.mg x = none) (hv : bootBuiltins x = some (.builtin id)) (hn : x ≠ "__name__") (hdb : (x == ("__debug__" : Str)) = false)
    (ha : PRO X ms (e :: es)) (hs : noStars (e :: es) = true) : PP X (mApp g ms) (.Call (.Name x p0) (e :: es) [] pos) := by
  have h2 := hs
  unfold noStars at h2
  rw [List.all_cons, Bool.and_eq_true] at h2
  refine pe_weak (pe_callB hc hg hm hv ha hn hdb (star_plain h2.1 es X.env) (backTo_plain h2.2 pos)) fun σ H Q ⟨ap, Hf, env, p, d, p', s, q, k⟩ => ?_
  obtain ⟨ds, h3, h4⟩ := mApp_some q
  refine ⟨ap, Hf, env, p, ds, p', s, h3, fun H1 Hf1 vs x1 r1 => ?_⟩
  exact hp ap p' vs ds d H1 Hf1 Q x1.fz x1.pur r1 h4 fun H' Hf' v x2 r2 => k H' Hf' v (x1.trans x2) r2
theorem pp_callT {g : List D → Option D} (hc : CallR X (.type T) r) (hp : CallP X.K r g) (hg : Gl X x) (hm : X.mg x = none) (hv : bootBuiltins x = some (.type T)) (hn : x ≠ "__name__") (hdb : (x == ("__debug__" : Str)) = false)
    (ha : PRO X ms (e :: es)) (hs : noStars (e :: es) = true) : PP X (mApp g ms) (.Call (.Name x p0) (e :: es) [] pos) := by
  have h2 := hs
  unfold noStars at h2
  rw [List.all_cons, Bool.and_eq_true] at h2
  refine pe_weak (pe_callTy hc hg hm hv ha hn hdb (star_plain h2.1 es X.env) (backTo_plain h2.2 pos)) fun σ H Q ⟨ap, Hf, env, p, d, p', s, q, k⟩ => ?_
  obtain ⟨ds, h3, h4⟩ := mApp_some q
  refine ⟨ap, Hf, env, p, ds, p', s, h3, fun H1 Hf1 vs x1 r1 => ?_⟩
  exact hp ap p' vs ds d H1 Hf1 Q x1.fz x1.pur r1 h4 fun H' Hf' v x2 r2 => k H' Hf' v (x1.trans x2) r2
theorem pf_callT {g : List D → Option (List D)} (hc : CallR X (.type T) r) (hp : CallF X.K r g) (hg : Gl X x) (hm : X.mg x = none) (hv : bootBuiltins x = some (.type T)) (hn : x ≠ "__name__") (hdb : (x == ("__debug__" : Str)) = false)
    (ha : PRO X ms (e :: es)) (hs : noStars (e :: es) = true) : PF X (mApp g ms) (.Call (.Name x p0) (e :: es) [] pos) := by
  have h2 := hs
  unfold noStars at h2
  rw [List.all_cons, Bool.and_eq_true] at h2
  refine pe_weak (pe_callTy hc hg hm hv ha hn hdb (star_plain h2.1 es X.env) (backTo_plain h2.2 pos)) fun σ H Q ⟨ap, Hf, env, p, d, p', s, q, k⟩ => ?_
  obtain ⟨ds, h3, h4⟩ := mApp_some q
  refine ⟨ap, Hf, env, p, ds, p', s, h3, fun H1 Hf1 vs x1 r1 => ?_⟩
  exact hp ap p' vs ds d H1 Hf1 Q x1.fz x1.pur r1 h4 fun a ws n r2 => k _ Hf1 a ws (x1.trans (Nx.laid x1.fz x1.pur n)) (h_new x1 n) upd_same (fz_none x1.fz n) r2

/-! the single ones -/
def gLen : List D → Option D
  | [.list ds] => some (.int ds.length)
  | [.tuple ds] => some (.int ds.length)
  | _ => none
theorem cp_len : CallP K (fun xs H Q => ∃ p ys, xs = [.ref p] ∧ (SqL K H p ys ∨ SqT K H p ys) ∧ Q (.int ys.length) H) gLen := by
  intro ap p vs ds d H Hf Q fz pu rs e k
  unfold gLen at e
  split at e <;> cases e
  · cases rs with | cons r rr => cases rr; obtain ⟨a, ws, rfl, h1, h2⟩ := r.list fz; exact ⟨a, ws, rfl, .inl (SqL.of h1), by rw [h2.len]; exact k H Hf _ (Nx.refl fz pu) (.int _)⟩
  · cases rs with | cons r rr => cases rr; obtain ⟨a, ws, rfl, h1, h2⟩ := r.tup fz; exact ⟨a, ws, rfl, .inr (SqT.of h1), by rw [h2.len]; exact k H Hf _ (Nx.refl fz pu) (.int _)⟩
def boolsOf : List D → Option (List Bool)
  | [] => some []
  | .bool b :: ds => (boolsOf ds).map (b :: ·)
  | _ :: _ => none
theorem boolsOf_eq : ∀ {ds : List D} {bs : List Bool}, boolsOf ds = some bs → ds = bs.map PyData.bool
  | [], bs, h => by simp [boolsOf] at h; subst h; rfl
  | d :: ds, bs, h => by
    cases d with
    | bool i =>
      simp [boolsOf] at h
      obtain ⟨ms, h1, rfl⟩ := h
      rw [boolsOf_eq h1]; rfl
    | _ => simp [boolsOf] at h
def gAll : List D → Option D
  | [.list ds] => (boolsOf ds).map fun bs => .bool (bs.all _root_.id)
  | _ => none
def gAny : List D → Option D
  | [.list ds] => (boolsOf ds).map fun bs => .bool (bs.any _root_.id)
  | _ => none
def gSum : List D → Option D
  | [.list ds] => (intsOf ds).map fun ns => .int ns.sum
  | _ => none
theorem cp_all : CallP K (rAll K) gAll := by
  intro ap p vs ds d H Hf Q fz pu rs e k
  unfold gAll at e
  split at e
  · rename_i xs
    cases hb : boolsOf xs with
    | none => rw [hb] at e; cases e
    | some bs =>
      rw [hb] at e; cases e
      cases rs with | cons r rr =>
        cases rr
        obtain ⟨a, ws, rfl, h1, h2⟩ := r.list fz
        rw [boolsOf_eq hb] at h2
        rw [h2.bools] at h1
        exact ⟨a, bs, rfl, SqL.of h1, k H Hf _ (Nx.refl fz pu) (.bl _)⟩
  · cases e
theorem cp_any : CallP K (rAny K) gAny := by
  intro ap p vs ds d H Hf Q fz pu rs e k
  unfold gAny at e
  split at e
  · rename_i xs
    cases hb : boolsOf xs with
    | none => rw [hb] at e; cases e
    | some bs =>
      rw [hb] at e; cases e
      cases rs with | cons r rr =>
        cases rr
        obtain ⟨a, ws, rfl, h1, h2⟩ := r.list fz
        rw [boolsOf_eq hb] at h2
        rw [h2.bools] at h1
        exact ⟨a, bs, rfl, SqL.of h1, k H Hf _ (Nx.refl fz pu) (.bl _)⟩
  · cases e
theorem cp_sum : CallP K (rSum K) gSum := by
  intro ap p vs ds d H Hf Q fz pu rs e k
  unfold gSum at e
  split at e
  · rename_i xs
    cases hb : intsOf xs with
    | none => rw [hb] at e; cases e
    | some bs =>
      rw [hb] at e; cases e
      cases rs with | cons r rr =>
        cases rr
        obtain ⟨a, ws, rfl, h1, h2⟩ := r.list fz
        rw [intsOf_eq hb] at h2
        rw [h2.ints] at h1
        exact ⟨a, bs, rfl, SqL.of h1, k H Hf _ (Nx.refl fz pu) (.int _)⟩
  · cases e
def gMax2 : List D → Option D
  | [.int a, .int b] => some (.int (if b > a then b else a))
  | _ => none
def gMin2 : List D → Option D
  | [.int a, .int b] => some (.int (if b < a then b else a))
  | _ => none
theorem cp_max2 : CallP K (fun xs H Q => ∃ i j, xs = [.int i, .int j] ∧ Q (.int (if j > i then j else i)) H) gMax2 := by
  intro ap p vs ds d H Hf Q fz pu rs e k
  unfold gMax2 at e
  split at e <;> cases e
  cases rs with | cons r rr => cases rr with | cons r2 rr2 => cases rr2; exact ⟨_, _, by rw [r.int, r2.int], k H Hf _ (Nx.refl fz pu) (.int _)⟩
theorem cp_min2 : CallP K (fun xs H Q => ∃ i j, xs = [.int i, .int j] ∧ Q (.int (if j < i then j else i)) H) gMin2 := by
  intro ap p vs ds d H Hf Q fz pu rs e k
  unfold gMin2 at e
  split at e <;> cases e
  cases rs with | cons r rr => cases rr with | cons r2 rr2 => cases rr2; exact ⟨_, _, by rw [r.int, r2.int], k H Hf _ (Nx.refl fz pu) (.int _)⟩
def gAbs : List D → Option D
  | [.int a] => some (.int (if a < 0 then -a else a))
  | _ => none
theorem cp_abs : CallP K (fun xs H Q => ∃ i, xs = [.int i] ∧ Q (.int (if i < 0 then -i else i)) H) gAbs := by
  intro ap p vs ds d H Hf Q fz pu rs e k
  unfold gAbs at e
  split at e <;> cases e
  cases rs with | cons r rr => cases rr; exact ⟨_, by rw [r.int], k H Hf _ (Nx.refl fz pu) (.int _)⟩
def gInt : List D → Option D
  | [.int a] => some (.int a)
  | [.bool b] => some (.int (if b then 1 else 0))
  | _ => none
theorem cp_int : CallP K (fun xs H Q => (∃ i, xs = [.int i] ∧ Q (.int i) H) ∨ ∃ k, xs = [.bl k] ∧ Q (.int (if k then 1 else 0)) H) gInt := by
  intro ap p vs ds d H Hf Q fz pu rs e k
  unfold gInt at e
  split at e <;> cases e
  · cases rs with | cons r rr => cases rr; exact .inl ⟨_, by rw [r.int], k H Hf _ (Nx.refl fz pu) (.int _)⟩
  · cases rs with | cons r rr => cases rr; exact .inr ⟨_, by rw [r.bl], k H Hf _ (Nx.refl fz pu) (.int _)⟩
def gStr : List D → Option D
  | [.int a] => if a.natAbs.log2 < 1920 then some (.str (toString a)) else none
  | _ => none
theorem cp_str : CallP K (fun xs H Q => ∃ i, xs = [.int i] ∧ i.natAbs.log2 < 1920 ∧ Q (.str (toString i)) H) gStr := by
  intro ap p vs ds d H Hf Q fz pu rs e k
  unfold gStr at e
  split at e
  · split at e
    · cases e
      cases rs with | cons r rr => cases rr; exact ⟨_, by rw [r.int], by assumption, k H Hf _ (Nx.refl fz pu) (.str _)⟩
    · cases e
  · cases e
def gGcd : List D → Option D
  | [.int a, .int b] => some (.int ((Nat.gcd a.natAbs b.natAbs : Nat) : Int))
  | _ => none
theorem cp_gcd : CallP K rGcd gGcd := by
  intro ap p vs ds d H Hf Q fz pu rs e k
  unfold gGcd at e
  split at e <;> cases e
  cases rs with | cons r rr => cases rr with | cons r2 rr2 => cases rr2; exact ⟨_, _, by rw [r.int, r2.int], k H Hf _ (Nx.refl fz pu) (.int _)⟩
def gTuple : List D → Option D
  | [.list ds] => some (.tuple ds)
  | [.tuple ds] => some (.tuple ds)
  | _ => none
theorem cp_tuple : CallP K (fun xs H Q => ∃ p ys, xs = [.ref p] ∧ ((SqL K H p ys ∧ ∀ l, H l = none → Q (.ref l) (upd H l (.tup ys))) ∨ (SqT K H p ys ∧ Q (.ref p) H))) gTuple := by
  intro ap p vs ds d H Hf Q fz pu rs e k
  unfold gTuple at e
  split at e <;> cases e
  · cases rs with | cons r rr => cases rr; obtain ⟨a, ws, rfl, h1, h2⟩ := r.list fz; exact ⟨a, ws, rfl, .inl ⟨SqL.of h1, fun l n => new_tup fz pu h2 k l n⟩⟩
  · cases rs with | cons r rr =>
      cases rr
      have r2 := r.flat (by intro _ z; cases z)
      obtain ⟨a, ws, rfl, h1, h2⟩ := r.tup fz
      exact ⟨a, ws, rfl, .inr ⟨SqT.of h1, k H Hf _ (Nx.refl fz pu) r2⟩⟩
def gList : List D → Option (List D)
  | [.list ds] => some ds
  | [.tuple ds] => some ds
  | _ => none
theorem cf_list : CallF K (fun xs H Q => ∃ p ys, xs = [.ref p] ∧ (SqL K H p ys ∨ SqT K H p ys) ∧ ∀ l, H l = none → Q (.ref l) (upd H l (.lst ys))) gList := by
  intro ap p vs ds d H Hf Q fz pu rs e k
  unfold gList at e
  split at e <;> cases e
  · cases rs with | cons r rr => cases rr; obtain ⟨a, ws, rfl, h1, h2⟩ := r.list fz; exact ⟨a, ws, rfl, .inl (SqL.of h1), fun l n => k l ws n h2⟩
  · cases rs with | cons r rr => cases rr; obtain ⟨a, ws, rfl, h1, h2⟩ := r.tup fz; exact ⟨a, ws, rfl, .inr (SqT.of h1), fun l n => k l ws n h2⟩
end
end PV

set_option Elab.async false
set_option linter.all false
set_option maxRecDepth 100000
set_option maxHeartbeats 2000000
namespace PV
open PySem PySem.Spec L2
open PyProof.Rows hiding St

/-! ### 11. isinstance -/
inductive Ty where | int | bool | str | list | tuple | dict
  deriving DecidableEq
def Ty.name : Ty → String
  | .int => "int" | .bool => "bool" | .str => "str" | .list => "list" | .tuple => "tuple" | .dict => "dict"
inductive Kd where | non | bl | int | str | lst | tup | dic
def Kd.name : Kd → String
  | .non => "NoneType" | .bl => "bool" | .int => "int" | .str => "str" | .lst => "list" | .tup => "tuple" | .dic => "dict"
def kd : D → Kd
  | .none => .non | .bool _ => .bl | .int _ => .int | .str _ => .str | .list _ => .lst | .tuple _ => .tup | .dict _ => .dic
def isK : Kd → Ty → Bool
  | .int, .int | .bl, .int | .bl, .bool | .str, .str | .lst, .list | .tup, .tuple | .dic, .dict => true
  | _, _ => false
abbrev tyD (d : D) : String := (kd d).name
abbrev isD (d : D) (t : Ty) : Bool := isK (kd d) t
theorem kit_k (k : Kd) (t : Ty) : kitB k.name t.name = some (isK k t) := by
  cases k <;> cases t <;> decide +kernel
theorem kit_tbl (d : D) (t : Ty) : kitB (tyD d) t.name = some (isD d t) := kit_k _ _
theorem Rp.tyOf {K : PySem.W.Frag} {H : Hp} {v : V} {d : D} (h : Rp K H v d) : TyOf K H v (.type (tyD d)) := by
  cases h with
  | non => exact .non
  | bl b => exact .bl b
  | int i => exact .int i
  | str x => exact .str x
  | lst a b => exact .lst a
  | tup a b => exact .tup a
  | dic a => exact .dK a
def mIsi (m : Ms D) (ts : List Ty) : Ms D := fun env p => (m env p).map fun r => (.bool (ts.any (isD r.1)), r.2)
/-- the written types of an isinstance -/
structure PTy (X : Cx) (t : Ty) (e : Expr) : Prop where
  pe : PE X e (tC (.ty t.name))
theorem kit_any {K : PySem.W.Frag} (d : D) : ∀ ts : List Ty, PySem.W.kitAny K (.type (tyD d)) (ts.map fun t => Value.type t.name) = some (ts.any (isD d))
  | [] => rfl
  | t :: ts => by
    rw [List.map_cons]
    refine kitAny_cons (kit_ty (kit_tbl d t)) (fun h => ?_) fun h => ?_
    · rw [List.any_cons, h, Bool.false_or]; exact kit_any d ts
    · rw [List.any_cons, h, Bool.true_or]
section
variable {X : Cx} {e a b : Expr} {es : List Expr} {p0 pos : Pos} {m ma mb : Ms D} {ms : Ms (List D)} {x : Str} {t : Ty}
theorem pty_mk (hg : Gl X x) (hm : X.mg x = none) (hv : bootBuiltins x = some (.type t.name)) (hn : x ≠ "__name__") (hd : (x == ("__debug__" : Str)) = false) : PTy X t (.Name x pos) := ⟨pe_bltn hg hm hv rfl hn hd⟩
theorem isi_env (hg : Gl X "isinstance") (hm : X.mg "isinstance" = none) : True := trivial
theorem pp_isi1 (hg : Gl X "isinstance") (hm : X.mg "isinstance" = none) (ha : PO X m a) (ht : PTy X t b) (hs : notStar a = true) (hs2 : notStar b = true) : PP X (mIsi m [t]) (.Call (.Name "isinstance" p0) [a, b] [] pos) := by
  have e1 : starEach [a, b] X.env = (false, eval a X.env) :: starEach [b] X.env := star_plain hs _ _
  have e2 : starEach [b] X.env = (false, eval b X.env) :: starEach [] X.env := star_plain hs2 _ _
  refine pe_weak (pe_callB call_isi hg hm (by decide +kernel) (pa_cons ha (pa_cons ht.pe pa_nil e2) e1) (by decide) (by decide) e1 (by rw [e2]; rfl)) fun σ H Q ⟨ap, Hf, env, p, d, p', s, q, k⟩ => ?_
  unfold mIsi at q
  cases he : m env p with
  | none => rw [he] at q; cases q
  | some r =>
    obtain ⟨d1, p1⟩ := r
    rw [he] at q; cases q
    refine ⟨ap, Hf, env, p, d1, _, s, he, fun H1 Hf1 v x1 r1 => ?_⟩
    refine ⟨v, .ty t.name, .type (tyD d1), .type t.name, _, rfl, .ty _, .base (r1.at_ x1.fz).tyOf, kit_ty (kit_tbl d1 t), ?_⟩
    have := k H1 Hf1 (.bl ([t].any (isD d1))) x1 (.bl _)
    simpa using this
def tys : List Ty → List V := fun ts => ts.map fun t => V.ty t.name
inductive PTys (X : Cx) : List Ty → List Expr → Prop
  | nil : PTys X [] []
  | cons {t : Ty} {ts : List Ty} {e : Expr} {es : List Expr} : PTy X t e → notStar e = true → PTys X ts es → PTys X (t :: ts) (e :: es)
theorem PTys.pa : ∀ {ts : List Ty} {es : List Expr}, PTys X ts es → PA X es (fun σ H Q => Q (tys ts) H)
  | _, _, .nil => pa_weak pa_nil fun _ _ _ h => h
  | _, _, .cons h hs r => pa_weak (pa_cons h.pe r.pa (star_plain hs _ _)) fun _ _ _ h => h
theorem clsV_all : ∀ ts : List Ty, Paired ClsV (tys ts) (ts.map fun t => Value.type t.name)
  | [] => .nil
  | t :: ts => .cons (.ty _) (clsV_all ts)
theorem pp_isiT {ts : List Ty} {n : Nat} {p1 : Pos} (hg : Gl X "isinstance") (hm : X.mg "isinstance" = none) (ha : PO X m a) (ht : PTys X ts es) (hz : ts.length ≤ 100) (hs : notStar a = true) : PP X (mIsi m ts) (.Call (.Name "isinstance" p0) [a, .Tuple es n p1] [] pos) := by
  have e1 : starEach [a, .Tuple es n p1] X.env = (false, eval a X.env) :: starEach [.Tuple es n p1] X.env := star_plain hs _ _
  refine pe_weak (pe_callB call_isiT hg hm (by decide +kernel) (pa_cons ha (pa_cons (pe_tup ht.pa) pa_nil rfl) e1) (by decide) (by decide) e1 rfl) fun σ H Q ⟨ap, Hf, env, p, d, p', s, q, k⟩ => ?_
  unfold mIsi at q
  cases he : m env p with
  | none => rw [he] at q; cases q
  | some r =>
    obtain ⟨d1, p1⟩ := r
    rw [he] at q; cases q
    refine ⟨ap, Hf, env, p, d1, _, s, he, fun H1 Hf1 v x1 r1 => ?_⟩
    refine ⟨by unfold tys; rw [List.length_map]; exact Nat.le_trans hz (by decide), fun tp n => ?_⟩
    have x2 := Nx.laid (q := tp) (o := .tup (tys ts)) x1.fz x1.pur n
    exact ⟨v, tp, tys ts, .type (tyD d1), _, _, rfl, upd_same, clsV_all ts, .base ((r1.ext x2.ext).at_ x2.fz).tyOf, kit_any d1 ts, k _ Hf1 _ (x1.trans x2) (.bl _)⟩

/-! ### 12. repr -/
def reprOk (d : D) : Bool := d.showable && (!d.hasDict) && decide (d.depth ≤ 60) && decide (d.shown.length ≤ sizeMax)
def gRepr : List D → Option D
  | [.dict []] => some (.str (PyData.shown (.dict [])))
  | [d] => if reprOk d then some (.str d.shown) else none
  | _ => none
section
variable {pins : List (Addr × Obj)} {σ : L2.St} {H : Hp} {s : Shared}
theorem call_reprD (hgd : X.A.guards = some []) (hu : X.A.units + 64 < cLine) : CallR X (.builtin "repr") (fun vs H Q => ∃ v d, vs = [v] ∧ Dp X.K H v d ∧ reprOk d = true ∧ Q (.str d.shown) H) := by
  intro pins s σ H vs us Q I r h
  obtain ⟨v, d, rfl, hd, ok, q⟩ := h
  unfold reprOk at ok
  simp only [Bool.and_eq_true, decide_eq_true_eq, Bool.not_eq_true'] at ok
  obtain ⟨⟨⟨o1, o2⟩, o3⟩, o4⟩ := ok
  obtain ⟨u, rfl, ru⟩ := vals1 r
  obtain ⟨as, rd⟩ := Dp.reads I d v u hd ru
  have z := size_ok o4
  cases rd with
  | none => exact PySem.P.repr_of_none ⟨.str _, H, I.tok _, ⟨_, rfl⟩, q⟩
  | bool b => exact PySem.P.repr_of_bool ⟨.str _, H, I.tok _, ⟨_, rfl⟩, q⟩
  | int i t =>
    have o1' : i.natAbs.log2 < 1920 := by simpa [PyData.showable] using o1
    exact PySem.P.repr_of_int o1' ⟨.str _, H, I.tok _, ⟨_, rfl⟩, q⟩
  | str x t => exact PySem.P.repr_of_str ⟨.str _, H, I.tok _, ⟨_, rfl⟩, q⟩ z
  | list h1 h2 h3 h4 => exact PySem.repr_of_reads' (.list h1 h2 h3 h4) o1 (PyData.noDict_hsm o2) hgd (by omega) (fun _ _ e => e) (fun h' u tk kp => ⟨.str _, H, I.kept kp, ⟨_, rfl⟩, q⟩) z
  | tuple h1 h2 h3 h4 => exact PySem.repr_of_reads' (.tuple h1 h2 h3 h4) o1 (PyData.noDict_hsm o2) hgd (by omega) (fun _ _ e => e) (fun h' u tk kp => ⟨.str _, H, I.kept kp, ⟨_, rfl⟩, q⟩) z
  | dict h1 h2 h3 h4 h5 => simp [PyData.hasDict] at o2
theorem pairs_nil {P : Program} {w : World} {l : List DictEntry} (h : Pairs (mixKind P w) l ([] : List (Key × Value))) : l = [] := by cases h; rfl
theorem call_repr0 (hgd : X.A.guards = some []) (hu : X.A.units + 64 < cLine) : CallR X (.builtin "repr") (fun vs H Q => ∃ a, vs = [.ref a] ∧ H a = some (.dK []) ∧ Q (.str (PyData.shown (.dict []))) H) := by
  intro pins s σ H vs us Q I r h
  obtain ⟨a, rfl, ha, q⟩ := h
  obtain ⟨u, rfl, ru⟩ := vals1 r
  cases ru
  obtain ⟨_, nsm, vs', rv, o, es, ep, ho, hx, hdat, hes, hpr, _⟩ := I.hok a _ ha
  cases rv
  have es0 : es.toList = [] := pairs_nil hpr
  have rd : Reads s.heap (.ref a) (.dict []) (a :: [] ++ []) := by
    refine .dict (es := es) (n := ep) ho hx.1 hdat ?_ ?_ <;> rw [es0] <;> exact .nil
  have hdp : PyData.depth (.dict []) = 1 := by decide +kernel
  refine PySem.repr_of_reads' rd (by decide +kernel) (fun _ z => ?_) hgd (by rw [hdp]; omega) (fun _ _ e => e) (fun h' u tk kp => ⟨.str _, H, I.kept kp, ⟨_, rfl⟩, q⟩) (by decide +kernel)
  simp at z
  simp [z] at nsm
end
def rReprX (K : PySem.W.Frag) : List V → Hp → VK → Prop := fun vs H Q => (∃ a, vs = [.ref a] ∧ H a = some (.dK []) ∧ Q (.str (PyData.shown (.dict []))) H) ∨ ∃ v d, vs = [v] ∧ Dp K H v d ∧ reprOk d = true ∧ Q (.str d.shown) H
theorem call_repr (hgd : X.A.guards = some []) (hu : X.A.units + 64 < cLine) : CallR X (.builtin "repr") (rReprX X.K) := (call_repr0 hgd hu).or (call_reprD hgd hu)
mutual
theorem Rp.dpD {K : PySem.W.Frag} {H : Hp} : ∀ {d : D} {v : V}, d.hasDict = false → Rp K H v d → Dp K H v d
  | .none, _, _, h => by cases h; exact .non
  | .bool _, _, _, h => by cases h; exact .bl _
  | .int _, _, _, h => by cases h; exact .int _
  | .str _, _, _, h => by cases h; exact .str _
  | .list ds, _, c, h => by cases h with | lst a b => exact .lst (SqL.of a) (RpAll.dpD (by simpa [PyData.hasDict] using c) b)
  | .tuple ds, _, c, h => by cases h with | tup a b => exact .tup (SqT.of a) (RpAll.dpD (by simpa [PyData.hasDict] using c) b)
  | .dict _, _, c, _ => by simp [PyData.hasDict] at c
theorem RpAll.dpD {K : PySem.W.Frag} {H : Hp} : ∀ {ds : List D} {vs : List V}, PyData.hasDictAll ds = false → RpAll K H vs ds → DpAll K H vs ds
  | [], _, _, h => by cases h; exact .nil
  | _ :: _, _, c, h => by
    have c' := c
    rw [PyData.hasDictAll, Bool.or_eq_false_iff] at c'
    cases h with | cons a b => exact .cons (Rp.dpD c'.1 a) (RpAll.dpD c'.2 b)
end
theorem cp_repr {K : PySem.W.Frag} : CallP K (rReprX K) gRepr := by
  intro ap p vs ds d H Hf Q fz pu rs e k
  unfold gRepr at e
  split at e
  · cases e
    cases rs with | cons r rr =>
      cases rr
      have r2 := r.at_ fz
      cases r2 with | dic h => exact .inl ⟨_, rfl, h, k H Hf _ (Nx.refl fz pu) (.str _)⟩
  · split at e
    · rename_i ok
      cases e
      cases rs with | cons r rr =>
        cases rr
        have ok2 := ok
        unfold reprOk at ok2
        simp only [Bool.and_eq_true, decide_eq_true_eq, Bool.not_eq_true'] at ok2
        exact .inr ⟨_, _, rfl, (r.at_ fz).dpD ok2.1.1.2, ok, k H Hf _ (Nx.refl fz pu) (.str _)⟩
    · cases e
  · cases e

/-! ### 13. list(range(..)), bit_length -/
def rgD (a b : Int) : List D := (List.range (b - a).toNat).map fun i => .int (a + (i : Nat))
def rgOk (a b : Int) : Bool := decide (-(2 ^ 62) ≤ a ∧ a < 2 ^ 62 ∧ -(2 ^ 62) ≤ b ∧ b < 2 ^ 62 ∧ (b - a).toNat ≤ sizeMax)
theorem rg_ok {a b : Int} (h : rgOk a b = true) : RgOk a b := by
  unfold rgOk at h
  obtain ⟨h1, h2, h3, h4, h5⟩ := of_decide_eq_true h
  exact ⟨h1, h2, h3, h4, Nat.le_trans h5 (by decide)⟩
theorem rg_rp {K : PySem.W.Frag} {Hf : Hp} (a b : Int) : RpAll K Hf (rgV a b) (rgD a b) := by
  unfold rgV rgD
  generalize List.range (b - a).toNat = l
  induction l with
  | nil => exact .nil
  | cons i l ih => exact .cons (.int _) ih
def mLRg1 (m : Ms D) : Ms (List D) := fun env p => match m env p with
  | some (.int b, p1) => if rgOk 0 b then some (rgD 0 b, p1) else none
  | _ => none
def mLRg2 (ma mb : Ms D) : Ms (List D) := fun env p => match ma env p with
  | some (.int a, p1) => (match mb env p1 with
    | some (.int b, p2) => if rgOk a b then some (rgD a b, p2) else none
    | _ => none)
  | _ => none
theorem pf_lrg1 {p1 p2 p3 : Pos} (hc : X.calm = true) (hg : Gl X "list") (hm : X.mg "list" = none) (hg2 : Gl X "range") (hm2 : X.mg "range" = none) (ha : PO X m a) (hs : notStar a = true) :
    PF X (mLRg1 m) (.Call (.Name "list" p1) [.Call (.Name "range" p2) [a] [] p3] [] pos) :=
  pe_weak (pe_listRg hc hg hm (prg_1 hg2 hm2 ha (star_plain hs _ _)) rfl) fun σ H Q ⟨ap, Hf, env, p, ds, p', s, q, k⟩ => by
    unfold mLRg1 at q
    split at q
    · rename_i b p1' he
      split at q
      · rename_i ok
        cases q
        refine ⟨ap, Hf, env, p, _, _, s, he, fun H1 Hf1 v x1 r1 => ?_⟩
        refine ⟨b, r1.int, rg_ok ok, fun q n => ?_⟩
        exact k _ Hf1 q _ (x1.trans (Nx.laid x1.fz x1.pur n)) (h_new x1 n) upd_same (fz_none x1.fz n) (rg_rp 0 b)
      · cases q
    · cases q
theorem pf_lrg2 {p1 p2 p3 : Pos} (hc : X.calm = true) (hg : Gl X "list") (hm : X.mg "list" = none) (hg2 : Gl X "range") (hm2 : X.mg "range" = none) (ha : PO X ma a) (hb : PO X mb b) (hs : notStar a = true) (hs2 : notStar b = true) :
    PF X (mLRg2 ma mb) (.Call (.Name "list" p1) [.Call (.Name "range" p2) [a, b] [] p3] [] pos) :=
  pe_weak (pe_listRg hc hg hm (prg_2 hg2 hm2 ha hb (star_plain hs _ _) (star_plain hs2 _ _) (by rw [star_plain hs2]; rfl)) rfl) fun σ H Q ⟨ap, Hf, env, p, ds, p', s, q, k⟩ => by
    unfold mLRg2 at q
    split at q
    · rename_i a' p1' he
      split at q
      · rename_i b' p2' he2
        split at q
        · rename_i ok
          cases q
          refine ⟨ap, Hf, env, p, _, _, s, he, fun H1 Hf1 v x1 r1 => ?_⟩
          refine ⟨ap, Hf1, env, p1', _, _, s.ext x1, he2, fun H2 Hf2 v2 x2 r2 => ?_⟩
          refine ⟨a', b', r1.int, r2.int, rg_ok ok, fun q n => ?_⟩
          have x3 := x1.trans x2
          exact k _ Hf2 q _ (x3.trans (Nx.laid x2.fz x2.pur n)) (h_new x3 n) upd_same (fz_none x2.fz n) (rg_rp a' b')
        · cases q
      · cases q
    · cases q
def mBits (m : Ms D) : Ms D := fun env p => match m env p with
  | some (.int i, p1) => some (.int (Builtin.Int.intBits i : Nat), p1)
  | _ => none
theorem pp_bits {apos : Pos} (ha : PO X m a) (hb : attributeBase a "bit_length" X.env (eval a X.env) = eval a X.env) (hl : (apos.endLine == pos.line) = true) : PP X (mBits m) (.Call (.Attribute a "bit_length" apos) [] [] pos) :=
  pe_weak (pe_bits ha hb hl) fun σ H Q ⟨ap, Hf, env, p, ds, p', s, q, k⟩ => by
    unfold mBits at q
    split at q
    · rename_i i p1 he
      cases q
      exact ⟨ap, Hf, env, p, _, _, s, he, fun H1 Hf1 v x1 r1 => ⟨i, r1.int, k H1 Hf1 _ x1 (.int _)⟩⟩
    · cases q
end
end PV

set_option Elab.async false
set_option linter.all false
set_option maxRecDepth 100000
set_option maxHeartbeats 2000000
namespace PV
open PySem PySem.Spec L2
open PyProof.Rows hiding St

/-! ### 14a. slots' new values -/
def SlNew (K : PySem.W.Frag) (H H' Hf' : Hp) : Sl → V → Prop
  | .fro d, v => Rp K Hf' v d
  | .opn ds, v => ∃ a vs, v = .ref a ∧ H a = none ∧ H' a = some (.lst vs) ∧ Hf' a = none ∧ RpAll K Hf' vs ds
  | .pur, _ => False
def tX (K : PySem.W.Frag) (m : Ms Sl) : TE := fun σ H Q => ∃ ap Hf env p s p', SO K ap env p σ H Hf ∧ m env p = some (s, p') ∧ ∀ H' Hf' v, Nx K ap p' H Hf H' Hf' → SlNew K H H' Hf' s v → Q v H'
abbrev PX (X : Cx) (m : Ms Sl) (e : Expr) : Prop := PE X e (tX X.K m)
def mFro (m : Ms D) : Ms Sl := fun env p => (m env p).map fun r => (.fro r.1, r.2)
def mOpn (m : Ms (List D)) : Ms Sl := fun env p => (m env p).map fun r => (.opn r.1, r.2)
section
variable {X : Cx} {e a b : Expr} {pos : Pos} {K : PySem.W.Frag}
theorem x_of_p {m : Ms D} {σ : L2.St} {H : Hp} {Q : VK} (h : tX K (mFro m) σ H Q) : tP K m σ H Q := by
  obtain ⟨ap, Hf, env, p, s, p', so, q, k⟩ := h
  unfold mFro at q
  cases hm : m env p with
  | none => rw [hm] at q; cases q
  | some r => rw [hm] at q; cases q; exact ⟨ap, Hf, env, p, _, _, so, hm, fun H' Hf' v x r => k H' Hf' v x r⟩
theorem x_of_f {m : Ms (List D)} {σ : L2.St} {H : Hp} {Q : VK} (h : tX K (mOpn m) σ H Q) : tF K m σ H Q := by
  obtain ⟨ap, Hf, env, p, s, p', so, q, k⟩ := h
  unfold mOpn at q
  cases hm : m env p with
  | none => rw [hm] at q; cases q
  | some r => rw [hm] at q; cases q; exact ⟨ap, Hf, env, p, _, _, so, hm, fun H' Hf' a vs x n h1 h2 h3 => k H' Hf' _ x ⟨a, vs, rfl, n, h1, h2, h3⟩⟩
theorem px_p {m : Ms D} (h : PP X m e) : PX X (mFro m) e := pe_weak h fun _ _ _ => x_of_p
theorem px_f {m : Ms (List D)} (h : PF X m e) : PX X (mOpn m) e := pe_weak h fun _ _ _ => x_of_f
theorem SlNew.ok {ap : Option Addr} {p p' : List D} {H Hf H' Hf' : Hp} {s : Sl} {v : V} (h : SlNew K H H' Hf' s v) (pu : PurAt K ap p H Hf) (x : Nx K ap p' H Hf H' Hf') : SlOk K ap H' Hf' s v := by
  cases s with
  | fro d => exact h
  | pur => exact h.elim
  | opn ds =>
    obtain ⟨a, vs, h1, h2, h3, h4, h5⟩ := h
    exact ⟨a, vs, h1, h3, h4, pu.ne h2, h5⟩
theorem SlNew.ext {ap : Option Addr} {p : List D} {H H1 Hf1 H2 Hf2 : Hp} {s : Sl} {v : V} (h : SlNew K H H1 Hf1 s v) (na : ∀ a, H a = none → ap ≠ some a) (x : Nx K ap p H1 Hf1 H2 Hf2) : SlNew K H H2 Hf2 s v := by
  cases s with
  | fro d => exact Rp.up x.ext.grow h
  | pur => exact h
  | opn ds =>
    obtain ⟨a, vs, h1, h2, h3, h4, h5⟩ := h
    exact ⟨a, vs, h1, h2, x.ext.same _ _ (na a h2) h3, x.ext.new _ _ h3 h4, h5.up x.ext.grow⟩
theorem SlNew.weak {ap : Option Addr} {p : List D} {H Hf H1 Hf1 H2 Hf2 : Hp} {s : Sl} {v : V} (h : SlNew K H1 H2 Hf2 s v) (x : Nx K ap p H Hf H1 Hf1) : SlNew K H H2 Hf2 s v := by
  cases s with
  | fro d => exact h
  | pur => exact h
  | opn ds =>
    obtain ⟨a, vs, h1, h2, h3⟩ := h
    exact ⟨a, vs, h1, h_new x h2, h3⟩
/-- as data: a new list is frozen -/
def toD : Sl → D
  | .fro d => d
  | .opn ds => .list ds
  | .pur => .none
def mSl (m : Ms Sl) : Ms D := fun env p => (m env p).map fun r => (toD r.1, r.2)
theorem froze {ap : Option Addr} {p p' : List D} {H Hf H' Hf' : Hp} {s : Sl} {v : V} (pu : PurAt K ap p H Hf) (x : Nx K ap p' H Hf H' Hf') (n : SlNew K H H' Hf' s v) : ∃ Hf2, Nx K ap p' H Hf H' Hf2 ∧ Rp K Hf2 v (toD s) := by
  cases s with
  | fro d => exact ⟨Hf', x, n⟩
  | pur => exact n.elim
  | opn ds =>
    obtain ⟨a, vs, rfl, h1, h2, h3, h4⟩ := n
    refine ⟨upd Hf' a (.lst vs), x.freeze h1 h2 h3 (pu.ne h1), .lst upd_same (h4.up fun b o z => ?_)⟩
    rw [upd_ne (ne_of_none z h3)]; exact z
theorem pp_x {m : Ms Sl} (h : PX X m e) : PP X (mSl m) e := pe_weak h fun σ H Q ⟨ap, Hf, env, p, d, p', s, q, k⟩ => by
  unfold mSl at q
  cases hm : m env p with
  | none => rw [hm] at q; cases q
  | some r =>
    rw [hm] at q; cases q
    refine ⟨ap, Hf, env, p, _, _, s, hm, fun H' Hf' v x n => ?_⟩
    obtain ⟨Hf2, x2, r2⟩ := froze s.pur x n
    exact k H' Hf2 v x2 r2
end

/-! ### 14. calls of the text's own defs -/
abbrev Sm := List D → List D → Option (Sl × List D)
def permL {α : Type} (idx : List Nat) (l : List α) : List α := idx.filterMap fun i => l[i]?
def PurPre (ap : Option Addr) : Bool → List V → Prop
  | true, l => ∃ a, ap = some a ∧ l = [.ref a]
  | false, l => l = []
/-- the promise of a def: its semantics' value; n: how many arguments behind the purse -/
def spF (K : PySem.W.Frag) (pur : Bool) (n : Nat) (sem : Sm) : Sp := fun vs H Q _ => ∃ ap Hf p ds d p' pv vs', Fz Hf H ∧ PurAt K ap p H Hf ∧ PurPre ap pur pv ∧ vs = pv ++ vs' ∧ RpAll K Hf vs' ds ∧ ds.length = n ∧ sem ds p = some (d, p') ∧
  ∀ H' Hf' v, Nx K ap p' H Hf H' Hf' → SlNew K H H' Hf' d v → Q v H'
def E0 : XK := fun _ _ _ => False
theorem pass00 {X : Cx} : Passes CX0 X E0 := fun _ _ _ _ _ _ _ h => h.elim
section
variable {X : Cx} {k n : Nat} {f : Addr} {fd : FuncData} {ps ks : List Str} {sp : Sp} {idx : List Nat} {dvs : List V} {dls : List Value} {dds : List D} {x : Str} {p0 pos : Pos} {e : Expr} {es : List Expr} {kws : List Keyword} {t tk : TA} {ms mk : Ms (List D)} {sem : Sm}
theorem paired_perm {α β : Type} {R : α → β → Prop} {xs : List α} {ys : List β} (h : Paired R xs ys) : ∀ idx : List Nat, Paired R (permL idx xs) (permL idx ys)
  | [] => .nil
  | i :: idx => by
    have ih := paired_perm h idx
    have key : ∀ {xs : List α} {ys : List β}, Paired R xs ys → ∀ i : Nat, (xs[i]? = none ∧ ys[i]? = none) ∨ ∃ a b, xs[i]? = some a ∧ ys[i]? = some b ∧ R a b := by
      intro xs ys h
      induction h with
      | nil => intro i; exact .inl ⟨by simp, by simp⟩
      | cons r _ ih =>
        intro i
        cases i with
        | zero => exact .inr ⟨_, _, rfl, rfl, r⟩
        | succ i => simpa using ih i
    unfold permL at ih ⊢
    rcases key h i with ⟨h1, h2⟩ | ⟨a, b, h1, h2, r⟩
    · rw [List.filterMap_cons, List.filterMap_cons, h1, h2]; exact ih
    · rw [List.filterMap_cons, List.filterMap_cons, h1, h2]; exact .cons r ih
theorem RpAll.perm {K : PySem.W.Frag} {H : Hp} {vs : List V} {ds : List D} (h : RpAll K H vs ds) : ∀ idx : List Nat, RpAll K H (permL idx vs) (permL idx ds)
  | [] => .nil
  | i :: idx => by
    have ih := h.perm idx
    unfold permL at ih ⊢
    by_cases hi : i < ds.length
    · obtain ⟨v, h1, r⟩ := h.get (List.getElem?_eq_getElem hi)
      rw [List.filterMap_cons, List.filterMap_cons, h1, List.getElem?_eq_getElem hi]; exact .cons r ih
    · have hv : ¬ i < vs.length := by rw [h.len]; exact hi
      rw [List.filterMap_cons, List.filterMap_cons, List.getElem?_eq_none (by omega), List.getElem?_eq_none (by omega)]; exact ih
/-- how a shape of call binds the parameters -/
def BindsP (K : PySem.W.Frag) (fd : FuncData) (ps : List Str) (n : Nat) (ks : List Str) (idx : List Nat) (dls : List Value) : Prop :=
  ∀ (s : Shared) (us ws : List Value), K.In s.heap → us.length = n → ws.length = ks.length → BindsTo s fd ⟨us, ks.zip ws⟩ (ps.zip (permL idx (us ++ ws ++ dls)))
/-- the reading of a call -/
def tCallG (sp : Sp) (n m : Nat) (idx : List Nat) (dvs : List V) (t tk : TA) : TE := fun σ H Q => t σ H fun vs H1 => tk σ H1 fun zs H2 => vs.length = n ∧ zs.length = m ∧ sp (permL idx (vs ++ zs ++ dvs)) H2 Q E0
theorem runG {pins : List (Addr × Obj)} {σ : L2.St} {H : Hp} {s : Shared} {Q : VK} {us ws : List Value} {vs zs : List V} (F : FnG X.prog X.w X.K X.mg X.base CX0 k f fd ps sp) (hr : Room k X.A) (hgd : X.A.guards = some []) (hb : BindsP X.K fd ps n ks idx dls) (hd : Vals dvs dls)
    (I : Inv X pins σ H s) (r : Vals vs us) (rz : Vals zs ws) (l1 : vs.length = n) (l2 : zs.length = ks.length) (h : sp (permL idx (vs ++ zs ++ dvs)) H Q E0) : wpAny (model X.prog X.w) X.A (call (.ref f) us (ks.zip ws)) (EP X pins σ Q) X.xe s :=
  goG (args := ⟨us, ks.zip ws⟩) F hr hgd pass00 I (hb s us ws I.kIn (r.length.symm.trans l1) (rz.length.symm.trans l2)) (paired_perm ((Vals.append r rz).append hd) idx) h
theorem pe_g1 (F : FnG X.prog X.w X.K X.mg X.base CX0 k f fd ps sp) (hr : Room k X.A) (hgd : X.A.guards = some []) (hg : Gl X x) (hm : X.mg x = some (.ref f)) (hk : PySem.W.keepIn X.K (.ref f) = true) (hb : BindsP X.K fd ps n [] idx dls) (hd : Vals dvs dls)
    (ha : PA X (e :: es) t) (hdb : (x == ("__debug__" : Str)) = false) (hs : noStars (e :: es) = true) : PE X (.Call (.Name x p0) (e :: es) [] pos) (tCallG sp n 0 idx dvs t tNil) := by
  have h2 := hs
  unfold noStars at h2
  rw [List.all_cons, Bool.and_eq_true] at h2
  constructor
  intro pins s σ H Q I h
  apply wpAny_Call_Name_kw
  refine ld_glob I hg hm ?_ hdb
  refine PySem.W.callWith_K (h₀ := X.base) I.ok.mod.kin hk (thn (ha.run pos pins s σ H _ I h) ?_) (star_plain h2.1 es X.env) (backTo_plain h2.2 pos)
  rintro us s1 ⟨vs, H1, I1, r, q⟩
  exact ⟨I1.kIn, runG (ws := []) (zs := []) F hr hgd hb hd I1 r .nil q.1 q.2.1 q.2.2⟩
theorem pe_g0 (F : FnG X.prog X.w X.K X.mg X.base CX0 k f fd ps sp) (hr : Room k X.A) (hgd : X.A.guards = some []) (hg : Gl X x) (hm : X.mg x = some (.ref f)) (hk : PySem.W.keepIn X.K (.ref f) = true) (hb : BindsP X.K fd ps n [] idx dls) (hd : Vals dvs dls)
    (hdb : (x == ("__debug__" : Str)) = false) : PE X (.Call (.Name x p0) [] [] pos) (tCallG sp n 0 idx dvs tNil tNil) := by
  constructor
  intro pins s σ H Q I h
  apply wpAny_Call_Name_kw
  refine ld_glob I hg hm ?_ hdb
  exact PySem.W.callWith_K0 I.kIn hk (runG (us := []) (vs := []) (ws := []) (zs := []) F hr hgd hb hd I .nil .nil h.1 h.2.1 h.2.2)
/-- all keywords are named -/
def kwNames (kws : List Keyword) : List Str := kws.filterMap (·.1)
def kwsNamed (kws : List Keyword) : Bool := kws.all fun w => w.1.isSome
theorem kw_each : ∀ (kws : List Keyword) (env : PySem.Env) (pos : Pos), kwsNamed kws = true → (backToKw pos (keywordEach kws env)).all (·.1.isSome) = true ∧ (backToKw pos (keywordEach kws env)).filterMap (·.1) = kwNames kws ∧ (backToKw pos (keywordEach kws env)).any (·.1.isNone) = false
  | [], _, _, _ => ⟨rfl, rfl, rfl⟩
  | ⟨none, v, p⟩ :: kws, env, pos, h => by simp [kwsNamed] at h
  | ⟨some nm, v, p⟩ :: kws, env, pos, h => by
    have h' : kwsNamed kws = true := by simpa [kwsNamed] using h
    obtain ⟨a, b, c⟩ := kw_each kws env pos h'
    have e : backToKw pos (keywordEach (⟨some nm, v, p⟩ :: kws) env) = (some nm, (do let v ← eval v env; standAt pos; pure v)) :: backToKw pos (keywordEach kws env) := rfl
    rw [e]
    refine ⟨by simp only [List.all_cons, Option.isSome_some, Bool.true_and]; exact a, ?_, by simp only [List.any_cons, Option.isNone_some, Bool.false_or]; exact c⟩
    show nm :: (backToKw pos (keywordEach kws env)).filterMap (·.1) = nm :: kwNames kws
    rw [b]
theorem pe_gk0 (F : FnG X.prog X.w X.K X.mg X.base CX0 k f fd ps sp) (hr : Room k X.A) (hgd : X.A.guards = some []) (hg : Gl X x) (hm : X.mg x = some (.ref f)) (hk : PySem.W.keepIn X.K (.ref f) = true) (hb : BindsP X.K fd ps n (kwNames kws) idx dls) (hd : Vals dvs dls)
    (hkw : PK X kws tk) (hnm : kwsNamed kws = true) (hdb : (x == ("__debug__" : Str)) = false) : PE X (.Call (.Name x p0) [] kws pos) (tCallG sp n (kwNames kws).length idx dvs tNil tk) := by
  obtain ⟨a1, a2, a3⟩ := kw_each kws X.env pos hnm
  constructor
  intro pins s σ H Q I h
  apply wpAny_Call_Name_kw
  refine ld_glob I hg hm ?_ hdb
  refine PySem.W.callWith_KW0 (h₀ := X.base) I.ok.mod.kin hk a1 (thn (hkw.run pos pins s σ H _ I h) ?_) (by rw [a3]; rfl)
  rintro ws s2 ⟨zs, H2, I2, rz, q2⟩
  refine ⟨I2.kIn, ?_⟩
  rw [a2]
  exact runG (us := []) (vs := []) F hr hgd hb hd I2 .nil rz q2.1 q2.2.1 q2.2.2
theorem pe_gk1 (F : FnG X.prog X.w X.K X.mg X.base CX0 k f fd ps sp) (hr : Room k X.A) (hgd : X.A.guards = some []) (hg : Gl X x) (hm : X.mg x = some (.ref f)) (hk : PySem.W.keepIn X.K (.ref f) = true) (hb : BindsP X.K fd ps n (kwNames kws) idx dls) (hd : Vals dvs dls)
    (ha : PA X (e :: es) t) (hs : noStars (e :: es) = true) (hkw : PK X kws tk) (hnm : kwsNamed kws = true) (hdb : (x == ("__debug__" : Str)) = false) : PE X (.Call (.Name x p0) (e :: es) kws pos) (tCallG sp n (kwNames kws).length idx dvs t tk) := by
  obtain ⟨a1, a2, a3⟩ := kw_each kws X.env pos hnm
  have h2 := hs
  unfold noStars at h2
  rw [List.all_cons, Bool.and_eq_true] at h2
  constructor
  intro pins s σ H Q I h
  apply wpAny_Call_Name_kw
  refine ld_glob I hg hm ?_ hdb
  refine PySem.W.callWith_KW (h₀ := X.base) I.ok.mod.kin hk a1 (thn (ha.run pos pins s σ H _ I h) ?_) (by rw [a3, backTo_plain hs pos]; rfl) (star_plain h2.1 es X.env)
  rintro us s1 ⟨vs, H1, I1, r, q⟩
  refine thn (hkw.run pos pins s1 σ H1 _ I1 q) ?_
  rintro ws s2 ⟨zs, H2, I2, rz, q2⟩
  refine ⟨I2.kIn, ?_⟩
  rw [a2]
  exact runG F hr hgd hb hd I2 r rz q2.1 q2.2.1 q2.2.2
/-! by data -/
abbrev PKw (X : Cx) (m : Ms (List D)) (kws : List Keyword) : Prop := PK X kws (tAr X.K m)
theorem pk_weak {t t' : TA} (h : PK X kws t) (w : ∀ σ H Q, t' σ H Q → t σ H Q) : PK X kws t' := ⟨fun pos pins s σ H Q I q => h.run pos pins s σ H Q I (w σ H Q q)⟩
theorem pkw_nil : PKw X mNil [] := pk_weak pk_nil fun σ H Q ⟨ap, Hf, env, p, d, p', s, q, k⟩ => by
  cases q
  exact k H Hf [] (Nx.refl s.fz s.pur) .nil
theorem pkw_cons {m : Ms D} {nm : Option Str} {kp : Pos} (ha : PP X m e) (hr : PKw X ms kws) : PKw X (mCons m ms) (⟨nm, e, kp⟩ :: kws) := pk_weak (pk_cons ha hr) fun σ H Q ⟨ap, Hf, env, p, ds, p', s, q, k⟩ => by
  obtain ⟨d, q1, es', h1, h2, rfl⟩ := mCons_some q
  refine ⟨ap, Hf, env, p, d, q1, s, h1, fun H1 Hf1 v x r => ?_⟩
  refine ⟨ap, Hf1, env, q1, es', p', s.ext x, h2, fun H2 Hf2 vs x2 r2 => ?_⟩
  exact k H2 Hf2 _ (x.trans x2) (.cons (r.up x2.ext.grow) r2)
def mCall (sem : Sm) (np n m : Nat) (idx : List Nat) (dds : List D) (ms mk : Ms (List D)) : Ms Sl := fun env p => (ms env p).bind fun r => (mk env r.2).bind fun q =>
  if r.1.length = n ∧ q.1.length = m ∧ (permL idx (r.1 ++ q.1 ++ dds)).length = np then sem (permL idx (r.1 ++ q.1 ++ dds)) q.2 else none
theorem mCall_some {np n m : Nat} {env : Env} {p p' : List D} {d : Sl} (h : mCall sem np n m idx dds ms mk env p = some (d, p')) : ∃ ds p1 es p2, ms env p = some (ds, p1) ∧ mk env p1 = some (es, p2) ∧ ds.length = n ∧ es.length = m ∧ (permL idx (ds ++ es ++ dds)).length = np ∧ sem (permL idx (ds ++ es ++ dds)) p2 = some (d, p') := by
  unfold mCall at h
  cases h1 : ms env p with
  | none => rw [h1] at h; cases h
  | some r =>
    obtain ⟨ds, p1⟩ := r
    cases h2 : mk env p1 with
    | none => simp [h1, h2] at h
    | some r2 =>
      obtain ⟨es, p2⟩ := r2
      simp only [h1, h2, Option.bind_some] at h
      split at h
      · rename_i hc; exact ⟨ds, p1, es, p2, rfl, h2, hc.1, hc.2.1, hc.2.2, h⟩
      · cases h
/-- a call's reading from the data -/
theorem call_read {n m : Nat} {σ : L2.St} {H : Hp} {Q : VK} (hdd : ∀ Hf, RpAll X.K Hf dvs dds) (h : tX X.K (mCall sem ps.length n m idx dds ms mk) σ H Q) :
    tCallG (spF X.K false ps.length sem) n m idx dvs (tAr X.K ms) (tAr X.K mk) σ H Q := by
  obtain ⟨ap, Hf, env, p, d, p', s, q, k⟩ := h
  obtain ⟨ds, p1, es, p2, h1, h2, l1, l2, l3, h3⟩ := mCall_some q
  refine ⟨ap, Hf, env, p, ds, p1, s, h1, fun H1 Hf1 vs x1 r1 => ?_⟩
  refine ⟨ap, Hf1, env, p1, es, p2, s.ext x1, h2, fun H2 Hf2 zs x2 r2 => ?_⟩
  have rr : RpAll X.K Hf2 (permL idx (vs ++ zs ++ dvs)) (permL idx (ds ++ es ++ dds)) := (((r1.up x2.ext.grow).append r2).append (hdd Hf2)).perm idx
  refine ⟨r1.len.trans l1, r2.len.trans l2, ap, Hf2, p2, _, d, p', [], _, x2.fz, x2.pur, rfl, rfl, rr, l3, h3, fun H3 Hf3 v x3 r3 => k H3 Hf3 v ((x1.trans x2).trans x3) (r3.weak (x1.trans x2))⟩
/-- the forms of a call -/
theorem pp_g1 {n : Nat} (F : FnG X.prog X.w X.K X.mg X.base CX0 k f fd ps (spF X.K false ps.length sem)) (hr : Room k X.A) (hgd : X.A.guards = some []) (hg : Gl X x) (hm : X.mg x = some (.ref f)) (hk : PySem.W.keepIn X.K (.ref f) = true) (hb : BindsP X.K fd ps n [] idx dls) (hd : Vals dvs dls) (hdd : ∀ Hf, RpAll X.K Hf dvs dds)
    (ha : PR X ms (e :: es)) (hdb : (x == ("__debug__" : Str)) = false) (hs : noStars (e :: es) = true) : PX X (mCall sem ps.length n 0 idx dds ms mNil) (.Call (.Name x p0) (e :: es) [] pos) :=
  pe_weak (pe_g1 F hr hgd hg hm hk hb hd ha hdb hs) fun σ H Q h => by
    obtain ⟨ap, Hf, env, p, ds, p', s, q, c⟩ := call_read (dvs := dvs) hdd h
    refine ⟨ap, Hf, env, p, ds, p', s, q, fun H1 Hf1 vs x1 r1 => ?_⟩
    obtain ⟨ap2, Hf2, env2, p2, es2, p2', s2, q2, c2⟩ := c H1 Hf1 vs x1 r1
    cases q2
    exact c2 H1 Hf2 [] (Nx.refl s2.fz s2.pur) .nil
theorem pp_gk0 {n : Nat} (F : FnG X.prog X.w X.K X.mg X.base CX0 k f fd ps (spF X.K false ps.length sem)) (hr : Room k X.A) (hgd : X.A.guards = some []) (hg : Gl X x) (hm : X.mg x = some (.ref f)) (hk : PySem.W.keepIn X.K (.ref f) = true) (hb : BindsP X.K fd ps n (kwNames kws) idx dls) (hd : Vals dvs dls) (hdd : ∀ Hf, RpAll X.K Hf dvs dds)
    (hkw : PKw X mk kws) (hnm : kwsNamed kws = true) (hdb : (x == ("__debug__" : Str)) = false) : PX X (mCall sem ps.length n (kwNames kws).length idx dds mNil mk) (.Call (.Name x p0) [] kws pos) :=
  pe_weak (pe_gk0 F hr hgd hg hm hk hb hd hkw hnm hdb) fun σ H Q h => by
    obtain ⟨ap, Hf, env, p, ds, p', s, q, c⟩ := call_read (dvs := dvs) hdd h
    cases q
    exact c H Hf [] (Nx.refl s.fz s.pur) .nil
theorem pp_gk1 {n : Nat} (F : FnG X.prog X.w X.K X.mg X.base CX0 k f fd ps (spF X.K false ps.length sem)) (hr : Room k X.A) (hgd : X.A.guards = some []) (hg : Gl X x) (hm : X.mg x = some (.ref f)) (hk : PySem.W.keepIn X.K (.ref f) = true) (hb : BindsP X.K fd ps n (kwNames kws) idx dls) (hd : Vals dvs dls) (hdd : ∀ Hf, RpAll X.K Hf dvs dds)
    (ha : PR X ms (e :: es)) (hs : noStars (e :: es) = true) (hkw : PKw X mk kws) (hnm : kwsNamed kws = true) (hdb : (x == ("__debug__" : Str)) = false) : PX X (mCall sem ps.length n (kwNames kws).length idx dds ms mk) (.Call (.Name x p0) (e :: es) kws pos) :=
  pe_weak (pe_gk1 F hr hgd hg hm hk hb hd ha hs hkw hnm hdb) fun σ H Q h => call_read (dvs := dvs) hdd h
/-- f(purse, ..): the purse stands in the i-th slot -/
def mCallP (sem : Sm) (np i n : Nat) (ms : Ms (List D)) : Ms Sl := fun env p => match (env : List (Option Sl))[i]? with
  | some (some .pur) => (ms env p).bind fun r => if r.1.length = n ∧ n + 1 = np then sem r.1 r.2 else none
  | _ => none
theorem pp_gp {i n : Nat} {y : Str} {py : Pos} (F : FnG X.prog X.w X.K X.mg X.base CX0 k f fd ps (spF X.K true n sem)) (hr : Room k X.A) (hgd : X.A.guards = some []) (hg : Gl X x) (hm : X.mg x = some (.ref f)) (hk : PySem.W.keepIn X.K (.ref f) = true) (hb : BindsP X.K fd ps (n + 1) [] (List.range (n + 1)) [])
    (hN : X.N[i]? = some y) (hv : Vis X.env.scope y) (hyd : (y == ("__debug__" : Str)) = false) (hyc : (y == ("__classdict__" : Str)) = false)
    (ha : PR X ms es) (hdb : (x == ("__debug__" : Str)) = false) (hs : noStars es = true) : PX X (mCallP sem ps.length i n ms) (.Call (.Name x p0) (.Name y py :: es) [] pos) := by
  have hs2 : noStars (.Name y py :: es) = true := by unfold noStars at hs ⊢; rw [List.all_cons, hs]; rfl
  refine pe_weak (pe_g1 F hr hgd hg hm hk hb .nil (pa_cons (pe_var hN hv hyd hyc) ha rfl) hdb hs2) fun σ H Q ⟨ap, Hf, env, p, d, p', s, q, c⟩ => ?_
  unfold mCallP at q
  split at q
  · rename_i he
    obtain ⟨v, h1, a, rfl, hap⟩ := s.slot i _ he
    cases h2 : ms env p with
    | none => rw [h2] at q; cases q
    | some r =>
      obtain ⟨ds, p1⟩ := r
      simp only [h2, Option.bind_some] at q
      split at q
      · rename_i hc
        refine ⟨.ref a, h1, ap, Hf, env, p, ds, p1, s, h2, fun H1 Hf1 vs x1 r1 => ?_⟩
        have lv := r1.len
        have hperm : permL (List.range (n + 1)) (V.ref a :: vs ++ [] ++ []) = V.ref a :: vs := by
          have hl : (V.ref a :: vs).length = n + 1 := by simp; omega
          rw [List.append_nil, List.append_nil, ← hl]
          unfold permL
          generalize V.ref a :: vs = l
          apply List.ext_getElem?
          intro j
          have e : (List.range l.length).filterMap (fun i => l[i]?) = l := by
            have : ∀ (l : List V), (List.range l.length).filterMap (fun i => l[i]?) = l := by
              intro l
              induction l with
              | nil => rfl
              | cons a l ih =>
                rw [List.length_cons, List.range_succ_eq_map, List.filterMap_cons]
                simp only [List.getElem?_cons_zero, List.filterMap_map]
                congr 1
            exact this l
          rw [e]
        refine ⟨by simp; omega, rfl, ?_⟩
        rw [hperm]
        exact ⟨ap, Hf1, p1, ds, d, p', [.ref a], vs, x1.fz, x1.pur, ⟨a, hap, rfl⟩, rfl, r1, hc.1, q, fun H3 Hf3 v x3 r3 => c H3 Hf3 v (x1.trans x3) (r3.weak x1)⟩
      · cases q
  · cases q
end
end PV

set_option Elab.async false
set_option linter.all false
set_option maxRecDepth 100000
set_option maxHeartbeats 2000000
namespace PV
open PySem PySem.Spec L2
open PyProof.Rows hiding St

/-! ### 15. targets -/
inductive Tg where
  | nm (i : Nat)
  | tp (ts : List Tg)
mutual
def Tg.slots : Tg → List Nat
  | .nm i => [i]
  | .tp ts => Tg.slotsAll ts
def Tg.slotsAll : List Tg → List Nat
  | [] => []
  | t :: ts => t.slots ++ Tg.slotsAll ts
end
mutual
def bindT : Tg → D → Env → Option Env
  | .nm i, d, env => some (List.set env i (some (.fro d)))
  | .tp ts, .tuple ds, env => bindAll ts ds env
  | .tp _, _, _ => none
def bindAll : List Tg → List D → Env → Option Env
  | [], [], env => some env
  | t :: ts, d :: ds, env => (bindT t d env).bind fun env' => bindAll ts ds env'
  | _, _, _ => none
end
/-- what a target's store leaves -/
structure Stored (sl : List Nat) (σ σ' : L2.St) : Prop where
  len : σ'.length = σ.length
  other : ∀ i, i ∉ sl → (σ' : List (Option V))[i]? = (σ : List (Option V))[i]?
structure StoredE (sl : List Nat) (e e' : Env) : Prop where
  other : ∀ i, i ∉ sl → (e' : List (Option Sl))[i]? = (e : List (Option Sl))[i]?
  at_ : ∀ i s, i ∈ sl → (e' : List (Option Sl))[i]? = some (some s) → ∃ d, s = .fro d
def tG (K : PySem.W.Frag) (T : Tg) : TG := fun v σ H Q => ∃ ap Hf env p d env', SO K ap env p σ H Hf ∧ Rp K Hf v d ∧ bindT T d env = some env' ∧ ∀ σ', SO K ap env' p σ' H Hf → Stored T.slots σ σ' → StoredE T.slots env env' → Q σ' H
def tGs (K : PySem.W.Frag) (Ts : List Tg) : TGs := fun vs σ H Q => ∃ ap Hf env p ds env', SO K ap env p σ H Hf ∧ RpAll K Hf vs ds ∧ bindAll Ts ds env = some env' ∧ ∀ σ', SO K ap env' p σ' H Hf → Stored (Tg.slotsAll Ts) σ σ' → StoredE (Tg.slotsAll Ts) env env' → Q σ' H
abbrev PTg (X : Cx) (T : Tg) (e : Expr) : Prop := PG X e (tG X.K T)
abbrev PTgs (X : Cx) (Ts : List Tg) (es : List Expr) : Prop := PGs X es (tGs X.K Ts)
theorem SO.set {K : PySem.W.Frag} {ap : Option Addr} {env : Env} {p : List D} {σ : L2.St} {H Hf : Hp} (s : SO K ap env p σ H Hf) {i : Nat} {v : V} {d : D} (hi : i < σ.length) (r : Rp K Hf v d) : SO K ap (List.set env i (some (.fro d))) p (σ.set i (some v)) H Hf := by
  refine ⟨s.fz, s.pur, fun j sl h => ?_⟩
  by_cases hj : i = j
  · subst hj
    by_cases hl : i < env.length
    · rw [List.getElem?_set_self hl] at h
      cases h
      exact ⟨v, List.getElem?_set_self hi, r⟩
    · rw [List.getElem?_eq_none (by rw [List.length_set]; omega)] at h; cases h
  · rw [List.getElem?_set_ne hj] at h
    obtain ⟨w, h1, h2⟩ := s.slot j sl h
    exact ⟨w, by rw [List.getElem?_set_ne hj]; exact h1, h2⟩
section
variable {X : Cx} {e : Expr} {es : List Expr} {pos : Pos}
theorem pg_weak {t t' : TG} (h : PG X e t) (w : ∀ v σ H Q, σ.length = X.N.length → t' v σ H Q → t v σ H Q) : PG X e t' := ⟨fun pins s σ H v u Q I r q => h.run pins s σ H v u Q I r (w v σ H Q I.len q)⟩
theorem ptg_nm {i : Nat} {x : Str} (hN : X.N.Nodup) (hi : X.N[i]? = some x) (hx : Loc X.env.scope x) (hf : X.fn x = true ∨ X.env.scope.names.lookup x = some .local) : PTg X (.nm i) (.Name x pos) :=
  pg_weak (pg_name hN hi hx hf) fun v σ H Q hlen ⟨ap, Hf, env, p, d, env', s, r, q, k⟩ => by
    rw [bindT] at q
    cases q
    have hil : i < σ.length := by rw [hlen]; exact (List.getElem?_eq_some_iff.mp hi).1
    refine k _ (s.set hil r) ⟨List.length_set, fun j hj => ?_⟩ ⟨fun j hj => ?_, fun j s' hj h => ?_⟩
    · rw [Tg.slots, List.mem_singleton] at hj
      exact List.getElem?_set_ne (Ne.symm hj)
    · rw [Tg.slots, List.mem_singleton] at hj
      exact List.getElem?_set_ne (Ne.symm hj)
    · rw [Tg.slots, List.mem_singleton] at hj
      subst hj
      by_cases hl : j < env.length
      · rw [List.getElem?_set_self hl] at h; cases h; exact ⟨_, rfl⟩
      · rw [List.getElem?_eq_none (by rw [List.length_set]; omega)] at h; cases h
theorem ptgs_nil : PTgs X [] [] := ⟨fun pins s σ H vs us Q I rv ⟨ap, Hf, env, p, ds, env', s', r, q, k⟩ => by
  cases ds with
  | nil =>
    rw [bindAll] at q
    cases q
    have e : vs = [] := by cases r; rfl
    exact pgs_nil.run pins s σ H vs us Q I rv ⟨e, k σ s' ⟨rfl, fun _ _ => rfl⟩ ⟨fun _ _ => rfl, fun i s hi _ => by rw [Tg.slotsAll] at hi; cases hi⟩⟩
  | cons d ds => simp [bindAll] at q⟩
def gConsT (t : TG) (u : TGs) : TGs := gCons t u
/-- every expression of the list is an assignable name or tuple -/
def tgShape : Expr → Bool
  | .Name _ _ => true
  | .Tuple _ _ _ => true
  | _ => false
theorem assign_each {e : Expr} (h : tgShape e = true) (es : List Expr) (env : PySem.Env) : (assignEach (e :: es) env).map (·.2) = assign e env :: (assignEach es env).map (·.2) := by
  cases e <;> first | rfl | (simp [tgShape] at h; done)
theorem ptgs_cons {T : Tg} {Ts : List Tg} (h1 : PTg X T e) (h2 : PTgs X Ts es) (hs : tgShape e = true) : PTgs X (T :: Ts) (e :: es) :=
  ⟨fun pins s σ H vs us Q I rv ⟨ap, Hf, env, p, ds, env', s', r, q, k⟩ => by
    cases ds with
    | nil => simp [bindAll] at q
    | cons d ds =>
      cases r with
      | cons r1 r2 =>
        rename_i v vs hx0
        rw [bindAll] at q
        cases hb : bindT T d env with
        | none => rw [hb] at q; cases q
        | some env1 =>
          rw [hb] at q
          have q2 : bindAll Ts ds env1 = some env' := q
          refine (pgs_cons h1 h2 (assign_each hs es X.env)).run pins s σ H (v :: vs) us Q I rv ⟨v, vs, rfl, ap, Hf, env, p, d, env1, s', r1, hb, fun σ1 s1 st1 se1 => ?_⟩
          refine ⟨ap, Hf, env1, p, ds, env', s1, r2, q2, fun σ2 s2 st2 se2 => ?_⟩
          refine k σ2 s2 ⟨st2.len.trans st1.len, fun j hj => ?_⟩ ⟨fun j hj => ?_, fun j sl hj hh => ?_⟩
          · rw [Tg.slotsAll, List.mem_append, not_or] at hj
            rw [st2.other j hj.2, st1.other j hj.1]
          · rw [Tg.slotsAll, List.mem_append, not_or] at hj
            rw [se2.other j hj.2, se1.other j hj.1]
          · rw [Tg.slotsAll, List.mem_append] at hj
            by_cases hj2 : j ∈ Tg.slotsAll Ts
            · exact se2.at_ j sl hj2 hh
            · rw [se2.other j hj2] at hh
              exact se1.at_ j sl (hj.resolve_right hj2) hh⟩
theorem assign_len : ∀ {es : List Expr} (env : PySem.Env), es.all tgShape = true → (assignEach es env).length = es.length ∧ (assignEach es env).findIdx? (·.1) = none
  | [], _, _ => ⟨rfl, rfl⟩
  | e :: es, env, h => by
    rw [List.all_cons, Bool.and_eq_true] at h
    obtain ⟨h1, h2⟩ := assign_len (es := es) env h.2
    have key : assignEach (e :: es) env = (false, assign e env) :: assignEach es env := by
      have h3 := h.1
      cases e <;> first | rfl | (simp [tgShape] at h3; done)
    rw [key]
    exact ⟨by rw [List.length_cons, List.length_cons, h1], by rw [List.findIdx?_cons, h2]; rfl⟩
theorem bindAll_len : ∀ {Ts : List Tg} {ds : List D} {env env' : Env}, bindAll Ts ds env = some env' → Ts.length = ds.length
  | [], [], _, _, _ => rfl
  | [], _ :: _, _, _, h => by simp [bindAll] at h
  | _ :: _, [], _, _, h => by simp [bindAll] at h
  | T :: Ts, d :: ds, env, env', h => by
    rw [bindAll] at h
    cases hb : bindT T d env with
    | none => rw [hb] at h; cases h
    | some env1 => rw [hb] at h; exact congrArg Nat.succ (bindAll_len (env := env1) (env' := env') h)
theorem ptg_tp {Ts : List Tg} {n : Nat} (hc : X.calm = true) (h : PTgs X Ts es) (hs : es.all tgShape = true) (hl : Ts.length = es.length) : PTg X (.tp Ts) (.Tuple es n pos) :=
  pg_weak (pg_tup hc h (assign_len X.env hs).1 (assign_len X.env hs).2) fun v σ H Q hlen ⟨ap, Hf, env, p, d, env', s, r, q, k⟩ => by
    cases d with
    | tuple ds =>
      rw [bindT] at q
      cases r with
      | tup h1 h2 =>
        rename_i a vs hx0
        have l1 := bindAll_len q
        exact ⟨a, vs, rfl, SqT.of (s.fz _ _ h1), by rw [h2.len]; omega, ap, Hf, env, p, ds, env', s, h2, q, fun σ' s' st se => k σ' s' (by rw [Tg.slots]; exact st) (by rw [Tg.slots]; exact se)⟩
    | none => simp [bindT] at q
    | bool _ => simp [bindT] at q
    | int _ => simp [bindT] at q
    | str _ => simp [bindT] at q
    | list _ => simp [bindT] at q
    | dict _ => simp [bindT] at q
end

/-! ### 16. what is walked -/
/-- st: the walked thing is frozen (a for's body may change open lists) -/
def ItRel (st : Bool) (ap : Option Addr) (H1 Hf1 H Hf : Hp) : Prop := Fz Hf H ∧ Fz Hf1 Hf ∧ (st = false → ∀ b o, ap ≠ some b → H1 b = some o → H b = some o)
def ItOk (K : PySem.W.Frag) (ap : Option Addr) (J : It) (ds : List D) (H1 Hf1 : Hp) (st : Bool) : Prop := ∀ H Hf, ItRel st ap H1 Hf1 H Hf → ∀ i, (ds.length ≤ i → J.stop i H) ∧ ∀ d, ds[i]? = some d → J.go i H ∧
  ∀ p, PurAt K ap p H Hf → ∀ x H', J.yld i H x H' → ∃ Hf', Nx K ap p H Hf H' Hf' ∧ Rp K Hf' x d
def tI (K : PySem.W.Frag) (m : Ms (List D)) (st : Bool) : TI := fun σ H R => ∃ ap Hf env p ds p', SO K ap env p σ H Hf ∧ m env p = some (ds, p') ∧ ∀ J H' Hf', Nx K ap p' H Hf H' Hf' → ItOk K ap J ds H' Hf' st → R J H'
abbrev PIt (X : Cx) (m : Ms (List D)) (st : Bool) (tg e : Expr) : Prop := PI X tg e (tI X.K m st)
theorem pi_weak {X : Cx} {tg e : Expr} {t t' : TI} (h : PI X tg e t) (w : ∀ σ H R, t' σ H R → t σ H R) : PI X tg e t' := ⟨fun pins s σ H R I q => h.run pins s σ H R I (w σ H R q)⟩
theorem pi_or {X : Cx} {tg e : Expr} {t t' : TI} (h : PI X tg e t) (h' : PI X tg e t') : PI X tg e (fun σ H R => t σ H R ∨ t' σ H R) := ⟨fun pins s σ H R I q => q.elim (h.run pins s σ H R I) (h'.run pins s σ H R I)⟩
def mIt (m : Ms D) : Ms (List D) := fun env p => match m env p with
  | some (.list ds, p1) => some (ds, p1)
  | some (.tuple ds, p1) => some (ds, p1)
  | _ => none
section
variable {X : Cx} {K : PySem.W.Frag} {tg e a b c : Expr} {es : List Expr} {p0 pos tpos : Pos} {kk : Nat} {m ma mb mc : Ms D} {ms : Ms (List D)}
theorem it_list {ap : Option Addr} {a : Addr} {vs : List V} {ds : List D} {H1 Hf1 : Hp} {st : Bool} (r : RpAll K Hf1 vs ds) (h : ∀ H Hf, ItRel st ap H1 Hf1 H Hf → H a = some (.lst vs)) : ItOk K ap (Itl K a) ds H1 Hf1 st := by
  intro H Hf rel i
  have q : SqL K H a vs := SqL.of (h H Hf rel)
  refine ⟨fun hi => ⟨vs, q, by rw [r.len]; exact hi⟩, fun d hd => ?_⟩
  obtain ⟨v, h1, h2⟩ := r.get hd
  refine ⟨⟨vs, v, q, h1⟩, fun p pu x H' y => ?_⟩
  obtain ⟨e, y⟩ := y
  subst e
  have := y vs q
  rw [h1] at this
  cases this
  exact ⟨Hf, Nx.refl rel.1 pu, h2.up rel.2.1⟩
theorem it_tup {ap : Option Addr} {a : Addr} {vs : List V} {ds : List D} {H1 Hf1 : Hp} {st : Bool} (r : RpAll K Hf1 vs ds) (h : ∀ H Hf, ItRel st ap H1 Hf1 H Hf → H a = some (.tup vs)) : ItOk K ap (Itt K a) ds H1 Hf1 st := by
  intro H Hf rel i
  have q : SqT K H a vs := SqT.of (h H Hf rel)
  refine ⟨fun hi => ⟨vs, q, by rw [r.len]; exact hi⟩, fun d hd => ?_⟩
  obtain ⟨v, h1, h2⟩ := r.get hd
  refine ⟨⟨vs, v, q, h1⟩, fun p pu x H' y => ?_⟩
  obtain ⟨e, y⟩ := y
  subst e
  have := y vs q
  rw [h1] at this
  cases this
  exact ⟨Hf, Nx.refl rel.1 pu, h2.up rel.2.1⟩
theorem pit_seq (ha : PP X m a) (st : Bool) : PIt X (mIt m) st tg a := pi_weak (pi_or (pi_list ha) (pi_tup ha)) fun σ H R ⟨ap, Hf, env, p, ds, p', s, q, k⟩ => by
  unfold mIt at q
  split at q
  · rename_i xs p1 he
    cases q
    refine .inl ⟨ap, Hf, env, p, _, _, s, he, fun H1 Hf1 v x1 r1 => ?_⟩
    cases r1 with
    | lst h1 h2 => exact ⟨_, rfl, ⟨_, SqL.of (x1.fz _ _ h1)⟩, k _ H1 Hf1 x1 (it_list h2 fun H2 Hf2 rel => rel.1 _ _ (rel.2.1 _ _ h1))⟩
  · rename_i xs p1 he
    cases q
    refine .inr ⟨ap, Hf, env, p, _, _, s, he, fun H1 Hf1 v x1 r1 => ?_⟩
    cases r1 with
    | tup h1 h2 => exact ⟨_, rfl, ⟨_, SqT.of (x1.fz _ _ h1)⟩, k _ H1 Hf1 x1 (it_tup h2 fun H2 Hf2 rel => rel.1 _ _ (rel.2.1 _ _ h1))⟩
  · cases q
/-- an open list, in a comprehension -/
theorem pit_seqO (ha : PO X m a) : PIt X (mIt m) false tg a := pi_weak (pi_or (pi_list ha) (pi_tup ha)) fun σ H R ⟨ap, Hf, env, p, ds, p', s, q, k⟩ => by
  unfold mIt at q
  split at q
  · rename_i xs p1 he
    cases q
    refine .inl ⟨ap, Hf, env, p, _, _, s, he, fun H1 Hf1 v x1 r1 => ?_⟩
    rcases r1 with r1 | ⟨b, vs, ds', rfl, e2, h3, h4, h5, h6⟩
    · cases r1 with
      | lst h1 h2 => exact ⟨_, rfl, ⟨_, SqL.of (x1.fz _ _ h1)⟩, k _ H1 Hf1 x1 (it_list h2 fun H2 Hf2 rel => rel.1 _ _ (rel.2.1 _ _ h1))⟩
    · cases e2
      exact ⟨_, rfl, ⟨_, SqL.of h3⟩, k _ H1 Hf1 x1 (it_list h6 fun H2 Hf2 rel => rel.2.2 rfl _ _ h5 h3)⟩
  · rename_i xs p1 he
    cases q
    refine .inr ⟨ap, Hf, env, p, _, _, s, he, fun H1 Hf1 v x1 r1 => ?_⟩
    have r2 := r1.flat (by intro _ z; cases z)
    cases r2 with
    | tup h1 h2 => exact ⟨_, rfl, ⟨_, SqT.of (x1.fz _ _ h1)⟩, k _ H1 Hf1 x1 (it_tup h2 fun H2 Hf2 rel => rel.1 _ _ (rel.2.1 _ _ h1))⟩
  · cases q
theorem it_rng {ap : Option Addr} (lo : Int) (n : Nat) {H1 Hf1 : Hp} {st : Bool} : ItOk K ap (Itr lo n) ((List.range n).map fun i => .int (lo + (i : Nat))) H1 Hf1 st := by
  intro H Hf rel i
  refine ⟨fun hi => (show n ≤ i by simpa using hi), fun d hd => ?_⟩
  rw [List.getElem?_map] at hd
  by_cases hi : i < n
  · rw [List.getElem?_range hi] at hd
    cases hd
    refine ⟨hi, fun p pu x H' y => ?_⟩
    obtain ⟨rfl, rfl⟩ := y
    exact ⟨Hf, Nx.refl rel.1 pu, .int _⟩
  · rw [List.getElem?_eq_none (by simpa using hi)] at hd
    cases hd
def mRng1 (ms : Ms (List D)) : Ms (List D) := fun env p => match ms env p with
  | some ([.int b], p1) => if -(2 ^ 62) ≤ b ∧ b < 2 ^ 62 then some (rgD 0 b, p1) else none
  | _ => none
def mRng2 (ms : Ms (List D)) : Ms (List D) := fun env p => match ms env p with
  | some ([.int a, .int b], p1) => if -(2 ^ 62) ≤ a ∧ a < 2 ^ 62 ∧ -(2 ^ 62) ≤ b ∧ b < 2 ^ 62 then some (rgD a b, p1) else none
  | _ => none
/-- range(a, b, -1) -/
def mRng3 (ms : Ms (List D)) : Ms (List D) := fun env p => match ms env p with
  | some ([.int a, .int b, .int (-1)], p1) => if -(2 ^ 62) ≤ a ∧ a < 2 ^ 62 ∧ -(2 ^ 62) ≤ b ∧ b < 2 ^ 62 then some ((List.range (a - b).toNat).map fun i => .int (a + (i : Nat) * (-1)), p1) else none
  | _ => none
theorem no_stars1 {e : Expr} {es : List Expr} (hs : noStars (e :: es) = true) (env : PySem.Env) : starEach (e :: es) env = (false, eval e env) :: starEach es env := by
  unfold noStars at hs
  rw [List.all_cons, Bool.and_eq_true] at hs
  exact star_plain hs.1 es env
theorem no_stars2 {e : Expr} {es : List Expr} (hs : noStars (e :: es) = true) : noStars es = true := by
  unfold noStars at hs ⊢
  rw [List.all_cons, Bool.and_eq_true] at hs
  exact hs.2
theorem RpOs.nil_of {ap : Option Addr} {H Hf : Hp} {vs : List V} (h : RpOs K ap H Hf vs []) : vs = [] := by cases h; rfl
theorem pit_rng1 (hg : Gl X "range") (hm : X.mg "range" = none) (ha : PRO X ms [a]) (hs : noStars [a] = true) (st : Bool) : PIt X (mRng1 ms) st tg (.Call (.Name "range" p0) [a] [] pos) :=
  pi_weak (pi_range1 hg hm ha (by rw [no_stars1 hs]; rfl)) fun σ H R ⟨ap, Hf, env, p, ds, p', s, q, k⟩ => by
    unfold mRng1 at q
    split at q
    · rename_i b' p1 he
      split at q
      · rename_i ok
        cases q
        refine ⟨ap, Hf, env, p, _, _, s, he, fun H1 Hf1 vs x1 r1 => ?_⟩
        cases r1 with
        | cons r rr =>
          cases rr
          refine ⟨b', by rw [r.int], ok.1, ok.2, k _ H1 Hf1 x1 ?_⟩
          have e : rgD 0 b' = (List.range b'.toNat).map fun i => .int (0 + (i : Nat)) := by unfold rgD; rw [Int.sub_zero]
          rw [e]; exact it_rng 0 _
      · cases q
    · cases q
theorem pit_rng2 (hg : Gl X "range") (hm : X.mg "range" = none) (ha : PRO X ms [a, b]) (hs : noStars [a, b] = true) (st : Bool) : PIt X (mRng2 ms) st tg (.Call (.Name "range" p0) [a, b] [] pos) :=
  pi_weak (pi_range2 hg hm ha (by rw [no_stars1 hs, no_stars1 (no_stars2 hs)]; rfl) (by rw [no_stars1 (no_stars2 hs)]; rfl)) fun σ H R ⟨ap, Hf, env, p, ds, p', s, q, k⟩ => by
    unfold mRng2 at q
    split at q
    · rename_i a' b' p1 he
      split at q
      · rename_i ok
        cases q
        refine ⟨ap, Hf, env, p, _, _, s, he, fun H1 Hf1 vs x1 r1 => ?_⟩
        cases r1 with
        | cons r rr =>
          cases rr with
          | cons r2 rr2 =>
            cases rr2
            exact ⟨a', b', by rw [r.int, r2.int], ok, k _ H1 Hf1 x1 (it_rng a' _)⟩
      · cases q
    · cases q
theorem pit_rng3 (hg : Gl X "range") (hm : X.mg "range" = none) (ha : PRO X ms [a, b, c]) (hs : noStars [a, b, c] = true) (st : Bool)
    (h3 : ∀ (ta : TA), PA X [a, b, c] ta → PI X tg (.Call (.Name "range" p0) [a, b, c] [] pos) (iRng3 ta)) : PIt X (mRng3 ms) st tg (.Call (.Name "range" p0) [a, b, c] [] pos) :=
  pi_weak (h3 _ ha) fun σ H R ⟨ap, Hf, env, p, ds, p', s, q, k⟩ => by
    unfold mRng3 at q
    split at q
    · rename_i a' b' p1 he
      split at q
      · rename_i ok
        cases q
        refine ⟨ap, Hf, env, p, _, _, s, he, fun H1 Hf1 vs x1 r1 => ?_⟩
        cases r1 with
        | cons r rr =>
          cases rr with
          | cons r2 rr2 =>
            cases rr2 with
            | cons r3 rr3 =>
              cases rr3
              refine ⟨a', b', -1, _, by rw [r.int, r2.int, r3.int], RgC.neg ok.1 ok.2.1 ok.2.2.1 ok.2.2.2, k _ H1 Hf1 x1 ?_⟩
              intro H2 Hf2 rel i
              refine ⟨fun hi => (show (a' - b').toNat ≤ i by simpa using hi), fun d hd => ?_⟩
              rw [List.getElem?_map] at hd
              by_cases hi : i < (a' - b').toNat
              · rw [List.getElem?_range hi] at hd
                cases hd
                refine ⟨hi, fun p pu x H' y => ?_⟩
                obtain ⟨rfl, rfl⟩ := y
                exact ⟨Hf2, Nx.refl rel.1 pu, .int _⟩
              · rw [List.getElem?_eq_none (by simpa using hi)] at hd
                cases hd
      · cases q
    · cases q
/-- a new pair, frozen -/
theorem pair_nx {ap : Option Addr} {p : List D} {H Hf : Hp} {T : Addr} {vs : List V} {ds : List D} (fz : Fz Hf H) (pu : PurAt K ap p H Hf) (n : H T = none) (r : RpAll K Hf vs ds) :
    ∃ Hf', Nx K ap p H Hf (upd H T (.tup vs)) Hf' ∧ Rp K Hf' (.ref T) (.tuple ds) := by
  have hf := fz_none fz n
  refine ⟨upd Hf T (.tup vs), (Nx.laid fz pu n).freeze n upd_same hf (pu.ne n), .tup upd_same (r.up fun b o z => ?_)⟩
  rw [upd_ne (ne_of_none z hf)]; exact z
def zipD : List D → List D → List D
  | a :: as, b :: bs => .tuple [a, b] :: zipD as bs
  | _, _ => []
theorem zipD_get : ∀ {xs ys : List D} {i : Nat} {d : D}, (zipD xs ys)[i]? = some d → ∃ x y, xs[i]? = some x ∧ ys[i]? = some y ∧ d = .tuple [x, y]
  | [], _, _, _, h => by simp [zipD] at h
  | _ :: _, [], _, _, h => by simp [zipD] at h
  | x :: xs, y :: ys, 0, d, h => by simp [zipD] at h; subst h; exact ⟨x, y, rfl, rfl, rfl⟩
  | x :: xs, y :: ys, i + 1, d, h => by
    simp [zipD] at h
    obtain ⟨x', y', h1, h2, h3⟩ := zipD_get h
    exact ⟨x', y', by simpa using h1, by simpa using h2, h3⟩
theorem zipD_len : ∀ (xs ys : List D), (zipD xs ys).length = min xs.length ys.length
  | [], _ => by simp [zipD]
  | _ :: _, [] => by simp [zipD]
  | x :: xs, y :: ys => by simp [zipD, zipD_len xs ys]
def mZip (ms : Ms (List D)) : Ms (List D) := fun env p => match ms env p with
  | some ([.list xs, .list ys], p1) => some (zipD xs ys, p1)
  | some ([.tuple xs, .tuple ys], p1) => some (zipD xs ys, p1)
  | _ => none
theorem pit_zip (hg : Gl X "zip") (hm : X.mg "zip" = none) (ha : PR X ms [a, b]) (hs : noStars [a, b] = true) (st : Bool) : PIt X (mZip ms) st (.Tuple es kk tpos) (.Call (.Name "zip" p0) [a, b] [] pos) :=
  pi_weak (RZ.pi_zipA hg hm ha (no_stars1 hs X.env) (backTo_plain (no_stars2 hs) pos)) fun σ H R ⟨ap, Hf, env, p, ds, p', s, q, k⟩ => by
    unfold mZip at q
    split at q
    · rename_i xs ys p1 he
      cases q
      refine ⟨ap, Hf, env, p, _, _, s, he, fun H1 Hf1 vs x1 r1 => ?_⟩
      cases r1 with
      | cons r rr =>
        cases rr with
        | cons r2 rr2 =>
          cases rr2
          cases r with
          | lst h1 h2 =>
            cases r2 with
            | lst h3 h4 =>
              rename_i a1 vs1 a2 vs2
              refine ⟨a1, a2, vs1, vs2, rfl, .inl ⟨SqL.of (x1.fz _ _ h1), SqL.of (x1.fz _ _ h3), k _ H1 Hf1 x1 ?_⟩⟩
              intro H2 Hf2 rel i
              have q1 : SqL X.K H2 a1 vs1 := SqL.of (rel.1 _ _ (rel.2.1 _ _ h1))
              have q2 : SqL X.K H2 a2 vs2 := SqL.of (rel.1 _ _ (rel.2.1 _ _ h3))
              refine ⟨fun hi => ⟨vs1, vs2, q1, q2, ?_⟩, fun d hd => ?_⟩
              · rw [zipD_len] at hi; rw [h2.len, h4.len]; omega
              · obtain ⟨dx, dy, g1, g2, rfl⟩ := zipD_get hd
                obtain ⟨v1, e1, f1⟩ := h2.get g1
                obtain ⟨v2, e2, f2⟩ := h4.get g2
                refine ⟨⟨vs1, vs2, v1, v2, q1, q2, e1, e2⟩, fun p pu x H' y => ?_⟩
                obtain ⟨T, y1, y2, rfl, nT, rfl, g3, g4⟩ := y
                have z1 := g3 _ q1
                have z2 := g4 _ q2
                rw [e1] at z1; rw [e2] at z2
                cases z1; cases z2
                exact pair_nx rel.1 pu nT (.cons (f1.up rel.2.1) (.cons (f2.up rel.2.1) .nil))
    · rename_i xs ys p1 he
      cases q
      refine ⟨ap, Hf, env, p, _, _, s, he, fun H1 Hf1 vs x1 r1 => ?_⟩
      cases r1 with
      | cons r rr =>
        cases rr with
        | cons r2 rr2 =>
          cases rr2
          cases r with
          | tup h1 h2 =>
            cases r2 with
            | tup h3 h4 =>
              rename_i a1 vs1 a2 vs2
              refine ⟨a1, a2, vs1, vs2, rfl, .inr ⟨SqT.of (x1.fz _ _ h1), SqT.of (x1.fz _ _ h3), k _ H1 Hf1 x1 ?_⟩⟩
              intro H2 Hf2 rel i
              have q1 : SqT X.K H2 a1 vs1 := SqT.of (rel.1 _ _ (rel.2.1 _ _ h1))
              have q2 : SqT X.K H2 a2 vs2 := SqT.of (rel.1 _ _ (rel.2.1 _ _ h3))
              refine ⟨fun hi => ⟨vs1, vs2, q1, q2, ?_⟩, fun d hd => ?_⟩
              · rw [zipD_len] at hi; rw [h2.len, h4.len]; omega
              · obtain ⟨dx, dy, g1, g2, rfl⟩ := zipD_get hd
                obtain ⟨v1, e1, f1⟩ := h2.get g1
                obtain ⟨v2, e2, f2⟩ := h4.get g2
                refine ⟨⟨vs1, vs2, v1, v2, q1, q2, e1, e2⟩, fun p pu x H' y => ?_⟩
                obtain ⟨T, y1, y2, rfl, nT, rfl, g3, g4⟩ := y
                have z1 := g3 _ q1
                have z2 := g4 _ q2
                rw [e1] at z1; rw [e2] at z2
                cases z1; cases z2
                exact pair_nx rel.1 pu nT (.cons (f1.up rel.2.1) (.cons (f2.up rel.2.1) .nil))
    · cases q
def enumD : Nat → List D → List D
  | _, [] => []
  | n, d :: ds => .tuple [.int (n : Nat), d] :: enumD (n + 1) ds
theorem enumD_get : ∀ {xs : List D} {n i : Nat} {d : D}, (enumD n xs)[i]? = some d → ∃ x, xs[i]? = some x ∧ d = .tuple [.int ((n + i : Nat) : Int), x]
  | [], _, _, _, h => by simp [enumD] at h
  | x :: xs, n, 0, d, h => by simp [enumD] at h; subst h; exact ⟨x, rfl, by simp⟩
  | x :: xs, n, i + 1, d, h => by
    simp [enumD] at h
    obtain ⟨x', h1, h2⟩ := enumD_get h
    exact ⟨x', by simpa using h1, by rw [h2, Nat.add_assoc, Nat.add_comm 1 i]⟩
theorem enumD_len : ∀ (xs : List D) (n : Nat), (enumD n xs).length = xs.length
  | [], _ => rfl
  | x :: xs, n => by simp [enumD, enumD_len xs]
def mEnum (ms : Ms (List D)) : Ms (List D) := fun env p => match ms env p with
  | some ([.list xs], p1) => some (enumD 0 xs, p1)
  | _ => none
theorem pit_enum (hg : Gl X "enumerate") (hm : X.mg "enumerate" = none) (ha : PR X ms [a]) (hs : noStars [a] = true) (st : Bool) : PIt X (mEnum ms) st (.Tuple es kk tpos) (.Call (.Name "enumerate" p0) [a] [] pos) :=
  pi_weak (pi_enum hg hm ha (by rw [no_stars1 hs]; rfl)) fun σ H R ⟨ap, Hf, env, p, ds, p', s, q, k⟩ => by
    unfold mEnum at q
    split at q
    · rename_i xs p1 he
      cases q
      refine ⟨ap, Hf, env, p, _, _, s, he, fun H1 Hf1 vs x1 r1 => ?_⟩
      cases r1 with
      | cons r rr =>
        cases rr
        cases r with
        | lst h1 h2 =>
          rename_i a1 vs1
          refine ⟨a1, vs1, rfl, SqL.of (x1.fz _ _ h1), k _ H1 Hf1 x1 ?_⟩
          intro H2 Hf2 rel i
          have q1 : SqL X.K H2 a1 vs1 := SqL.of (rel.1 _ _ (rel.2.1 _ _ h1))
          refine ⟨fun hi => ⟨vs1, q1, by rw [enumD_len] at hi; rw [h2.len]; exact hi⟩, fun d hd => ?_⟩
          obtain ⟨dx, g1, rfl⟩ := enumD_get hd
          obtain ⟨v1, e1, f1⟩ := h2.get g1
          refine ⟨⟨vs1, v1, q1, e1⟩, fun p pu x H' y => ?_⟩
          obtain ⟨T, y1, rfl, nT, rfl, g3⟩ := y
          have z1 := g3 _ q1
          rw [e1] at z1
          cases z1
          rw [Nat.zero_add]
          exact pair_nx rel.1 pu nT (.cons (.int _) (.cons (f1.up rel.2.1) .nil))
    · cases q
end
end PV

set_option Elab.async false
set_option linter.all false
set_option maxRecDepth 100000
set_option maxHeartbeats 2000000
namespace PV
open PySem PySem.Spec L2
open PyProof.Rows hiding St

/-! ### 17. comprehensions -/
def wipeE (env : Env) : List Nat → Env
  | [] => env
  | v :: vs => List.set (wipeE env vs) v none
theorem wipe_in {σ : L2.St} {j : Nat} : ∀ {vs : List Nat}, j ∈ vs → j < σ.length → (wipe σ vs : List (Option V))[j]? = some none
  | v :: vs, h, hl => by
    unfold wipe
    by_cases hj : v = j
    · subst hj; exact List.getElem?_set_self (by rw [wipe_length]; exact hl)
    · rw [List.getElem?_set_ne hj]
      rcases List.mem_cons.mp h with e | h
      · exact absurd e.symm hj
      · exact wipe_in h hl
theorem wipeE_some {env : Env} {i : Nat} {s : Sl} : ∀ {vs : List Nat}, (wipeE env vs : List (Option Sl))[i]? = some (some s) → (env : List (Option Sl))[i]? = some (some s) ∧ i ∉ vs
  | [], h => ⟨h, by simp⟩
  | v :: vs, h => by
    unfold wipeE at h
    by_cases hi : v = i
    · subst hi
      by_cases hv : v < (wipeE env vs).length
      · rw [List.getElem?_set_self hv] at h; cases h
      · rw [List.getElem?_eq_none (by rw [List.length_set]; omega)] at h; cases h
    · rw [List.getElem?_set_ne hi] at h
      obtain ⟨h1, h2⟩ := wipeE_some h
      exact ⟨h1, by rw [List.mem_cons, not_or]; exact ⟨fun e => hi e.symm, h2⟩⟩
theorem wipe_back {σ σ2 : L2.St} {vs sl : List Nat} (st : Stored sl (wipe σ vs) σ2) (sub : ∀ i ∈ sl, i ∈ vs) : wipe σ2 vs = wipe σ vs := by
  have hl : σ2.length = σ.length := st.len.trans (wipe_length σ vs)
  apply List.ext_getElem?
  intro j
  by_cases hj : j ∈ vs
  · by_cases hr : j < σ.length
    · rw [wipe_in hj hr, wipe_in hj (by omega)]
    · rw [List.getElem?_eq_none (by rw [wipe_length]; omega), List.getElem?_eq_none (by rw [wipe_length]; omega)]
  · rw [L2.wipe_out hj, st.other j (fun h => hj (sub j h))]
theorem SO.wiped {K : PySem.W.Frag} {ap : Option Addr} {env : Env} {p : List D} {σ : L2.St} {H Hf : Hp} (s : SO K ap env p σ H Hf) (vs : List Nat) : SO K ap (wipeE env vs) p (wipe σ vs) H Hf := by
  refine ⟨s.fz, s.pur, fun i sl h => ?_⟩
  obtain ⟨h1, h2⟩ := wipeE_some h
  obtain ⟨v, h3, h4⟩ := s.slot i sl h1
  exact ⟨v, by rw [L2.wipe_out h2]; exact h3, h4⟩
theorem Nx.poke {K : PySem.W.Frag} {ap : Option Addr} {p : List D} {H1 Hf1 H Hf : Hp} {d : Addr} {o : HO} (x : Nx K ap p H1 Hf1 H Hf) (n : H1 d = none) (hf : Hf d = none) (na : ap ≠ some d) : Nx K ap p H1 Hf1 (upd H d o) Hf := by
  refine ⟨⟨fun b o' h e => ?_, x.ext.grow, x.ext.new, fun b o' e => ?_⟩, fun b o' e => ?_, x.pur.up (fun _ _ e => e) (fun a e => (x.pur a e).1) fun a e => ?_⟩
  · rw [upd_ne (ne_of_none e n)]; exact x.ext.same b o' h e
  · rw [upd_ne (ne_of_none e n)]; exact x.ext.there b o' e
  · rw [upd_ne (ne_of_none e hf)]; exact x.fz b o' e
  · exact upd_ne (by rintro rfl; exact na e)
def mYes : Ms Bool := fun _ p => some (true, p)
def goC (T : Tg) (env : Env) (mt : Ms Bool) (me : Ms D) : List D → List D → Option (List D × List D)
  | [], p => some ([], p)
  | d :: ds, p => (bindT T d env).bind fun env1 => (mt env1 p).bind fun r =>
    if r.1 = true then (me env1 r.2).bind fun y => (goC T env mt me ds y.2).map fun ys => (y.1 :: ys.1, ys.2) else goC T env mt me ds r.2
def mComp (T : Tg) (own : List Nat) (mi : Ms (List D)) (mt : Ms Bool) (me : Ms D) : Ms (List D) := fun env p => (mi env p).bind fun r =>
  if r.1.length ≤ sizeMax then goC T (wipeE env own) mt me r.1 r.2 else none
abbrev PTsB (X : Cx) (m : Ms Bool) (ifs : List Expr) : Prop := PTs X ifs (tT X.K m)
theorem pts_weak {X : Cx} {ifs : List Expr} {t t' : TT} (h : PTs X ifs t) (w : ∀ σ H Q, t' σ H Q → t σ H Q) : PTs X ifs t' := ⟨fun pins s σ H Q I q => h.run pins s σ H Q I (w σ H Q q)⟩
theorem ptsb_nil {X : Cx} : PTsB X mYes [] := pts_weak pts_nil fun σ H Q ⟨ap, Hf, env, p, b, p', s, q, k⟩ => by
  cases q
  exact k H Hf (Nx.refl s.fz s.pur)
theorem ptsb_one {X : Cx} {c : Expr} {m : Ms Bool} (h : PB X m c) : PTsB X m [c] := pts_one h
theorem lc_read {K : PySem.W.Frag} {T : Tg} {vs : List Nat} {mi : Ms (List D)} {mt : Ms Bool} {me : Ms D} {σ : L2.St} {H : Hp} {Q : VK} (sub : ∀ i ∈ T.slots, i ∈ vs) (h : tF K (mComp T vs mi mt me) σ H Q) :
    tLc (tI K mi false) (tG K T) (tT K mt) (tP K me) vs σ H Q := by
  obtain ⟨ap, Hf, env, p, ds, p', s, q, k⟩ := h
  unfold mComp at q
  cases hmi : mi env p with
  | none => rw [hmi] at q; cases q
  | some r =>
    obtain ⟨items, p1⟩ := r
    rw [hmi] at q
    simp only [Option.bind_some] at q
    split at q
    · rename_i hz
      refine ⟨ap, Hf, env, p, items, p1, s, hmi, fun J H1 Hf1 x1 itok => fun Dd nD => ?_⟩
      have naD : ap ≠ some Dd := x1.pur.ne nD
      refine ⟨fun i m H2 => ∃ Hf2 q acc dacc drest, m = items.length - i ∧ i ≤ items.length ∧ Nx K ap q H1 Hf1 H2 Hf2 ∧ H2 Dd = some (.lst acc) ∧ Hf2 Dd = none ∧ RpAll K Hf2 acc dacc ∧ acc.length ≤ i ∧
        goC T (wipeE env vs) mt me (items.drop i) q = some (drest, p') ∧ dacc ++ drest = ds, ⟨items.length, Hf1, p1, [], [], ds, by simp, Nat.zero_le _, Nx.laid x1.fz x1.pur nD, upd_same, fz_none x1.fz nD, .nil, Nat.le_refl _, by rw [List.drop_zero]; exact q, rfl⟩, ?_⟩
      rintro i m H2 ⟨Hf2, q2, acc, dacc, drest, rfl, hi, x2, hD, hfD, ra, hacc, hgo, hds⟩
      have rel : ItRel false ap H1 Hf1 H2 Hf2 := ⟨x2.fz, x2.ext.grow, fun _ b o n e => x2.ext.same b o n e⟩
      by_cases hlt : i < items.length
      · have hdrop : items.drop i = items[i] :: items.drop (i + 1) := List.drop_eq_getElem_cons hlt
        rw [hdrop, goC] at hgo
        obtain ⟨hgoJ, hy⟩ := (itok H2 Hf2 rel i).2 items[i] (List.getElem?_eq_getElem hlt)
        refine .inr ⟨hgoJ, fun H' => ∃ Hf2 q acc dacc drest, i + 1 ≤ items.length ∧ Nx K ap q H1 Hf1 H' Hf2 ∧ H' Dd = some (.lst acc) ∧ Hf2 Dd = none ∧ RpAll K Hf2 acc dacc ∧ acc.length ≤ i + 1 ∧
          goC T (wipeE env vs) mt me (items.drop (i + 1)) q = some (drest, p') ∧ dacc ++ drest = ds, fun H' ⟨Hf2, q, acc, dacc, drest, w⟩ => ⟨items.length - (i + 1), by omega, Hf2, q, acc, dacc, drest, rfl, w⟩, fun x H3 y => ?_⟩
        obtain ⟨Hf3, x3, rx⟩ := hy q2 x2.pur x H3 y
        have s3 : SO K ap (wipeE env vs) q2 (wipe σ vs) H3 Hf3 := (((s.ext x1).ext x2).ext x3).wiped vs
        cases hb : bindT T items[i] (wipeE env vs) with
        | none => rw [hb] at hgo; cases hgo
        | some env1 =>
          rw [hb] at hgo
          simp only [Option.bind_some] at hgo
          refine ⟨ap, Hf3, _, q2, _, env1, s3, rx, hb, fun σ2 s4 st se => ⟨wipe_back st sub, ?_⟩⟩
          cases hmt : mt env1 q2 with
          | none => rw [hmt] at hgo; cases hgo
          | some r2 =>
            obtain ⟨b, q3⟩ := r2
            rw [hmt] at hgo
            simp only [Option.bind_some] at hgo
            refine ⟨ap, Hf3, env1, q2, b, q3, s4, hmt, fun H4 Hf4 x4 => ?_⟩
            have x24 := (x2.trans x3).trans x4
            have x34 := x3.trans x4
            cases b with
            | false =>
              rw [if_neg Bool.false_ne_true] at hgo
              refine iteF ⟨Hf4, q3, acc, dacc, drest, hlt, x24, x34.ext.same _ _ naD hD, x34.ext.new _ _ hD hfD, ra.up x34.ext.grow, by omega, hgo, hds⟩
            | true =>
              rw [if_pos rfl] at hgo
              cases hme : me env1 q3 with
              | none => rw [hme] at hgo; cases hgo
              | some r3 =>
                obtain ⟨yd, q4⟩ := r3
                rw [hme] at hgo
                simp only [Option.bind_some] at hgo
                cases hgr : goC T (wipeE env vs) mt me (items.drop (i + 1)) q4 with
                | none => rw [hgr] at hgo; cases hgo
                | some r4 =>
                  obtain ⟨ys, q5⟩ := r4
                  rw [hgr] at hgo
                  cases hgo
                  refine iteT ⟨ap, Hf4, env1, q3, yd, q4, s4.ext x4, hme, fun H5 Hf5 v x5 rv => ?_⟩
                  have x35 := x34.trans x5
                  have hD5 := x35.ext.same _ _ naD hD
                  have hf5 := x35.ext.new _ _ hD hfD
                  refine ⟨acc, hD5, Nat.lt_of_lt_of_le (Nat.lt_of_le_of_lt hacc hlt) (size_ok hz), Hf5, q4, _, dacc ++ [yd], ys, hlt, (x24.trans x5).poke nD hf5 naD, upd_same, hf5, (ra.up x35.ext.grow).append (.cons rv .nil), ?_, hgr, by rw [List.append_assoc]; exact hds⟩
                  rw [List.length_append, List.length_singleton]; omega
      · have e : i = items.length := by omega
        subst e
        rw [List.drop_length, goC] at hgo
        cases hgo
        rw [List.append_nil] at hds
        subst hds
        exact .inl ⟨(itok H2 Hf2 rel _).1 (Nat.le_refl _), k H2 Hf2 Dd acc (x1.trans x2) (h_new x1 nD) hD hfD ra⟩
    · cases q
section
variable {X : Cx} {elt tg iter : Expr} {ifs : List Expr} {scope : Scope} {own : List (Str × Nat)} {pos : Pos} {T : Tg} {mi : Ms (List D)} {mt : Ms Bool} {me : Ms D}
theorem pf_comp (hc : X.calm = true) (hN : X.N.Nodup) (hi : PIt X mi false tg iter) (ok : BlkOk X.N X.env.scope scope own)
    (hg : ∀ (s : Shared) (H : Hp) (C : Addr) (cl : List (Str × Addr)) (fp : List Addr), PTg (X.blk s H scope (compEnvC scope cl C X.env) fp) T tg) (ht : ∀ (s : Shared) (H : Hp) (C : Addr) (cl : List (Str × Addr)) (fp : List Addr), PTsB (X.blk s H scope (compEnvC scope cl C X.env) fp) mt ifs)
    (he : ∀ (s : Shared) (H : Hp) (C : Addr) (cl : List (Str × Addr)) (fp : List Addr), PP (X.blk s H scope (compEnvC scope cl C X.env) fp) me elt) (sub : ∀ i ∈ T.slots, i ∈ own.map (·.2)) (hs : ∀ x, foldedSetIterable iter X.env x = pure x) :
    PF X (mComp T (own.map (·.2)) mi mt me) (.ListComp elt [⟨tg, iter, ifs, 0⟩] scope pos) :=
  pe_weak (pe_lc hc hN hi ok hg ht he hs) fun σ H Q h => lc_read sub h
end
end PV

set_option Elab.async false
set_option linter.all false
set_option maxRecDepth 100000
set_option maxHeartbeats 2000000
namespace PV
open PySem PySem.Spec L2
open PyProof.Rows hiding St

/-! ### 18. statements -/
structure StOk (K : PySem.W.Frag) (H0 Hf0 : Hp) (ap : Option Addr) (env : Env) (p : List D) (σ : L2.St) (H Hf : Hp) : Prop where
  so : SO K ap env p σ H Hf
  nx : Nx K ap p H0 Hf0 H Hf
  fresh : ∀ (i : Nat) (ds : List D) (a : Addr), (env : List (Option Sl))[i]? = some (some (.opn ds)) → (σ : List (Option V))[i]? = some (some (.ref a)) → H0 a = none
  dist : ∀ (i j : Nat) (ds es : List D) (a : Addr), i ≠ j → (env : List (Option Sl))[i]? = some (some (.opn ds)) → (env : List (Option Sl))[j]? = some (some (.opn es)) → (σ : List (Option V))[i]? = some (some (.ref a)) → (σ : List (Option V))[j]? ≠ some (some (.ref a))
inductive Out where
  | nx (e : Env) | rt (s : Sl) | bk (e : Env) | ct (e : Env)
abbrev Mt := Env → List D → Option (Out × List D)
def Post (K : PySem.W.Frag) (H0 Hf0 : Hp) (ap : Option Addr) (Dn : Ends) (p : List D) : Out → Prop
  | .nx env => ∀ σ H Hf, StOk K H0 Hf0 ap env p σ H Hf → Dn.nx σ H
  | .rt s => ∀ H Hf v, Nx K ap p H0 Hf0 H Hf → SlNew K H0 H Hf s v → Dn.rt v H
  | .bk env => ∀ σ H Hf, StOk K H0 Hf0 ap env p σ H Hf → Dn.bk σ H
  | .ct env => ∀ σ H Hf, StOk K H0 Hf0 ap env p σ H Hf → Dn.ct σ H
def tS (K : PySem.W.Frag) (m : Mt) : TS := fun Dn σ H => ∃ H0 Hf0 ap Hf env p o p', StOk K H0 Hf0 ap env p σ H Hf ∧ m env p = some (o, p') ∧ Post K H0 Hf0 ap Dn p' o
abbrev PSt (X : Cx) (m : Mt) (st : Stmt) : Prop := PS X st (tS X.K m)
abbrev PBk (X : Cx) (m : Mt) (sts : List Stmt) : Prop := PSs X sts (tS X.K m)
theorem ps_weak {X : Cx} {st : Stmt} {t t' : TS} (h : PS X st t) (w : ∀ D σ H, σ.length = X.N.length → t' D σ H → t D σ H) : PS X st t' := ⟨fun pins s σ H D I q => h.run pins s σ H D I (w D σ H I.len q)⟩
theorem pss_weak {X : Cx} {st : List Stmt} {t t' : TS} (h : PSs X st t) (w : ∀ D σ H, σ.length = X.N.length → t' D σ H → t D σ H) : PSs X st t' := ⟨fun pins s σ H D I q => h.run pins s σ H D I (w D σ H I.len q)⟩
section
variable {K : PySem.W.Frag} {H0 Hf0 H Hf H' Hf' : Hp} {ap : Option Addr} {env env' : Env} {p p' : List D} {σ σ' : L2.St}
theorem StOk.ext (s : StOk K H0 Hf0 ap env p σ H Hf) (x : Nx K ap p' H Hf H' Hf') : StOk K H0 Hf0 ap env p' σ H' Hf' := ⟨s.so.ext x, s.nx.trans x, s.fresh, s.dist⟩
theorem StOk.stored {sl : List Nat} (s : StOk K H0 Hf0 ap env p σ H Hf) (so : SO K ap env' p σ' H Hf) (st : Stored sl σ σ') (se : StoredE sl env env') : StOk K H0 Hf0 ap env' p σ' H Hf := by
  have back : ∀ (i : Nat) (ds : List D), (env' : List (Option Sl))[i]? = some (some (.opn ds)) → i ∉ sl := fun i ds h hi => by
    obtain ⟨d, e⟩ := se.at_ i _ hi h
    cases e
  refine ⟨so, s.nx, fun i ds a h1 h2 => ?_, fun i j ds es a hij h1 h2 h3 h4 => ?_⟩
  · have hi := back i ds h1
    rw [se.other i hi] at h1
    rw [st.other i hi] at h2
    exact s.fresh i ds a h1 h2
  · have hi := back i ds h1
    have hj := back j es h2
    rw [se.other i hi] at h1
    rw [se.other j hj] at h2
    rw [st.other i hi] at h3
    rw [st.other j hj] at h4
    exact s.dist i j ds es a hij h1 h2 h3 h4
end
section
variable {X : Cx} {e a b : Expr} {pos : Pos} {K : PySem.W.Frag}
/-- a slot takes a new value -/
theorem StOk.put {H0 Hf0 H Hf H' Hf' : Hp} {ap : Option Addr} {env : Env} {p p' : List D} {σ : L2.St} {i : Nat} {s : Sl} {v : V} (S : StOk K H0 Hf0 ap env p σ H Hf) (x : Nx K ap p' H Hf H' Hf') (hi : i < σ.length) (n : SlNew K H H' Hf' s v) :
    StOk K H0 Hf0 ap (List.set env i (some s)) p' (σ.set i (some v)) H' Hf' := by
  have S' := S.ext x
  have here : ∀ (t : Sl), (List.set env i (some s) : List (Option Sl))[i]? = some (some t) → t = s := fun t h => by
    by_cases hl : i < env.length
    · rw [List.getElem?_set_self hl] at h; cases h; rfl
    · rw [List.getElem?_eq_none (by rw [List.length_set]; omega)] at h; cases h
  -- an old open list is another one
  have old : ∀ (j : Nat) (ds es : List D) (a : Addr), s = .opn ds → v = .ref a → (env : List (Option Sl))[j]? = some (some (.opn es)) → (σ : List (Option V))[j]? = some (some (.ref a)) → False := fun j ds es a e1 e2 h1 h2 => by
    subst e1 e2
    obtain ⟨a', vs, e, n1, _⟩ := n
    cases e
    obtain ⟨v, q1, a2, vs2, q2, q3, _⟩ := S.so.slot j _ h1
    rw [h2] at q1; cases q1; cases q2
    rw [n1] at q3; cases q3
  refine ⟨⟨S'.so.fz, S'.so.pur, fun j t h => ?_⟩, S'.nx, fun j ds a h1 h2 => ?_, fun j l ds es a hjl h1 h2 h3 h4 => ?_⟩
  · by_cases hj : i = j
    · subst hj
      have e := here t h
      subst e
      exact ⟨v, List.getElem?_set_self hi, n.ok S.so.pur x⟩
    · rw [List.getElem?_set_ne hj] at h
      obtain ⟨w, q1, q2⟩ := S'.so.slot j t h
      exact ⟨w, by rw [List.getElem?_set_ne hj]; exact q1, q2⟩
  · by_cases hj : i = j
    · subst hj
      have e := here _ h1
      subst e
      rw [List.getElem?_set_self hi] at h2
      cases h2
      obtain ⟨a', vs, e, n1, _⟩ := n
      cases e
      exact h_new S.nx n1
    · rw [List.getElem?_set_ne hj] at h1 h2
      exact S.fresh j ds a h1 h2
  · by_cases hj : i = j
    · subst hj
      have e := here _ h1
      rw [List.getElem?_set_self hi] at h3
      cases h3
      rw [List.getElem?_set_ne hjl] at h2 h4
      exact old l ds es a e.symm rfl h2 h4
    · rw [List.getElem?_set_ne hj] at h1 h3
      by_cases hl : i = l
      · subst hl
        have e := here _ h2
        rw [List.getElem?_set_self hi] at h4
        cases h4
        exact old j es ds a e.symm rfl h1 h3
      · rw [List.getElem?_set_ne hl] at h2 h4
        exact S.dist j l ds es a hjl h1 h2 h3 h4

/-! blocks -/
def mDone : Mt := fun env p => some (.nx env, p)
def mThen (m1 m2 : Mt) : Mt := fun env p => match m1 env p with
  | some (.nx e, p1) => m2 e p1
  | r => r
theorem pbk_nil : PBk X mDone [] := pss_weak pss_nil fun Dn σ H _ ⟨H0, Hf0, ap, Hf, env, p, o, p', s, q, k⟩ => by
  cases q
  exact k σ H Hf s
theorem pbk_cons {st : Stmt} {sts : List Stmt} {m1 m2 : Mt} (h1 : PSt X m1 st) (h2 : PBk X m2 sts) : PBk X (mThen m1 m2) (st :: sts) := pss_weak (pss_cons h1 h2) fun Dn σ H _ ⟨H0, Hf0, ap, Hf, env, p, o, p', s, q, k⟩ => by
  unfold mThen at q
  split at q
  · rename_i e p1 he
    refine ⟨H0, Hf0, ap, Hf, env, p, _, _, s, he, fun σ1 H1 Hf1 s1 => ?_⟩
    exact ⟨H0, Hf0, ap, Hf1, e, p1, o, p', s1, q, k⟩
  · rename_i hne
    refine ⟨H0, Hf0, ap, Hf, env, p, o, p', s, q, ?_⟩
    cases o with
    | nx e => exact absurd q (hne e p')
    | rt d => exact k
    | bk e => exact k
    | ct e => exact k
def mPass : Mt := mDone
theorem pst_pass : PSt X mPass (.Pass pos) := ps_weak ps_pass fun Dn σ H _ ⟨H0, Hf0, ap, Hf, env, p, o, p', s, q, k⟩ => by
  cases q
  exact k σ H Hf s
def mBrk : Mt := fun env p => some (.bk env, p)
def mCnt : Mt := fun env p => some (.ct env, p)
theorem pst_break : PSt X mBrk (.Break pos) := ps_weak ps_break fun Dn σ H _ ⟨H0, Hf0, ap, Hf, env, p, o, p', s, q, k⟩ => by
  cases q
  exact k σ H Hf s
theorem pst_cont : PSt X mCnt (.Continue pos) := ps_weak ps_continue fun Dn σ H _ ⟨H0, Hf0, ap, Hf, env, p, o, p', s, q, k⟩ => by
  cases q
  exact k σ H Hf s
def mBad : Mt := fun _ _ => none
theorem pst_bad {st : Stmt} : PSt X mBad st := ps_weak ps_never fun Dn σ H _ ⟨H0, Hf0, ap, Hf, env, p, o, p', s, q, k⟩ => by cases q
/-! x = e -/
def mSet (i : Nat) (m : Ms Sl) : Mt := fun env p => (m env p).map fun r => (.nx (List.set env i (some r.1)), r.2)
theorem set_read {i : Nat} {m : Ms Sl} {Dn : Ends} {σ : L2.St} {H : Hp} (hi : i < σ.length) (h : tS K (mSet i m) Dn σ H) : tAsg (tX K m) (gName i) Dn σ H := by
  obtain ⟨H0, Hf0, ap, Hf, env, p, o, p', s, q, k⟩ := h
  unfold mSet at q
  cases hm : m env p with
  | none => rw [hm] at q; cases q
  | some r =>
    obtain ⟨sl, p1⟩ := r
    rw [hm] at q; cases q
    exact ⟨ap, Hf, env, p, sl, _, s.so, hm, fun H' Hf' v x n => k _ H' Hf' (s.put x hi n)⟩
theorem pst_set {i : Nat} {x : Str} {pos' : Pos} {m : Ms Sl} (hN : X.N.Nodup) (hi : X.N[i]? = some x) (hx : Loc X.env.scope x) (he : PX X m e) (hs : swapsWith e (some (.Name x pos')) pos.line X.env = pure false) (hf : X.fn x = true ∨ X.env.scope.names.lookup x = some .local) :
    PSt X (mSet i m) (.Assign [.Name x pos'] e pos) := ps_weak (ps_set hN hi hx he hs hf) fun Dn σ H hl h => set_read (by rw [hl]; exact (List.getElem?_eq_some_iff.mp hi).1) h
/-! a, b = e1, e2 -/
def mSet2 (i j : Nat) (ma mb : Ms Sl) : Mt := fun env p => (ma env p).bind fun r => (mb env r.2).map fun s => (.nx (List.set (List.set env i (some r.1)) j (some s.1)), s.2)
/-- two slots take new values, the second made behind the first -/
theorem StOk.put2 {H0 Hf0 H Hf H1 Hf1 H2 Hf2 : Hp} {ap : Option Addr} {env : Env} {p p1 p2 : List D} {σ : L2.St} {i j : Nat} {s t : Sl} {v u : V} (S : StOk K H0 Hf0 ap env p σ H Hf) (x1 : Nx K ap p1 H Hf H1 Hf1) (x2 : Nx K ap p2 H1 Hf1 H2 Hf2)
    (hi : i < σ.length) (hj : j < σ.length) (n1 : SlNew K H H1 Hf1 s v) (n2 : SlNew K H1 H2 Hf2 t u) : StOk K H0 Hf0 ap (List.set (List.set env i (some s)) j (some t)) p2 ((σ.set i (some v)).set j (some u)) H2 Hf2 :=
  (S.put x1 hi n1).put x2 (by rw [List.length_set]; exact hj) n2
theorem pst_par {i j : Nat} {x y : Str} {px py pt : Pos} {kt k2 : Nat} {pt2 : Pos} {ma mb : Ms Sl} (hc : X.calm = true) (hN : X.N.Nodup) (hi : X.N[i]? = some x) (hj : X.N[j]? = some y) (hij : i ≠ j)
    (hx : X.env.scope.names.lookup x = some .local) (hy : X.env.scope.names.lookup y = some .local) (ha : PX X ma a) (hb : PX X mb b) (hs : noStars [a, b] = true)
    (hw : swappedStores [.Tuple [.Name x px, .Name y py] kt pt] (.Tuple [a, b] k2 pt2) X.env = pure (some [x, y])) : PSt X (mSet2 i j ma mb) (.Assign [.Tuple [.Name x px, .Name y py] kt pt] (.Tuple [a, b] k2 pt2) pos) :=
  ps_weak (ps_par hc hN hi hj hij hx hy (pa_cons ha (pa_cons hb pa_nil (no_stars1 (no_stars2 hs) _)) (no_stars1 hs _)) hw rfl) fun Dn σ H hl ⟨H0, Hf0, ap, Hf, env, p, o, p', s, q, k⟩ => by
    unfold mSet2 at q
    cases hm : ma env p with
    | none => rw [hm] at q; cases q
    | some r =>
      obtain ⟨s1, p1⟩ := r
      cases hm2 : mb env p1 with
      | none => simp [hm, hm2] at q
      | some r2 =>
        obtain ⟨s2, p2⟩ := r2
        simp [hm, hm2] at q
        obtain ⟨rfl, rfl⟩ := q
        refine ⟨ap, Hf, env, p, s1, p1, s.so, hm, fun H1 Hf1 v x1 n1 => ?_⟩
        refine ⟨ap, Hf1, env, p1, s2, p2, s.so.ext x1, hm2, fun H2 Hf2 u x2 n2 => ?_⟩
        refine ⟨v, u, rfl, k _ H2 Hf2 ?_⟩
        exact s.put2 x1 x2 (by rw [hl]; exact (List.getElem?_eq_some_iff.mp hi).1) (by rw [hl]; exact (List.getElem?_eq_some_iff.mp hj).1) n1 n2
/-! target = e, the target names and tuples -/
def mAsg (T : Tg) (m : Ms D) : Mt := fun env p => (m env p).bind fun r => (bindT T r.1 env).map fun e => (.nx e, r.2)
theorem pst_asg {tg : Expr} {T : Tg} {m : Ms D} (he : PP X m e) (hg : PTg X T tg) (hs : swapsWithSole [tg] e pos.line X.env = pure false) (hw : swappedStores [tg] e X.env = pure none) (h1 : tgShape tg = true) : PSt X (mAsg T m) (.Assign [tg] e pos) :=
  ps_weak (ps_asg he hg hs hw (by rw [assign_each h1]; rfl)) fun Dn σ H hl ⟨H0, Hf0, ap, Hf, env, p, o, p', s, q, k⟩ => by
    unfold mAsg at q
    cases hm : m env p with
    | none => rw [hm] at q; cases q
    | some r =>
      obtain ⟨d, p1⟩ := r
      cases hb : bindT T d env with
      | none => simp [hm, hb] at q
      | some e1 =>
        simp [hm, hb] at q
        obtain ⟨rfl, rfl⟩ := q
        refine ⟨ap, Hf, env, p, d, p1, s.so, hm, fun H1 Hf1 v x r => ?_⟩
        exact ⟨ap, Hf1, env, p1, d, e1, s.so.ext x, r, hb, fun σ' so st se => k σ' H1 Hf1 ((s.ext x).stored so st se)⟩
/-! return -/
def mRet (m : Ms Sl) : Mt := fun env p => (m env p).map fun r => (.rt r.1, r.2)
theorem pst_ret {m : Ms Sl} (he : PX X m e) : PSt X (mRet m) (.Return (some e) pos) := ps_weak (ps_ret he) fun Dn σ H hl ⟨H0, Hf0, ap, Hf, env, p, o, p', s, q, k⟩ => by
  unfold mRet at q
  cases hm : m env p with
  | none => rw [hm] at q; cases q
  | some r =>
    rw [hm] at q; cases q
    exact ⟨ap, Hf, env, p, _, _, s.so, hm, fun H' Hf' v x r => k H' Hf' v (s.nx.trans x) (r.weak s.nx)⟩
def mRetN : Mt := fun _ p => some (.rt (.fro .none), p)
theorem pst_retN : PSt X mRetN (.Return none pos) := ps_weak ps_retN fun Dn σ H hl ⟨H0, Hf0, ap, Hf, env, p, o, p', s, q, k⟩ => by
  cases q
  exact k H Hf .non s.nx .non
/-- return x, x a name that may hold an open list -/
def mRetV (i : Nat) : Mt := fun env p => match (env : List (Option Sl))[i]? with
  | some (some (.opn ds)) => some (.rt (.opn ds), p)
  | some (some (.fro d)) => some (.rt (.fro d), p)
  | _ => none
theorem pst_retV {i : Nat} {x : Str} {p1 : Pos} (hN : X.N[i]? = some x) (hv : Vis X.env.scope x) (hd : (x == ("__debug__" : Str)) = false) (hc : (x == ("__classdict__" : Str)) = false) : PSt X (mRetV i) (.Return (some (.Name x p1)) pos) :=
  ps_weak (ps_ret (pe_var hN hv hd hc)) fun Dn σ H hl ⟨H0, Hf0, ap, Hf, env, p, o, p', s, q, k⟩ => by
    unfold mRetV at q
    split at q
    · rename_i ds he
      cases q
      obtain ⟨v, h1, a, vs, rfl, h2, h3, h4, h5⟩ := s.so.slot i _ he
      exact ⟨_, h1, k H Hf _ s.nx ⟨a, vs, rfl, s.fresh i ds a he h1, h2, h3, h5⟩⟩
    · rename_i d he
      cases q
      obtain ⟨v, h1, h2⟩ := s.so.slot i _ he
      exact ⟨v, h1, k H Hf v s.nx h2⟩
    · cases q
/-- an open list is frozen (no step of the program) -/
def mFrz (i : Nat) : Mt := fun env p => match (env : List (Option Sl))[i]? with
  | some (some (.opn ds)) => some (.nx (List.set env i (some (.fro (.list ds)))), p)
  | some (some (.fro d)) => some (.nx env, p)
  | _ => none
theorem frz_ok {H0 Hf0 H Hf : Hp} {ap : Option Addr} {env : Env} {p : List D} {σ : L2.St} {i : Nat} {ds : List D} (S : StOk K H0 Hf0 ap env p σ H Hf) (h : (env : List (Option Sl))[i]? = some (some (.opn ds))) :
    ∃ Hf', StOk K H0 Hf0 ap (List.set env i (some (.fro (.list ds)))) p σ H Hf' ∧ Fz Hf Hf' := by
  obtain ⟨v, h1, a, vs, rfl, h2, h3, h4, h5⟩ := S.so.slot i _ h
  have hnew := S.fresh i ds a h h1
  have x := S.nx.freeze hnew h2 h3 h4
  have g : Fz Hf (upd Hf a (.lst vs)) := fun b o z => by rw [upd_ne (ne_of_none z h3)]; exact z
  have hlt : i < env.length := (List.getElem?_eq_some_iff.mp h).1
  refine ⟨upd Hf a (.lst vs), ⟨⟨x.fz, x.pur, fun j t ht => ?_⟩, x, fun j es b q1 q2 => ?_, fun j l es fs b hjl q1 q2 q3 q4 => ?_⟩, g⟩
  · by_cases hj : i = j
    · subst hj
      rw [List.getElem?_set_self hlt] at ht
      cases ht
      exact ⟨_, h1, .lst upd_same (h5.up g)⟩
    · rw [List.getElem?_set_ne hj] at ht
      obtain ⟨w, r1, r2⟩ := S.so.slot j t ht
      refine ⟨w, r1, ?_⟩
      cases t with
      | fro d => exact Rp.up g r2
      | pur => exact r2
      | opn es =>
        obtain ⟨b, ws, e1, e2, e3, e4, e5⟩ := r2
        subst e1
        refine ⟨b, ws, rfl, e2, ?_, e4, e5.up g⟩
        rw [upd_ne]
        · exact e3
        · rintro rfl
          exact S.dist i j ds es b hj h ht h1 r1
  · by_cases hj : i = j
    · subst hj; rw [List.getElem?_set_self hlt] at q1; cases q1
    · rw [List.getElem?_set_ne hj] at q1; exact S.fresh j es b q1 q2
  · have hj : i ≠ j := by rintro rfl; rw [List.getElem?_set_self hlt] at q1; cases q1
    have hl : i ≠ l := by rintro rfl; rw [List.getElem?_set_self hlt] at q2; cases q2
    rw [List.getElem?_set_ne hj] at q1
    rw [List.getElem?_set_ne hl] at q2
    exact S.dist j l es fs b hjl q1 q2 q3 q4
theorem frz_read {i : Nat} {m : Mt} {Dn : Ends} {σ : L2.St} {H : Hp} (h : tS K (mThen (mFrz i) m) Dn σ H) : tS K m Dn σ H := by
  obtain ⟨H0, Hf0, ap, Hf, env, p, o, p', s, q, k⟩ := h
  unfold mThen at q
  cases hm : mFrz i env p with
  | none => rw [hm] at q; cases q
  | some r =>
    obtain ⟨out, p1⟩ := r
    rw [hm] at q
    unfold mFrz at hm
    split at hm
    · rename_i ds hd
      cases hm
      obtain ⟨Hf', s', _⟩ := frz_ok s hd
      exact ⟨H0, Hf0, ap, Hf', _, _, o, p', s', q, k⟩
    · cases hm
      exact ⟨H0, Hf0, ap, Hf, _, _, o, p', s, q, k⟩
    · cases hm
theorem pst_frz {i : Nat} {m : Mt} {st : Stmt} (h : PSt X m st) : PSt X (mThen (mFrz i) m) st := ps_weak h fun _ _ _ _ => frz_read
/-! if -/
def mIf (c : Ms Bool) (a b : Mt) : Mt := fun env p => match c env p with
  | some (true, p') => a env p'
  | some (false, p') => b env p'
  | none => none
theorem pst_if {c : Expr} {as bs : List Stmt} {mc : Ms Bool} {ma mb : Mt} (hc : PB X mc c) (ha : PBk X ma as) (hb : PBk X mb bs) : PSt X (mIf mc ma mb) (.If c as bs pos) := ps_weak (ps_if hc ha hb) fun Dn σ H hl ⟨H0, Hf0, ap, Hf, env, p, o, p', s, q, k⟩ => by
  unfold mIf at q
  split at q
  · rename_i p1 he
    exact ⟨ap, Hf, env, p, _, _, s.so, he, fun H' Hf' x => iteT ⟨H0, Hf0, ap, Hf', env, p1, o, p', s.ext x, q, k⟩⟩
  · rename_i p1 he
    exact ⟨ap, Hf, env, p, _, _, s.so, he, fun H' Hf' x => iteF ⟨H0, Hf0, ap, Hf', env, p1, o, p', s.ext x, q, k⟩⟩
  · cases q
/-! while -/
def goW (c : Ms Bool) (b : Mt) : Nat → Mt
  | 0 => fun _ _ => none
  | n + 1 => fun env p => match c env p with
    | some (true, p1) => (match b env p1 with
      | some (.nx e, p2) => goW c b n e p2
      | some (.ct e, p2) => goW c b n e p2
      | some (.bk e, p2) => some (.nx e, p2)
      | some (.rt d, p2) => some (.rt d, p2)
      | none => none)
    | some (false, p1) => some (.nx env, p1)
    | none => none
theorem pst_while {c : Expr} {body : List Stmt} {mc : Ms Bool} {mb : Mt} (n : Nat) (hp : PassesOwn (model X.prog X.w) X.A X.env X.xe) (hc : PB X mc c) (hb : PBk X mb body) : PSt X (goW mc mb n) (.While c body [] pos) :=
  ps_weak (ps_while hp hc hb) fun Dn σ H hl ⟨H0, Hf0, ap, Hf, env, p, o, p', s, q, k⟩ => by
    refine ⟨fun m σ H => ∃ Hf env q, StOk X.K H0 Hf0 ap env q σ H Hf ∧ goW mc mb m env q = some (o, p'), ⟨n, Hf, env, p, s, q⟩, ?_⟩
    rintro m σ1 H1 ⟨Hf1, env1, q1, s1, g1⟩
    cases m with
    | zero => cases g1
    | succ m =>
      rw [goW] at g1
      dsimp only at g1
      split at g1
      · rename_i p1 he
        refine ⟨ap, Hf1, env1, q1, _, _, s1.so, he, fun H2 Hf2 x2 => iteT ⟨fun σ H => ∃ Hf env q, StOk X.K H0 Hf0 ap env q σ H Hf ∧ goW mc mb m env q = some (o, p'), fun σ' H' w => ⟨m, Nat.lt_succ_self m, w⟩, ?_⟩⟩
        split at g1
        · rename_i e p2 hbd
          exact ⟨H0, Hf0, ap, Hf2, env1, p1, _, _, s1.ext x2, hbd, fun σ3 H3 Hf3 s3 => ⟨Hf3, e, p2, s3, g1⟩⟩
        · rename_i e p2 hbd
          exact ⟨H0, Hf0, ap, Hf2, env1, p1, _, _, s1.ext x2, hbd, fun σ3 H3 Hf3 s3 => ⟨Hf3, e, p2, s3, g1⟩⟩
        · rename_i e p2 hbd
          cases g1
          exact ⟨H0, Hf0, ap, Hf2, env1, p1, _, _, s1.ext x2, hbd, fun σ3 H3 Hf3 s3 => k σ3 H3 Hf3 s3⟩
        · rename_i d p2 hbd
          cases g1
          exact ⟨H0, Hf0, ap, Hf2, env1, p1, _, _, s1.ext x2, hbd, k⟩
        · cases g1
      · rename_i p1 he
        cases g1
        exact ⟨ap, Hf1, env1, q1, _, _, s1.so, he, fun H2 Hf2 x2 => iteF (k _ H2 Hf2 (s1.ext x2))⟩
      · cases g1
/-! for -/
def goF (T : Tg) (b : Mt) : List D → Mt
  | [] => fun env p => some (.nx env, p)
  | d :: ds => fun env p => match bindT T d env with
    | some env1 => (match b env1 p with
      | some (.nx e, p2) => goF T b ds e p2
      | some (.ct e, p2) => goF T b ds e p2
      | some (.bk e, p2) => some (.nx e, p2)
      | some (.rt d, p2) => some (.rt d, p2)
      | none => none)
    | none => none
def mFor (T : Tg) (mi : Ms (List D)) (b : Mt) : Mt := fun env p => (mi env p).bind fun r => goF T b r.1 env r.2
theorem Nx.base1 {ap : Option Addr} {p : List D} {H0 Hf0 H1 Hf1 : Hp} (x : Nx K ap p H0 Hf0 H1 Hf1) : Nx K ap p H0 Hf1 H1 Hf1 := ⟨⟨x.ext.same, fun _ _ e => e, fun _ _ _ e => e, x.ext.there⟩, x.fz, x.pur⟩
theorem Nx.base2 {ap : Option Addr} {p q : List D} {H0 Hf0 H1 Hf1 H Hf : Hp} (x : Nx K ap p H0 Hf0 H1 Hf1) (y : Nx K ap q H0 Hf1 H Hf) : Nx K ap q H0 Hf0 H Hf :=
  ⟨⟨y.ext.same, fun b o e => y.ext.grow b o (x.ext.grow b o e), fun b o e n => y.ext.new b o e (x.ext.new b o e n), y.ext.there⟩, y.fz, y.pur⟩
theorem StOk.base1 {H0 Hf0 H Hf : Hp} {ap : Option Addr} {env : Env} {p : List D} {σ : L2.St} (S : StOk K H0 Hf0 ap env p σ H Hf) : StOk K H0 Hf ap env p σ H Hf := ⟨S.so, S.nx.base1, S.fresh, S.dist⟩
theorem StOk.base2 {H0 Hf0 H1 Hf1 H Hf : Hp} {ap : Option Addr} {env : Env} {p p1 : List D} {σ : L2.St} (x : Nx K ap p1 H0 Hf0 H1 Hf1) (S : StOk K H0 Hf1 ap env p σ H Hf) : StOk K H0 Hf0 ap env p σ H Hf := ⟨S.so, x.base2 S.nx, S.fresh, S.dist⟩
theorem pst_for {tg iter : Expr} {body : List Stmt} {T : Tg} {mi : Ms (List D)} {mb : Mt} (hp : PassesOwn (model X.prog X.w) X.A X.env X.xe) (hc : X.calm = true) (hi : PIt X mi true tg iter) (hg : PTg X T tg) (hb : PBk X mb body)
    (hs : ∀ x, foldedSetIterable iter X.env x = pure x) : PSt X (mFor T mi mb) (.For tg iter body [] pos) :=
  ps_weak (ps_for hp hc hi hg hb hs) fun Dn σ H hl ⟨H0, Hf0, ap, Hf, env, p, o, p', s, q, k⟩ => by
    unfold mFor at q
    cases hmi : mi env p with
    | none => rw [hmi] at q; cases q
    | some r =>
      obtain ⟨items, p1⟩ := r
      rw [hmi] at q
      simp only [Option.bind_some] at q
      refine ⟨ap, Hf, env, p, items, p1, s.so, hmi, fun J H1 Hf1 x1 itok => ?_⟩
      have S1 := s.ext x1
      have base := S1.nx
      refine ⟨fun i m σ H => m = items.length - i ∧ i ≤ items.length ∧ ∃ Hf env q, StOk X.K H0 Hf1 ap env q σ H Hf ∧ goF T mb (items.drop i) env q = some (o, p'), ⟨items.length, by simp, Nat.zero_le _, Hf1, env, p1, S1.base1, by rw [List.drop_zero]; exact q⟩, ?_⟩
      rintro i m σ2 H2 ⟨rfl, hle, Hf2, env2, q2, S2, hgo⟩
      have rel : ItRel true ap H1 Hf1 H2 Hf2 := ⟨S2.nx.fz, S2.nx.ext.grow, fun z => by cases z⟩
      by_cases hlt : i < items.length
      · have hdrop : items.drop i = items[i] :: items.drop (i + 1) := List.drop_eq_getElem_cons hlt
        rw [hdrop, goF] at hgo
        dsimp only at hgo
        obtain ⟨hgoJ, hy⟩ := (itok H2 Hf2 rel i).2 items[i] (List.getElem?_eq_getElem hlt)
        refine .inr ⟨hgoJ, fun σ H => i + 1 ≤ items.length ∧ ∃ Hf env q, StOk X.K H0 Hf1 ap env q σ H Hf ∧ goF T mb (items.drop (i + 1)) env q = some (o, p'), fun σ' H' w => ⟨items.length - (i + 1), by omega, rfl, w⟩, fun x H3 y => ?_⟩
        obtain ⟨Hf3, x3, rx⟩ := hy q2 S2.so.pur x H3 y
        have S3 := S2.ext x3
        split at hgo
        · rename_i env3 hbt
          refine ⟨ap, Hf3, env2, q2, _, env3, S3.so, rx, hbt, fun σ4 so4 st4 se4 => ?_⟩
          have S4 := S3.stored so4 st4 se4
          split at hgo
          · rename_i e p5 hbd
            exact ⟨H0, Hf1, ap, Hf3, env3, q2, _, _, S4, hbd, fun σ5 H5 Hf5 S5 => ⟨hlt, Hf5, e, p5, S5, hgo⟩⟩
          · rename_i e p5 hbd
            exact ⟨H0, Hf1, ap, Hf3, env3, q2, _, _, S4, hbd, fun σ5 H5 Hf5 S5 => ⟨hlt, Hf5, e, p5, S5, hgo⟩⟩
          · rename_i e p5 hbd
            cases hgo
            exact ⟨H0, Hf1, ap, Hf3, env3, q2, _, _, S4, hbd, fun σ5 H5 Hf5 S5 => k σ5 H5 Hf5 (.base2 base S5)⟩
          · rename_i d p5 hbd
            cases hgo
            exact ⟨H0, Hf1, ap, Hf3, env3, q2, _, _, S4, hbd, fun H5 Hf5 v x5 r5 => k H5 Hf5 v (base.base2 x5) r5⟩
          · cases hgo
        · cases hgo
      · have e : i = items.length := by omega
        subst e
        rw [List.drop_length, goF] at hgo
        cases hgo
        exact .inl ⟨(itok H2 Hf2 rel _).1 (Nat.le_refl _), k σ2 H2 Hf2 (.base2 base S2)⟩
end
end PV

set_option Elab.async false
set_option linter.all false
set_option maxRecDepth 100000
set_option maxHeartbeats 2000000
namespace PV
open PySem PySem.Spec L2
open PyProof.Rows hiding St

/-! ### 19. lists changed in place, the purse -/
section
variable {X : Cx} {e e1 e2 a b : Expr} {pos : Pos} {K : PySem.W.Frag}
theorem StOk.poke {H0 Hf0 H Hf : Hp} {ap : Option Addr} {env : Env} {p : List D} {σ : L2.St} {i : Nat} {ds es : List D} {c : Addr} {ws : List V} (S : StOk K H0 Hf0 ap env p σ H Hf) (h : (env : List (Option Sl))[i]? = some (some (.opn ds)))
    (hv : (σ : List (Option V))[i]? = some (some (.ref c))) (hf : Hf c = none) (na : ap ≠ some c) (r : RpAll K Hf ws es) : StOk K H0 Hf0 ap (List.set env i (some (.opn es))) p σ (upd H c (.lst ws)) Hf := by
  have n0 := S.fresh i ds c h hv
  have x := S.nx.poke (o := .lst ws) n0 hf na
  have hlt : i < env.length := (List.getElem?_eq_some_iff.mp h).1
  refine ⟨⟨x.fz, x.pur, fun j t ht => ?_⟩, x, fun j fs b q1 q2 => ?_, fun j l fs gs b hjl q1 q2 q3 q4 => ?_⟩
  · by_cases hj : i = j
    · subst hj
      rw [List.getElem?_set_self hlt] at ht
      cases ht
      exact ⟨_, hv, c, ws, rfl, upd_same, hf, na, r⟩
    · rw [List.getElem?_set_ne hj] at ht
      obtain ⟨w, r1, r2⟩ := S.so.slot j t ht
      refine ⟨w, r1, ?_⟩
      cases t with
      | fro d => exact r2
      | pur => exact r2
      | opn fs =>
        obtain ⟨b, us, q1, q2, q3, q4, q5⟩ := r2
        subst q1
        refine ⟨b, us, rfl, ?_, q3, q4, q5⟩
        rw [upd_ne]
        · exact q2
        · rintro rfl
          exact S.dist i j ds fs b hj h ht hv r1
  · by_cases hj : i = j
    · subst hj; exact S.fresh i ds b h q2
    · rw [List.getElem?_set_ne hj] at q1; exact S.fresh j fs b q1 q2
  · by_cases hj : i = j
    · subst hj
      rw [List.getElem?_set_ne hjl] at q2
      exact S.dist i l ds gs b hjl h q2 q3 q4
    · rw [List.getElem?_set_ne hj] at q1
      by_cases hl : i = l
      · subst hl
        exact S.dist j i fs ds b hjl q1 h q3 q4
      · rw [List.getElem?_set_ne hl] at q2
        exact S.dist j l fs gs b hjl q1 q2 q3 q4
theorem few1 {e : Expr} (hs : notStar e = true) (env : PySem.Env) (cpos : Pos) : ((backTo cpos (starEach [e] env)).all (fun x => !x.1) && (backToKw cpos (keywordEach [] env)).all (fun x => x.1.isSome)
      && decide ([e].length + ([] : List Keyword).length + (if ([] : List Keyword).isEmpty then 0 else 1) < 30)) = true := by rw [star_plain hs]; rfl
theorem few2 {e e' : Expr} (hs : notStar e = true) (hs' : notStar e' = true) (env : PySem.Env) (cpos : Pos) : ((backTo cpos (starEach [e, e'] env)).all (fun x => !x.1) && (backToKw cpos (keywordEach [] env)).all (fun x => x.1.isSome)
      && decide ([e, e'].length + ([] : List Keyword).length + (if ([] : List Keyword).isEmpty then 0 else 1) < 30)) = true := by rw [star_plain hs, star_plain hs']; rfl
/-- the slot's open list at H -/
theorem opn_at {H0 Hf0 H Hf : Hp} {ap : Option Addr} {env : Env} {p : List D} {σ : L2.St} {i : Nat} {ds : List D} (S : StOk K H0 Hf0 ap env p σ H Hf) (h : (env : List (Option Sl))[i]? = some (some (.opn ds))) :
    ∃ c vs, (σ : List (Option V))[i]? = some (some (.ref c)) ∧ H c = some (.lst vs) ∧ Hf c = none ∧ ap ≠ some c ∧ RpAll K Hf vs ds := by
  obtain ⟨v, h1, a, vs, rfl, h2, h3, h4, h5⟩ := S.so.slot i _ h
  exact ⟨a, vs, h1, h2, h3, h4, h5⟩
/-! x.append(e) -/
def mApd (i : Nat) (m : Ms D) : Mt := fun env p => match (env : List (Option Sl))[i]? with
  | some (some (.opn ds)) => (m env p).bind fun r => if ds.length < sizeMax then some (.nx (List.set env i (some (.opn (ds ++ [r.1])))), r.2) else none
  | _ => none
theorem pst_append {i : Nat} {x : Str} {px apos cpos : Pos} {m : Ms D} (hN : X.N[i]? = some x) (hv : Vis X.env.scope x) (hd : (x == ("__debug__" : Str)) = false) (hc : (x == ("__classdict__" : Str)) = false) (he : PP X m e) (hs : notStar e = true) (hl : (apos.endLine == cpos.line) = true) :
    PSt X (mApd i m) (.Expr (.Call (.Attribute (.Name x px) "append" apos) [e] [] cpos) pos) :=
  ps_weak (ps_expr (pe_bm PySem.F.plainAttrs_list PySem.F.slot_list_append PySem.F.type_list_append mt_append (pe_var hN hv hd hc) (pa_cons he pa_nil (star_plain hs _ _)) rfl (few1 hs _ _) hl (star_plain hs _ _) rfl) rfl)
    fun Dn σ H _ ⟨H0, Hf0, ap, Hf, env, p, o, p', s, q, k⟩ => by
      unfold mApd at q
      split at q
      · rename_i ds hi
        cases hm : m env p with
        | none => rw [hm] at q; cases q
        | some r =>
          obtain ⟨d, p1⟩ := r
          rw [hm] at q
          simp only [Option.bind_some] at q
          split at q
          · rename_i hz
            cases q
            obtain ⟨c, vs, h1, h2, h3, h4, h5⟩ := opn_at s hi
            refine ⟨.ref c, h1, .inl ⟨rfl, _, SqL.of h2⟩, ap, Hf, env, p, d, _, s.so, hm, fun H1 Hf1 y x1 r1 => ?_⟩
            have hH := x1.ext.same _ _ h4 h2
            have hF := x1.ext.new _ _ h2 h3
            refine ⟨c, vs, y, rfl, rfl, hH, by rw [h5.len]; exact Nat.lt_of_lt_of_le hz (by decide), ?_⟩
            exact k _ _ Hf1 ((s.ext x1).poke hi h1 hF h4 ((h5.up x1.ext.grow).append (.cons r1 .nil)))
          · cases q
      · cases q
/-! T = x.pop() -/
def mPop (T : Tg) (i : Nat) : Mt := fun env p => match (env : List (Option Sl))[i]? with
  | some (some (.opn ds)) => (ds[ds.length - 1]?).bind fun d => (bindT T d (List.set env i (some (.opn ds.dropLast)))).map fun e => (.nx e, p)
  | _ => none
theorem pst_pop {i : Nat} {x : Str} {px apos cpos : Pos} {T : Tg} {tg : Expr} (hN : X.N[i]? = some x) (hv : Vis X.env.scope x) (hd : (x == ("__debug__" : Str)) = false) (hc : (x == ("__classdict__" : Str)) = false) (hl : (apos.endLine == cpos.line) = true)
    (hg : PTg X T tg) (h1 : tgShape tg = true) : PSt X (mPop T i) (.Assign [tg] (.Call (.Attribute (.Name x px) "pop" apos) [] [] cpos) pos) :=
  ps_weak (ps_asg (pe_bm0 PySem.F.plainAttrs_list PySem.F.slot_list_pop PySem.F.type_list_pop mt_pop (pe_var hN hv hd hc) rfl hl) hg (by cases tg <;> rfl) (by cases tg <;> rfl) (by rw [assign_each h1]; rfl))
    fun Dn σ H _ ⟨H0, Hf0, ap, Hf, env, p, o, p', s, q, k⟩ => by
      unfold mPop at q
      split at q
      · rename_i ds hi
        cases hm : ds[ds.length - 1]? with
        | none => rw [hm] at q; cases q
        | some d =>
          rw [hm] at q
          simp only [Option.bind_some] at q
          cases hb : bindT T d (List.set env i (some (.opn ds.dropLast))) with
          | none => rw [hb] at q; cases q
          | some env2 =>
            rw [hb] at q; cases q
            obtain ⟨c, vs, h1, h2, h3, h4, h5⟩ := opn_at s hi
            obtain ⟨y, g1, g2⟩ := h5.get hm
            refine ⟨.ref c, h1, .inl ⟨rfl, _, SqL.of h2⟩, c, vs, y, rfl, rfl, h2, by rw [h5.len]; exact g1, ?_⟩
            have S2 := s.poke hi h1 h3 h4 h5.dropLast
            exact ⟨ap, Hf, _, p, d, env2, S2.so, g2, hb, fun σ' so st se => k σ' _ Hf (S2.stored so st se)⟩
      · cases q
/-! x.insert(e1, e2), 0 ≤ e1 -/
def insAt (ds : List D) (i : Nat) (d : D) : List D := ds.take i ++ d :: ds.drop i
def mIns (i : Nat) (m1 m2 : Ms D) : Mt := fun env p => match (env : List (Option Sl))[i]? with
  | some (some (.opn ds)) => (match m1 env p with
    | some (.int k, p1) => (m2 env p1).bind fun r => if ds.length < sizeMax ∧ 0 ≤ k ∧ k < 2 ^ 62 then some (.nx (List.set env i (some (.opn (insAt ds k.toNat r.1)))), r.2) else none
    | _ => none)
  | _ => none
/-! x[e1] = e2 -/
def mPut (i : Nat) (m1 m2 : Ms D) : Mt := fun env p => match (env : List (Option Sl))[i]? with
  | some (some (.opn ds)) => (match m2 env p with
    | some (d, p1) => (match m1 env p1 with
      | some (.int k, p2) => (ixN ds.length k).map fun j => (.nx (List.set env i (some (.opn (ds.set j d)))), p2)
      | _ => none)
    | none => none)
  | some (some .pur) => (match m2 env p with
    | some (d, p1) => (match m1 env p1 with
      | some (.int k, p2) => (ixN p2.length k).map fun j => (.nx env, p2.set j d)
      | _ => none)
    | none => none)
  | _ => none
theorem pst_put {i : Nat} {x : Str} {px tpos : Pos} {m1 m2 : Ms D} (hN : X.N[i]? = some x) (hv : Vis X.env.scope x) (hd : (x == ("__debug__" : Str)) = false) (hc : (x == ("__classdict__" : Str)) = false) (h1 : PP X m1 e1) (h2 : PP X m2 e2)
    (hs : swapsWithSole [.Subscript (.Name x px) e1 tpos] e2 pos.line X.env = pure false) (hw : swappedStores [.Subscript (.Name x px) e1 tpos] e2 X.env = pure none)
    (ha : ∀ v, assign (.Subscript (.Name x px) e1 tpos) X.env v = (do
      let ov ← holding [v] (eval (.Name x px) X.env)
      let iv ← holding [v, ov] (eval e1 X.env)
      standAt tpos
      holding [v, ov, iv] (setItem ov iv v)
      release [v, ov, iv] [])) : PSt X (mPut i m1 m2) (.Assign [.Subscript (.Name x px) e1 tpos] e2 pos) :=
  ps_weak (ps_asg h2 (pg_sub (pe_var hN hv hd hc) h1 set_list ha) hs hw rfl) fun Dn σ H _ ⟨H0, Hf0, ap, Hf, env, p, o, p', s, q, k⟩ => by
    unfold mPut at q
    split at q
    · rename_i ds hi
      split at q
      · rename_i d p1 hm2
        split at q
        · rename_i z p2 hm1
          cases hj : ixN ds.length z with
          | none => rw [hj] at q; cases q
          | some j =>
            rw [hj] at q; cases q
            refine ⟨ap, Hf, env, p, d, p1, s.so, hm2, fun H1 Hf1 y x1 r1 => ?_⟩
            have s1 := s.ext x1
            obtain ⟨c, vs, q1, q2, q3, q4, q5⟩ := opn_at s1 hi
            refine ⟨.ref c, q1, ap, Hf1, env, p1, _, _, s1.so, hm1, fun H2 Hf2 w x2 r2 => ?_⟩
            have q2' := x2.ext.same _ _ q4 q2
            have q3' := x2.ext.new _ _ q2 q3
            have q5' := q5.up x2.ext.grow
            cases r2
            refine ⟨c, vs, z, j, rfl, rfl, q2', by rw [q5'.len]; exact hj, ?_⟩
            exact k _ _ Hf2 ((s1.ext x2).poke hi q1 q3' q4 (q5'.set (r1.up x2.ext.grow) j))
        · cases q
      · cases q
    · rename_i hi
      split at q
      · rename_i d p1 hm2
        split at q
        · rename_i z p2 hm1
          cases hj : ixN p2.length z with
          | none => rw [hj] at q; cases q
          | some j =>
            rw [hj] at q; cases q
            refine ⟨ap, Hf, env, p, d, p1, s.so, hm2, fun H1 Hf1 y x1 r1 => ?_⟩
            have s1 := s.ext x1
            obtain ⟨v, q1, c, rfl, q2⟩ := s1.so.slot i _ hi
            refine ⟨.ref c, q1, ap, Hf1, env, p1, _, _, s1.so, hm1, fun H2 Hf2 w x2 r2 => ?_⟩
            cases r2
            have s2 := s1.ext x2
            obtain ⟨g1, vs, g2, g3⟩ := x2.pur c q2
            refine ⟨c, vs, z, j, rfl, rfl, g2, by rw [g3.len]; exact hj, ?_⟩
            have hset := g3.set (r1.up x2.ext.grow) j
            have pu : PurAt X.K ap (p2.set j d) (upd H2 c (.lst (vs.set j y))) Hf2 := fun a' ea => by
              rw [q2] at ea; cases ea
              exact ⟨g1, _, upd_same, hset⟩
            have fz : Fz Hf2 (upd H2 c (.lst (vs.set j y))) := fun b o z' => by
              rw [upd_ne (ne_of_none z' g1)]; exact x2.fz b o z'
            have x3 : Nx X.K ap (p2.set j d) H2 Hf2 (upd H2 c (.lst (vs.set j y))) Hf2 := by
              refine ⟨⟨fun b o n e => ?_, fun _ _ e => e, fun _ _ _ e => e, fun b o e => ?_⟩, fz, pu⟩
              · rw [upd_ne (by rintro rfl; exact n q2)]; exact e
              · by_cases hb : b = c
                · subst hb; exact ⟨_, upd_same⟩
                · exact ⟨o, by rw [upd_ne hb]; exact e⟩
            exact k _ _ Hf2 (s2.ext x3)
        · cases q
      · cases q
    · cases q
/-! purse[e] -/
def mPurIx (i : Nat) (m : Ms D) : Ms D := fun env p => match (env : List (Option Sl))[i]? with
  | some (some .pur) => (match m env p with
    | some (.int k, p1) => (atI p1 k).map fun d => (d, p1)
    | _ => none)
  | _ => none
theorem pp_purIx {i : Nat} {x : Str} {px : Pos} {m : Ms D} (hN : X.N[i]? = some x) (hv : Vis X.env.scope x) (hd : (x == ("__debug__" : Str)) = false) (hc : (x == ("__classdict__" : Str)) = false) (h : PP X m e) (hp : plainIx e = true) : PP X (mPurIx i m) (.Subscript (.Name x px) e pos) :=
  pe_weak (pe_ix ix_seq (pe_var hN hv hd hc) h (plain_ix hp)) fun σ H Q ⟨ap, Hf, env, p, d, p', s, q, k⟩ => by
    unfold mPurIx at q
    split at q
    · rename_i hi
      split at q
      · rename_i z p1 hm
        cases hj : atI p1 z with
        | none => rw [hj] at q; cases q
        | some d' =>
          rw [hj] at q; cases q
          obtain ⟨v, q1, c, rfl, q2⟩ := s.slot i _ hi
          refine ⟨.ref c, q1, ap, Hf, env, p, _, _, s, hm, fun H1 Hf1 w x1 r1 => ?_⟩
          cases r1
          obtain ⟨g1, vs, g2, g3⟩ := x1.pur c q2
          obtain ⟨y, e3, e4⟩ := g3.atI hj
          exact .inl ⟨c, vs, z, y, rfl, rfl, SqL.of g2, e3, k H1 Hf1 y x1 e4⟩
      · cases q
    · cases q
/-! x[e1], x[e2] = e -/
def mPut2 (i : Nat) (m1 m2 m : Ms D) : Mt := fun env p => match (env : List (Option Sl))[i]? with
  | some (some (.opn ds)) => (match m env p with
    | some (.tuple [d1, d2], p1) => (match m1 env p1 with
      | some (.int k1, p2) => (ixN ds.length k1).bind fun j1 => (match m2 (List.set env i (some (.opn (ds.set j1 d1)))) p2 with
        | some (.int k2, p3) => (ixN (ds.set j1 d1).length k2).map fun j2 => (.nx (List.set (List.set env i (some (.opn (ds.set j1 d1)))) i (some (.opn ((ds.set j1 d1).set j2 d2)))), p3)
        | _ => none)
      | _ => none)
    | _ => none)
  | _ => none
theorem pst_put2 {i kt : Nat} {x : Str} {px px2 tp1 tp2 tpos : Pos} {m1 m2 m : Ms D} (hcl : X.calm = true) (hN : X.N[i]? = some x) (hv : Vis X.env.scope x) (hd : (x == ("__debug__" : Str)) = false) (hc : (x == ("__classdict__" : Str)) = false) (h1 : PP X m1 e1) (h2 : PP X m2 e2) (h : PP X m e)
    (hs : swapsWithSole [.Tuple [.Subscript (.Name x px) e1 tp1, .Subscript (.Name x px2) e2 tp2] kt tpos] e pos.line X.env = pure false) (hw : swappedStores [.Tuple [.Subscript (.Name x px) e1 tp1, .Subscript (.Name x px2) e2 tp2] kt tpos] e X.env = pure none)
    (ha : ∀ v, assign (.Subscript (.Name x px) e1 tp1) X.env v = (do
      let ov ← holding [v] (eval (.Name x px) X.env)
      let iv ← holding [v, ov] (eval e1 X.env)
      standAt tp1
      holding [v, ov, iv] (setItem ov iv v)
      release [v, ov, iv] []))
    (ha2 : ∀ v, assign (.Subscript (.Name x px2) e2 tp2) X.env v = (do
      let ov ← holding [v] (eval (.Name x px2) X.env)
      let iv ← holding [v, ov] (eval e2 X.env)
      standAt tp2
      holding [v, ov, iv] (setItem ov iv v)
      release [v, ov, iv] [])) : PSt X (mPut2 i m1 m2 m) (.Assign [.Tuple [.Subscript (.Name x px) e1 tp1, .Subscript (.Name x px2) e2 tp2] kt tpos] e pos) :=
  ps_weak (ps_asg h (pg_tup hcl (pgs_cons (pg_sub (pe_var hN hv hd hc) h1 set_list ha) (pgs_cons (pg_sub (pe_var hN hv hd hc) h2 set_list ha2) pgs_nil rfl) rfl) rfl rfl) hs hw rfl) fun Dn σ H _ ⟨H0, Hf0, ap, Hf, env, p, o, p', s, q, k⟩ => by
    unfold mPut2 at q
    split at q
    · rename_i ds hi
      split at q
      · rename_i d1 d2 p1 hm
        split at q
        · rename_i k1 p2 hm1
          cases hj : ixN ds.length k1 with
          | none => rw [hj] at q; cases q
          | some j1 =>
            rw [hj] at q
            simp only [Option.bind_some] at q
            split at q
            · rename_i k2 p3 hm2
              cases hj2 : ixN (ds.set j1 d1).length k2 with
              | none => rw [hj2] at q; cases q
              | some j2 =>
                rw [hj2] at q; cases q
                refine ⟨ap, Hf, env, p, _, p1, s.so, hm, fun H1 Hf1 t x1 r1 => ?_⟩
                have s1 := s.ext x1
                cases r1 with
                | tup ht hts =>
                  cases hts with
                  | cons ra rb =>
                    cases rb with
                    | cons rb rc =>
                      cases rc
                      refine ⟨_, _, rfl, SqT.of (x1.fz _ _ ht), rfl, _, _, rfl, ?_⟩
                      obtain ⟨c, vs, q1, q2, q3, q4, q5⟩ := opn_at s1 hi
                      refine ⟨.ref c, q1, ap, Hf1, env, p1, _, _, s1.so, hm1, fun H2 Hf2 w x2 r2 => ?_⟩
                      cases r2
                      have q2' := x2.ext.same _ _ q4 q2
                      have q3' := x2.ext.new _ _ q2 q3
                      have q5' := q5.up x2.ext.grow
                      refine ⟨c, vs, k1, j1, rfl, rfl, q2', by rw [q5'.len]; exact hj, ?_⟩
                      have s2 := (s1.ext x2).poke hi q1 q3' q4 (q5'.set (ra.up x2.ext.grow) j1)
                      have hi2 : (List.set env i (some (.opn (ds.set j1 d1))) : List (Option Sl))[i]? = some (some (.opn (ds.set j1 d1))) := List.getElem?_set_self (List.getElem?_eq_some_iff.mp hi).1
                      refine ⟨_, _, rfl, ?_⟩
                      obtain ⟨c2, vs2, g1, g2, g3, g4, g5⟩ := opn_at s2 hi2
                      refine ⟨.ref c2, g1, ap, Hf2, _, p2, _, _, s2.so, hm2, fun H3 Hf3 w3 x3 r3 => ?_⟩
                      cases r3
                      have g2' := x3.ext.same _ _ g4 g2
                      have g3' := x3.ext.new _ _ g2 g3
                      have g5' := g5.up x3.ext.grow
                      refine ⟨c2, vs2, k2, j2, rfl, rfl, g2', by rw [g5'.len]; exact hj2, rfl, ?_⟩
                      exact k _ _ Hf3 ((s2.ext x3).poke hi2 g1 g3' g4 (g5'.set ((rb.up x2.ext.grow).up x3.ext.grow) j2))
            · cases q
        · cases q
      · cases q
    · cases q
/-! a test that borrows open lists: they are lists of data while it is asked, and open again behind it (nothing but the answer is left) -/
def frzE (env : Env) : List Nat → Env
  | [] => env
  | i :: is => match (env : List (Option Sl))[i]? with
    | some (some (.opn ds)) => frzE (List.set env i (some (.fro (.list ds)))) is
    | _ => frzE env is
def mBor (is : List Nat) (c : Ms Bool) : Ms Bool := fun env p => match c (frzE env is) p with
  | some (b, p') => if (intsOf p').isSome then some (b, p') else none
  | none => none
theorem frzE_ok {H0 Hf0 H : Hp} {ap : Option Addr} {p : List D} {σ : L2.St} : ∀ (is : List Nat) {env : Env} {Hf : Hp}, StOk K H0 Hf0 ap env p σ H Hf → ∃ Hf', StOk K H0 Hf0 ap (frzE env is) p σ H Hf' ∧ Fz Hf Hf'
  | [], env, Hf, S => ⟨Hf, S, fun _ _ e => e⟩
  | i :: is, env, Hf, S => by
    unfold frzE
    split
    · rename_i ds h
      obtain ⟨Hf1, S1, g1⟩ := frz_ok S h
      obtain ⟨Hf2, S2, g2⟩ := frzE_ok is S1
      exact ⟨Hf2, S2, fun b o e => g2 b o (g1 b o e)⟩
    · exact frzE_ok is S
/-- behind a borrow: the old frozen part again -/
theorem StOk.lent {H0 Hf0 H Hf Hf1 H2 Hf2 : Hp} {ap : Option Addr} {env : Env} {p p' : List D} {σ : L2.St} {ns : List Int} (S : StOk K H0 Hf0 ap env p σ H Hf) (g : Fz Hf Hf1) (x : Nx K ap p' H Hf1 H2 Hf2) (hp : intsOf p' = some ns) : StOk K H0 Hf0 ap env p' σ H2 Hf := by
  have g2 : Fz Hf Hf2 := fun b o e => x.ext.grow b o (g b o e)
  have fz : Fz Hf H2 := fun b o e => x.fz b o (g2 b o e)
  have pu : PurAt K ap p' H2 Hf := fun a e => by
    obtain ⟨q1, vs, q2, q3⟩ := x.pur a e
    rw [intsOf_eq hp] at q3 ⊢
    rw [q3.ints] at q2
    refine ⟨?_, _, q2, RpAll.ofInts ns⟩
    cases z : Hf a with
    | none => rfl
    | some o => rw [g2 a o z] at q1; cases q1
  refine ⟨⟨fz, pu, fun j t ht => ?_⟩, ⟨⟨fun b o n e => x.ext.same b o n (S.nx.ext.same b o n e), S.nx.ext.grow, S.nx.ext.new, fun b o e => ?_⟩, fz, pu⟩, S.fresh, S.dist⟩
  · obtain ⟨v, r1, r2⟩ := S.so.slot j t ht
    refine ⟨v, r1, ?_⟩
    cases t with
    | fro d => exact r2
    | pur => exact r2
    | opn ds =>
      obtain ⟨b, ws, e1, e2, e3, e4, e5⟩ := r2
      exact ⟨b, ws, e1, x.ext.same b _ e4 e2, e3, e4, e5⟩
  · obtain ⟨o', e'⟩ := S.nx.ext.there b o e
    exact x.ext.there b o' e'
theorem pst_ifB {c : Expr} {as bs : List Stmt} {mc : Ms Bool} {ma mb : Mt} (is : List Nat) (hc : PB X mc c) (ha : PBk X ma as) (hb : PBk X mb bs) : PSt X (mIf (mBor is mc) ma mb) (.If c as bs pos) := ps_weak (ps_if hc ha hb) fun Dn σ H hl ⟨H0, Hf0, ap, Hf, env, p, o, p', s, q, k⟩ => by
  unfold mIf at q
  obtain ⟨Hf1, S1, g⟩ := frzE_ok is s
  cases hm : mc (frzE env is) p with
  | none =>
    have e : mBor is mc env p = none := by unfold mBor; rw [hm]
    rw [e] at q; cases q
  | some r =>
    obtain ⟨b, p1⟩ := r
    cases hi : intsOf p1 with
    | none =>
      have e : mBor is mc env p = none := by unfold mBor; rw [hm]; simp [hi]
      rw [e] at q; cases q
    | some ns =>
      have e : mBor is mc env p = some (b, p1) := by unfold mBor; rw [hm]; simp [hi]
      rw [e] at q
      refine ⟨ap, Hf1, _, p, b, p1, S1.so, hm, fun H2 Hf2 x => ?_⟩
      have S2 := s.lent g x hi
      cases b with
      | true => exact iteT ⟨H0, Hf0, ap, Hf, env, p1, o, p', S2, q, k⟩
      | false => exact iteF ⟨H0, Hf0, ap, Hf, env, p1, o, p', S2, q, k⟩
theorem pst_insert {i : Nat} {x : Str} {px apos cpos : Pos} {m1 m2 : Ms D} (hN : X.N[i]? = some x) (hv : Vis X.env.scope x) (hd : (x == ("__debug__" : Str)) = false) (hc : (x == ("__classdict__" : Str)) = false) (h1 : PP X m1 e1) (h2 : PP X m2 e2) (hs1 : notStar e1 = true) (hs2 : notStar e2 = true) (hl : (apos.endLine == cpos.line) = true) :
    PSt X (mIns i m1 m2) (.Expr (.Call (.Attribute (.Name x px) "insert" apos) [e1, e2] [] cpos) pos) :=
  ps_weak (ps_expr (pe_bm PySem.F.plainAttrs_list PySem.F.slot_list_insert PySem.F.type_list_insert mt_insert (pe_var hN hv hd hc) (pa_cons h1 (pa_cons h2 pa_nil (star_plain hs2 _ _)) (star_plain hs1 _ _)) rfl (few2 hs1 hs2 _ _) hl (star_plain hs1 _ _) (by rw [star_plain hs2]; rfl)) rfl)
    fun Dn σ H _ ⟨H0, Hf0, ap, Hf, env, p, o, p', s, q, k⟩ => by
      unfold mIns at q
      split at q
      · rename_i ds hi
        split at q
        · rename_i z p1 hm1
          cases hm2 : m2 env p1 with
          | none => rw [hm2] at q; cases q
          | some r =>
            obtain ⟨d, p2⟩ := r
            rw [hm2] at q
            simp only [Option.bind_some] at q
            split at q
            · rename_i hz
              cases q
              obtain ⟨c, vs, g1, g2, g3, g4, g5⟩ := opn_at s hi
              refine ⟨.ref c, g1, .inl ⟨rfl, _, SqL.of g2⟩, ap, Hf, env, p, _, _, s.so, hm1, fun H1 Hf1 y x1 r1 => ?_⟩
              cases r1
              refine ⟨ap, Hf1, env, p1, _, _, s.so.ext x1, hm2, fun H2 Hf2 y2 x2 r2 => ?_⟩
              have x3 := x1.trans x2
              have hH := x3.ext.same _ _ g4 g2
              have hF := x3.ext.new _ _ g2 g3
              refine ⟨c, vs, z, y2, rfl, rfl, hH, by rw [g5.len]; exact Nat.lt_of_lt_of_le hz.1 (by decide), hz.2.1, by omega, ?_⟩
              have r5 := g5.up x3.ext.grow
              have rr : RpAll X.K Hf2 (vs.take z.toNat ++ [y2] ++ vs.drop z.toNat) (insAt ds z.toNat d) := by
                unfold insAt
                rw [List.append_assoc]
                exact (r5.take _).append (.cons r2 (r5.drop _))
              exact k _ _ Hf2 ((s.ext x3).poke hi g1 hF g4 rr)
            · cases q
        · cases q
      · cases q
end
end PV

set_option Elab.async false
set_option linter.all false
set_option maxRecDepth 100000
set_option maxHeartbeats 2000000
namespace PV
open PySem PySem.Spec L2
open PyProof.Rows hiding St

/-! ### 20. the core language -/
inductive Bop where | add | sub | mul | div | mod | pow
  deriving DecidableEq
inductive Cop where | eq | ne | lt | le | gt | ge | isin | notin | is | isnot
  deriving DecidableEq
inductive Blt where | len | all | any | sum | abs | int | str | tuple | repr | max2 | min2 | gcd | sorted
  deriving DecidableEq
/-- the shape of a call: the name, the def's place, its parameters' number, positional ones, keywords, their order, the defaults -/
structure Shp where
  x : Str
  f : Nat
  np : Nat
  n : Nat
  ks : List Str
  idx : List Nat
  dds : List D
/-- .. of a def whose first parameter is the purse -/
structure PShp where
  x : Str
  f : Nat
  n : Nat
structure Gm where
  shps : List Shp
  pshps : List PShp
  blts : List Str
  gcd : Bool
mutual
inductive C where
  | bad
  | k (d : D)
  | var (i : Nat)
  | ov (i : Nat)
  | bin (op : Bop) (a b : C)
  | cmp (op : Cop) (a b : C)
  | neg (a : C)
  | not (a : C)
  | and (a b : C)
  | or (a b : C)
  | ite (t a b : C)
  | tup (es : Cs)
  | lst (es : Cs)
  | ix (a b : C)
  | cut (a : C)
  | cutL (a lo : C)
  | cutH (a hi : C)
  | cutLH (a lo hi : C)
  | rev (a : C)
  | cat (a b : C)
  | edict
  | isi (a : C) (ts : List Ty)
  | app (b : Blt) (es : Cs)
  | lof (a : C)
  | lrg1 (a : C)
  | lrg2 (a b : C)
  | bits (a : C)
  | call (si : Nat) (es ks : Cs)
  | callP (si i : Nat) (es : Cs)
  | tst (a : C)
  | purix (i : Nat) (a : C)
  | comp (T : Tg) (own : List Nat) (it : It) (elt : C)
  | compIf (T : Tg) (own : List Nat) (it : It) (t elt : C)
inductive Cs where
  | nil
  | cons (a : C) (r : Cs)
  | star (a : C) (r : Cs)
inductive It where
  | seq (a : C)
  | rng1 (es : Cs)
  | rng2 (es : Cs)
  | rng3 (es : Cs)
  | zip (es : Cs)
  | enum (es : Cs)
end
def gBop : Bop → D → D → Option D
  | .add => gAdd | .sub => gSub | .mul => gMul | .div => gDiv | .mod => gMod | .pow => gPow
def gCop : Cop → D → D → Option D
  | .eq => gEq | .ne => gNe | .lt => gLt | .le => gLe | .gt => gGt | .ge => gGe | .isin => gIn | .notin => gNotIn | .is => gIs | .isnot => gIsNot
def alikeOk (ds : List D) : Bool := (ds.all fun x => ds.all fun y => PySem.W.alike x y) && decide (ds.length ≤ sizeMax)
def sortOk (ds : List D) : Bool := (ds.all fun d => match d with | .tuple (_ :: _) => true | _ => false) || (ds.all fun d => match d with | .none => false | .tuple _ => false | _ => true)
def gSorted : List D → Option D
  | [.list ds] => if alikeOk ds && sortOk ds && ds.all (fun d => decide (PyData.depth d ≤ 50)) then some (.list (ds.mergeSort (PySem.W.dataLe false _root_.id))) else none
  | _ => none
def gBlt : Blt → List D → Option D
  | .len => gLen | .all => gAll | .any => gAny | .sum => gSum | .abs => gAbs | .int => gInt | .str => gStr | .tuple => gTuple | .repr => gRepr | .max2 => gMax2 | .min2 => gMin2 | .gcd => gGcd | .sorted => gSorted
def mCallS (G : Gm) (F : Nat → Sm) (si : Nat) (ms mk : Ms (List D)) : Ms Sl := match G.shps[si]? with
  | some sh => mCall (F sh.f) sh.np sh.n sh.ks.length sh.idx sh.dds ms mk
  | none => mNever
def mCallT (G : Gm) (F : Nat → Sm) (si i : Nat) (ms : Ms (List D)) : Ms Sl := match G.pshps[si]? with
  | some sh => mCallP (F sh.f) (sh.n + 1) i sh.n ms
  | none => mNever
/-- list + list, a new list -/
def mCat (ma mb : Ms D) : Ms (List D) := fun env p => match ma env p with
  | some (.list xs, p1) => (match mb env p1 with
    | some (.list ys, p2) => if xs.length + ys.length ≤ sizeMax then some (xs ++ ys, p2) else none
    | _ => none)
  | _ => none
mutual
def ev (G : Gm) (F : Nat → Sm) : C → Ms D
  | .bad => mNever
  | .k d => mK d
  | .var i => mVar i
  | .ov i => mOv i
  | .bin op a b => m2 (gBop op) (ev G F a) (ev G F b)
  | .cmp op a b => m2 (gCop op) (ev G F a) (ev G F b)
  | .neg a => mNeg (ev G F a)
  | .not a => mNotV (ev G F a)
  | .and a b => mAndV (ev G F a) (ev G F b)
  | .or a b => mOrV (ev G F a) (ev G F b)
  | .ite t a b => mIfB (mB (ev G F t)) (ev G F a) (ev G F b)
  | .tup es => mTup (evs G F es)
  | .lst es => mList (mSz (evs G F es))
  | .ix a b => m2 gIx (ev G F a) (ev G F b)
  | .cut a => mList (mCutL (ev G F a) none none)
  | .cutL a lo => mList (mCutL (ev G F a) (some (ev G F lo)) none)
  | .cutH a hi => mList (mCutL (ev G F a) none (some (ev G F hi)))
  | .cutLH a lo hi => mList (mCutL (ev G F a) (some (ev G F lo)) (some (ev G F hi)))
  | .rev a => mList (mRev (ev G F a))
  | .cat a b => mList (mCat (ev G F a) (ev G F b))
  | .edict => mK (.dict [])
  | .isi a ts => mIsi (ev G F a) ts
  | .app b es => mApp (gBlt b) (evs G F es)
  | .lof a => mList (mApp gList (mCons (ev G F a) mNil))
  | .lrg1 a => mList (mLRg1 (ev G F a))
  | .lrg2 a b => mList (mLRg2 (ev G F a) (ev G F b))
  | .bits a => mBits (ev G F a)
  | .call si es ks => mSl (mCallS G F si (evs G F es) (evs G F ks))
  | .callP si i es => mSl (mCallT G F si i (evs G F es))
  | .tst a => ev G F a
  | .purix i a => mPurIx i (ev G F a)
  | .comp T own it elt => mList (mComp T own (evI G F it) mYes (ev G F elt))
  | .compIf T own it t elt => mList (mComp T own (evI G F it) (mB (ev G F t)) (ev G F elt))
def evs (G : Gm) (F : Nat → Sm) : Cs → Ms (List D)
  | .nil => mNil
  | .cons a r => mCons (ev G F a) (evs G F r)
  | .star a r => mStar (ev G F a) (evs G F r)
def evI (G : Gm) (F : Nat → Sm) : It → Ms (List D)
  | .seq a => mIt (ev G F a)
  | .rng1 es => mRng1 (evs G F es)
  | .rng2 es => mRng2 (evs G F es)
  | .rng3 es => mRng3 (evs G F es)
  | .zip es => mZip (evs G F es)
  | .enum es => mEnum (evs G F es)
end
/-- slots' new values -/
def evX (G : Gm) (F : Nat → Sm) : C → Ms Sl
  | .lst es => mOpn (mSz (evs G F es))
  | .cut a => mOpn (mCutL (ev G F a) none none)
  | .cutL a lo => mOpn (mCutL (ev G F a) (some (ev G F lo)) none)
  | .cutH a hi => mOpn (mCutL (ev G F a) none (some (ev G F hi)))
  | .cutLH a lo hi => mOpn (mCutL (ev G F a) (some (ev G F lo)) (some (ev G F hi)))
  | .rev a => mOpn (mRev (ev G F a))
  | .cat a b => mOpn (mCat (ev G F a) (ev G F b))
  | .lof a => mOpn (mApp gList (mCons (ev G F a) mNil))
  | .lrg1 a => mOpn (mLRg1 (ev G F a))
  | .lrg2 a b => mOpn (mLRg2 (ev G F a) (ev G F b))
  | .comp T own it elt => mOpn (mComp T own (evI G F it) mYes (ev G F elt))
  | .compIf T own it t elt => mOpn (mComp T own (evI G F it) (mB (ev G F t)) (ev G F elt))
  | .call si es ks => mCallS G F si (evs G F es) (evs G F ks)
  | .callP si i es => mCallT G F si i (evs G F es)
  | c => mFro (ev G F c)
def mExp (m : Ms D) : Mt := fun env p => (m env p).map fun r => (.nx env, r.2)
mutual
inductive S where
  | bad
  | pass
  | brk
  | cnt
  | set (i : Nat) (c : C)
  | setX (i : Nat) (c : C)
  | set2 (i j : Nat) (a b : C)
  | setX2 (i j : Nat) (a b : C)
  | asg (T : Tg) (c : C)
  | ret (c : C)
  | retN
  | exp (c : C)
  | retV (i : Nat)
  | ite (bor : List Nat) (c : C) (a b : Ss)
  | while (c : C) (b : Ss)
  | for (T : Tg) (it : It) (b : Ss)
  | apd (i : Nat) (c : C)
  | pop (T : Tg) (i : Nat)
  | ins (i : Nat) (a b : C)
  | put (i : Nat) (a b : C)
  | put2 (i : Nat) (a b c : C)
  | frz (i : Nat) (s : S)
inductive Ss where
  | nil
  | cons (s : S) (r : Ss)
end
mutual
def ex (G : Gm) (F : Nat → Sm) (w : Nat) : S → Mt
  | .bad => mBad
  | .pass => mPass
  | .brk => mBrk
  | .cnt => mCnt
  | .set i c => mSet i (mFro (ev G F c))
  | .setX i c => mSet i (evX G F c)
  | .set2 i j a b => mSet2 i j (mFro (ev G F a)) (mFro (ev G F b))
  | .setX2 i j a b => mSet2 i j (evX G F a) (evX G F b)
  | .asg T c => mAsg T (ev G F c)
  | .ret c => mRet (evX G F c)
  | .retN => mRetN
  | .exp c => mExp (ev G F c)
  | .retV i => mRetV i
  | .ite bor c a b => mIf (if bor.isEmpty then mB (ev G F c) else mBor bor (mB (ev G F c))) (exs G F w a) (exs G F w b)
  | .while c b => goW (mB (ev G F c)) (exs G F w b) w
  | .for T it b => mFor T (evI G F it) (exs G F w b)
  | .apd i c => mApd i (ev G F c)
  | .pop T i => mPop T i
  | .ins i a b => mIns i (ev G F a) (ev G F b)
  | .put i a b => mPut i (ev G F a) (ev G F b)
  | .put2 i a b c => mPut2 i (ev G F a) (ev G F b) (ev G F c)
  | .frz i s => mThen (mFrz i) (ex G F w s)
def exs (G : Gm) (F : Nat → Sm) (w : Nat) : Ss → Mt
  | .nil => mDone
  | .cons s r => mThen (ex G F w s) (exs G F w r)
end
/-- a def: whether its first parameter is the purse, how many others, how many slots, its body -/
structure Df where
  pur : Bool
  np : Nat
  ns : Nat
  body : Ss
def startE (pur : Bool) (ns : Nat) (ds : List D) : Env := (if pur then [some .pur] else []) ++ ds.map (fun d => some (.fro d)) ++ List.replicate (ns - ((if pur then 1 else 0) + ds.length)) none
def runD (G : Gm) (F : Nat → Sm) (w : Nat) (f : Df) : Sm := fun ds p => match exs G F w f.body (startE f.pur f.ns ds) p with
  | some (.rt s, p') => some (s, p')
  | some (.nx _, p') => some (.fro .none, p')
  | _ => none
/-- the semantics of a text of defs, to a depth of calls -/
def sem (G : Gm) (w : Nat) (tbl : List Df) : Nat → Nat → Sm
  | 0, _ => fun _ _ => none
  | k + 1, f => match tbl[f]? with
    | some df => runD G (sem G w tbl k) w df
    | none => fun _ _ => none
end PV

set_option Elab.async false
set_option linter.all false
set_option maxRecDepth 100000
set_option maxHeartbeats 2000000
namespace PV
open PySem PySem.Spec L2
open PyProof.Rows hiding St

/-! ### 21. sorted of alike data -/
theorem each_rel {K : PySem.W.Frag} {H : Hp} : ∀ {vs : List V} {us : List Value} {ds : List D}, Vals vs us → RpAll K H vs ds → PySem.W.EachIs (fun u d => ∃ v, RelV v u ∧ Rp K H v d) us ds
  | [], _, _, h, r => by cases h; cases r; exact .nil
  | _ :: _, _, _, h, r => by
    cases h with | cons h1 h2 =>
      cases r with | cons r1 r2 => exact .cons ⟨_, h1, r1⟩ (each_rel h2 r2)
theorem rel_each {K : PySem.W.Frag} {H : Hp} : ∀ {us : List Value} {ds : List D}, PySem.W.EachIs (fun u d => ∃ v, RelV v u ∧ Rp K H v d) us ds → ∃ vs, Vals vs us ∧ RpAll K H vs ds
  | _, _, .nil => ⟨[], .nil, .nil⟩
  | _, _, .cons ⟨v, h1, h2⟩ r => by
    obtain ⟨vs, h3, h4⟩ := rel_each r
    exact ⟨v :: vs, .cons h1 h3, .cons h2 h4⟩
theorem each_imp {α β : Type} {R S : α → β → Prop} {l : List α} {m : List β} (h : PySem.W.EachIs R l m) (f : ∀ a b, b ∈ m → R a b → S a b) : PySem.W.EachIs S l m := by
  induction h with
  | nil => exact .nil
  | cons r _ ih => exact .cons (f _ _ List.mem_cons_self r) (ih fun a b hb => f a b (List.mem_cons_of_mem _ hb))
def rSortD (K : PySem.W.Frag) : List V → Hp → VK → Prop := fun vs H Q => ∃ (l : Addr) (ws : List V) (ds : List D) (Hf : Hp), vs = [.ref l] ∧ H l = some (.lst ws) ∧ RpAll K Hf ws ds ∧ Fz Hf H ∧ alikeOk ds = true ∧ sortOk ds = true ∧ (ds.all fun d => decide (PyData.depth d ≤ 50)) = true ∧ (∀ d ∈ ds, d.hasDict = false) ∧
  ∀ a ws', H a = none → RpAll K Hf ws' (ds.mergeSort (PySem.W.dataLe false _root_.id)) → Q (.ref a) (upd H a (.lst ws'))
theorem alike_noDict : ∀ d : D, PySem.W.alike d d = true → d.hasDict = false := by
  intro d
  exact (PyData.rec (motive_1 := fun a => PySem.W.alike a a = true → a.hasDict = false) (motive_2 := fun as => PySem.W.alikeAll as as = true → PyData.hasDictAll as = false) (motive_3 := fun _ => True) (motive_4 := fun _ => True)
    (by intro _; rfl) (by intro _ _; rfl) (by intro _ _; rfl) (by intro _ _; rfl) (by intro xs ih h; exact ih (by simpa [PySem.W.alike] using h)) (by intro xs ih h; exact ih (by simpa [PySem.W.alike] using h)) (by intro xs _ h; simp [PySem.W.alike] at h)
    (by intro _; rfl) (by intro x xs ih1 ih2 h; simp [PySem.W.alikeAll] at h; simp [PyData.hasDictAll, ih1 h.1, ih2 h.2]) (by trivial) (by intros; trivial) (by intros; trivial) d)
theorem call_sortD {X : Cx} {k : Nat} (hr : Room k X.A) : CallR X (.builtin "sorted") (rSortD X.K) := by
  intro pins s σ H vs us Q I r h
  obtain ⟨l, ws, ds, Hf, rfl, hl, rp, fz, h1, h2, h3, hnd, q⟩ := h
  obtain ⟨u, rfl, ru⟩ := vals1 r
  cases ru
  obtain ⟨hz, its, n, rv, e⟩ := I.hok l _ hl
  unfold alikeOk at h1
  rw [Bool.and_eq_true, List.all_eq_true] at h1
  have er := each_rel rv rp
  have er2 : PySem.W.EachIs (fun v b => ∃ as, Reads s.heap v (_root_.id b) as) its ds := each_imp er fun a b hb ⟨v, q1, q2⟩ => Dp.reads I b v a ((q2.up fz).dpD (hnd b hb)) q1
  have hu := hr.units
  refine PySem.W.sorted_data (enc := _root_.id) ⟨_, e, rfl, n, rfl⟩ er er2 ?_ ?_ ?_ ?_ ?_
  · rw [List.map_id]
    intro d hd d' hd'
    have := h1.1 d hd
    rw [List.all_eq_true] at this
    exact this d' hd'
  · rw [List.map_id]
    unfold sortOk at h2
    rw [Bool.or_eq_true, List.all_eq_true, List.all_eq_true] at h2
    rcases h2 with h2 | h2
    · refine .inl fun d hd => ?_
      have := h2 d hd
      split at this
      · exact ⟨_, _, rfl⟩
      · cases this
    · refine .inr fun d hd => ?_
      have := h2 d hd
      split at this
      · cases this
      · cases this
      · rename_i n1 n2
        exact ⟨fun z => n1 z, fun xs z => n2 xs z⟩
  · rw [← rp.len]; exact hz
  · intro b hb
    rw [List.all_eq_true] at h3
    have := of_decide_eq_true (h3 b hb)
    show X.A.units + 2 + PyData.depth b < cLine
    omega
  · intro out hlen ho
    obtain ⟨ws', q1, q2⟩ := rel_each ho
    obtain ⟨ep, he⟩ := PyProof.Rows.sortedAll_at s.heap its out.toArray
    have hn : H (s.heap.objs.size + 1) = none := I.hok.fresh (Nat.le_succ _)
    refine ⟨.ref _, upd H (s.heap.objs.size + 1) (.lst ws'), I.laid (t' := s.toks) (fun _ _ => PyProof.Rows.sortedAll_old) (Nat.le_succ _) ⟨?_, out, ep, q1, he⟩, rfl, q _ ws' hn q2⟩
    have l1 := q2.len
    have l2 := List.length_mergeSort (le := PySem.W.dataLe false (_root_.id : D → D)) ds
    have l3 := rp.len
    omega
theorem cp_sorted {K : PySem.W.Frag} : CallP K (rSortD K) gSorted := by
  intro ap p vs ds d H Hf Q fz pu rs e k
  unfold gSorted at e
  split at e
  · split at e
    · rename_i xs hc
      cases e
      rw [Bool.and_eq_true, Bool.and_eq_true] at hc
      cases rs with | cons r rr =>
        cases rr
        obtain ⟨a, ws, rfl, h1, h2⟩ := r.list fz
        refine ⟨a, ws, _, Hf, rfl, h1, h2, fz, hc.1.1, hc.1.2, hc.2, fun d hd => ?_, fun b ws' n r2 => new_list fz pu r2 k b n⟩
        have h3 := hc.1.1
        unfold alikeOk at h3
        rw [Bool.and_eq_true, List.all_eq_true] at h3
        have h4 := h3.1 d hd
        rw [List.all_eq_true] at h4
        exact alike_noDict d (h4 d hd)
    · cases e
  · cases e
end PV

set_option Elab.async false
set_option linter.all false
set_option maxRecDepth 100000
set_option maxHeartbeats 4000000
namespace PV
open PySem PySem.Spec L2
open PyProof.Rows hiding St

/-! ### 22. the static context -/
structure Stc where
  sc : Scope
  ow : Str → Bool
  N : List Str
def ShpOk (P : Program) (w : World) (K : PySem.W.Frag) (mg : Str → Option Value) (base : Heap) (F : Nat → Sm) (k : Nat) (sh : Shp) : Prop :=
  ∃ (fa : Addr) (fd : FuncData) (ps : List Str) (dvs : List V) (dls : List Value), FnG P w K mg base CX0 k fa fd ps (spF K false ps.length (F sh.f)) ∧ mg sh.x = some (.ref fa) ∧ PySem.W.keepIn K (.ref fa) = true ∧
    BindsP K fd ps sh.n sh.ks sh.idx dls ∧ Vals dvs dls ∧ (∀ Hf, RpAll K Hf dvs sh.dds) ∧ ps.length = sh.np
def PShpOk (P : Program) (w : World) (K : PySem.W.Frag) (mg : Str → Option Value) (base : Heap) (F : Nat → Sm) (k : Nat) (sh : PShp) : Prop :=
  ∃ (fa : Addr) (fd : FuncData) (ps : List Str), FnG P w K mg base CX0 k fa fd ps (spF K true sh.n (F sh.f)) ∧ mg sh.x = some (.ref fa) ∧ PySem.W.keepIn K (.ref fa) = true ∧ BindsP K fd ps (sh.n + 1) [] (List.range (sh.n + 1)) [] ∧ ps.length = sh.n + 1
structure Sta (G : Gm) (F : Nat → Sm) (k : Nat) (s : Stc) (X : Cx) : Prop where
  sc : X.env.scope = s.sc
  N : X.N = s.N
  nd : X.N.Nodup
  calm : X.calm = true
  gd : X.A.guards = some []
  room : Room k X.A
  xe : X.xe = fun _ _ => False
  ow : ∀ x, s.ow x = true → X.fn x = true
  blt : ∀ x ∈ G.blts, X.mg x = none
  gcd : G.gcd = true → X.mg "gcd" = some (.builtin "math.gcd")
  shp : ∀ sh ∈ G.shps, ShpOk X.prog X.w X.K X.mg X.base F k sh
  pshp : ∀ sh ∈ G.pshps, PShpOk X.prog X.w X.K X.mg X.base F k sh
theorem Sta.blk {G : Gm} {F : Nat → Sm} {k : Nat} {s : Stc} {X : Cx} (S : Sta G F k s X) (s0 : Shared) (H : Hp) (scope : Scope) (C : Addr) (cl : List (Str × Addr)) (fp : List Addr) :
    Sta G F k ⟨relS scope s.sc, fun x => scope.names.lookup x == some .cell, s.N⟩ (X.blk s0 H scope (compEnvC scope cl C X.env) fp) :=
  ⟨by rw [← S.sc]; rfl, S.N, S.nd, S.calm, S.gd, S.room, rfl, fun x h => h, S.blt, S.gcd, S.shp, S.pshp⟩

def visB (sc : Scope) (x : Str) : Bool := match sc.names.lookup x with
  | some .local => true
  | some .cell => true
  | some .free => true
  | _ => false
theorem vis_ok {sc : Scope} {x : Str} (h : visB sc x = true) : Vis sc x := by
  unfold visB at h
  split at h
  · exact .inl (by assumption)
  · exact .inr (.inl (by assumption))
  · exact .inr (.inr (by assumption))
  · cases h
def locB (sc : Scope) (x : Str) : Bool := match sc.names.lookup x with
  | some .local => true
  | some .cell => true
  | _ => false
theorem loc_ok {sc : Scope} {x : Str} (h : locB sc x = true) : Loc sc x := by
  unfold locB at h
  split at h
  · exact .inl (by assumption)
  · exact .inr (by assumption)
  · cases h
def isLocal (sc : Scope) (x : Str) : Bool := match sc.names.lookup x with
  | some .local => true
  | _ => false
theorem isLocal_ok {sc : Scope} {x : Str} (h : isLocal sc x = true) : sc.names.lookup x = some .local := by
  unfold isLocal at h
  split at h
  · assumption
  · cases h
def isCell (sc : Scope) (x : Str) : Bool := match sc.names.lookup x with
  | some .cell => true
  | _ => false
theorem isCell_ok {sc : Scope} {x : Str} (h : isCell sc x = true) : sc.names.lookup x = some .cell := by
  unfold isCell at h
  split at h
  · assumption
  · cases h
def glB (sc : Scope) (x : Str) : Bool := match sc.names.lookup x with
  | some .globalImplicit => true
  | _ => false
def nmOk (x : Str) : Bool := !(x == ("__debug__" : Str)) && !(x == ("__classdict__" : Str))
def nameB (s : Stc) (i : Nat) : Expr → Bool
  | .Name x _ => decide (s.N[i]? = some x) && visB s.sc x && nmOk x
  | _ => false
section
variable {G : Gm} {F : Nat → Sm} {k : Nat} {s : Stc} {X : Cx} {e : Expr}
theorem gl_ok {x : Str} (S : Sta G F k s X) (h : glB s.sc x = true) : Gl X x := by
  unfold glB at h
  split at h
  · show X.env.scope.names.lookup x = _
    rw [S.sc]; assumption
  · cases h
theorem name_ok {i : Nat} (S : Sta G F k s X) (h : nameB s i e = true) : ∃ x p, e = .Name x p ∧ X.N[i]? = some x ∧ Vis X.env.scope x ∧ (x == ("__debug__" : Str)) = false ∧ (x == ("__classdict__" : Str)) = false := by
  unfold nameB at h
  split at h
  · rename_i x p
    simp only [Bool.and_eq_true, decide_eq_true_eq, nmOk, Bool.not_eq_true'] at h
    exact ⟨x, p, rfl, by rw [S.N]; exact h.1.1, by rw [S.sc]; exact vis_ok h.1.2, h.2.1, h.2.2⟩
  · cases h
end
def chkOv (s : Stc) : C → Expr → Bool
  | .ov i, e => nameB s i e
  | _, _ => false
def chkK : D → Expr → Bool
  | .int i, .Constant (.int j) _ _ => decide (i = j)
  | .bool i, .Constant (.bool j) _ _ => decide (i = j)
  | .str i, .Constant (.str j) _ _ => decide (i = j)
  | .none, .Constant .none _ _ => true
  | _, _ => false
def bopB : Bop → Operator → Bool
  | .add, .Add | .sub, .Sub | .mul, .Mult | .div, .FloorDiv | .mod, .Mod | .pow, .Pow => true
  | _, _ => false
def copB : Cop → CmpOp → Bool
  | .eq, .Eq | .ne, .NotEq | .lt, .Lt | .le, .LtE | .gt, .Gt | .ge, .GtE | .isin, .In | .notin, .NotIn | .is, .Is | .isnot, .IsNot => true
  | _, _ => false
def tyB (G : Gm) (s : Stc) (t : Ty) : Expr → Bool
  | .Name x _ => decide (x = Str.ofString t.name) && glB s.sc x && G.blts.contains x
  | _ => false
def tysB (G : Gm) (s : Stc) : List Ty → List Expr → Bool
  | [], [] => true
  | t :: ts, e :: es => tyB G s t e && notStar e && tysB G s ts es
  | _, _ => false
def bltName : Blt → Str × Nat
  | .len => ("len", 1) | .all => ("all", 1) | .any => ("any", 1) | .sum => ("sum", 1) | .abs => ("abs", 1) | .int => ("int", 1) | .str => ("str", 1) | .tuple => ("tuple", 1)
  | .repr => ("repr", 1) | .max2 => ("max", 2) | .min2 => ("min", 2) | .gcd => ("gcd", 2) | .sorted => ("sorted", 1)
def notCall : Expr → Bool
  | .Call _ _ _ _ => false
  | _ => true
def notSet : Expr → Bool
  | .Set _ _ _ => false
  | _ => true
def cmpPlain (e : Expr) : Bool := notSet e
def ownOf (N : List Str) (own : List Nat) : List (Str × Nat) := own.map fun i => (N.getD i Str.empty, i)
theorem ownOf_snd (N : List Str) (own : List Nat) : (ownOf N own).map (·.2) = own := by
  unfold ownOf
  rw [List.map_map]
  induction own with
  | nil => rfl
  | cons a l ih => rw [List.map_cons, ih]; rfl
mutual
def chkG (s : Stc) : Tg → Expr → Bool
  | .nm i, .Name x _ => decide (s.N[i]? = some x) && locB s.sc x && (s.ow x || isLocal s.sc x)
  | .tp ts, .Tuple es _ _ => chkGs s ts es && es.all tgShape && decide (ts.length = es.length)
  | _, _ => false
def chkGs (s : Stc) : List Tg → List Expr → Bool
  | [], [] => true
  | t :: ts, e :: es => chkG s t e && tgShape e && chkGs s ts es
  | _, _ => false
end
def blkS (s : Stc) (scope : Scope) : Stc := ⟨relS scope s.sc, fun x => scope.names.lookup x == some .cell, s.N⟩
mutual
def chkE (G : Gm) : C → Stc → Expr → Bool
  | .bad, _, _ => true
  | .k d, _, e => chkK d e
  | .var i, s, e => nameB s i e
  | .ov _, _, _ => false
  | .tst _, _, _ => false
  | .bin op a b, s, e => match e with
    | .BinOp x o y _ => bopB op o && (chkOv s a x || chkE G a s x) && (chkOv s b y || chkE G b s y)
    | _ => false
  | .cmp op a b, s, e => match e with
    | .Compare x [o] [y] _ => copB op o && cmpPlain y && (chkOv s a x || chkE G a s x) && (chkOv s b y || chkE G b s y)
    | _ => false
  | .neg a, s, e => match e with
    | .UnaryOp .USub x _ => chkOv s a x || chkE G a s x
    | _ => false
  | .not a, s, e => match e with
    | .UnaryOp .Not x _ => chkOv s a x || chkE G a s x
    | _ => false
  | .and a b, s, e => match e with
    | .BoolOp .And [x, y] _ => (chkOv s a x || chkE G a s x) && chkE G b s y
    | .BoolOp .And (x :: y :: z :: r) p => (chkOv s a x || chkE G a s x) && chkE G b s (.BoolOp .And (y :: z :: r) p)
    | _ => false
  | .or a b, s, e => match e with
    | .BoolOp .Or [x, y] _ => (chkOv s a x || chkE G a s x) && chkE G b s y
    | .BoolOp .Or (x :: y :: z :: r) p => (chkOv s a x || chkE G a s x) && chkE G b s (.BoolOp .Or (y :: z :: r) p)
    | _ => false
  | .ite t a b, s, e => match e with
    | .IfExp c x y _ => chkT G t s c && chkE G a s x && chkE G b s y
    | _ => false
  | .tup es, s, e => match e with
    | .Tuple xs _ _ => chkEs G es s xs
    | _ => false
  | .lst es, s, e => match e with
    | .List xs _ => chkEs G es s xs
    | _ => false
  | .ix a b, s, e => match e with
    | .Subscript x y _ => (chkOv s a x || chkE G a s x) && (chkOv s b y || chkE G b s y) && plainIx y
    | _ => false
  | .cut a, s, e => match e with
    | .Subscript x (.Slice none none none _) _ => chkOv s a x || chkE G a s x
    | _ => false
  | .cutL a lo, s, e => match e with
    | .Subscript x (.Slice (some l) none none _) _ => (chkOv s a x || chkE G a s x) && (chkOv s lo l || chkE G lo s l)
    | _ => false
  | .cutH a hi, s, e => match e with
    | .Subscript x (.Slice none (some h) none _) _ => (chkOv s a x || chkE G a s x) && (chkOv s hi h || chkE G hi s h)
    | _ => false
  | .cutLH a lo hi, s, e => match e with
    | .Subscript x (.Slice (some l) (some h) none _) _ => (chkOv s a x || chkE G a s x) && (chkOv s lo l || chkE G lo s l) && (chkOv s hi h || chkE G hi s h)
    | _ => false
  | .rev a, s, e => match e with
    | .Subscript x (.Slice none none (some st) _) _ => (chkOv s a x || chkE G a s x) && stepA st
    | _ => false
  | .cat a b, s, e => match e with
    | .BinOp x .Add y _ => (chkOv s a x || chkE G a s x) && (chkOv s b y || chkE G b s y)
    | _ => false
  | .edict, _, e => match e with
    | .Dict [] [] _ => true
    | _ => false
  | .isi a ts, s, e => match e with
    | .Call (.Name f _) [x, .Tuple es _ _] [] _ => decide (f = "isinstance") && glB s.sc f && G.blts.contains f && notStar x && (chkOv s a x || chkE G a s x) && tysB G s ts es && decide (ts.length ≤ 100)
    | .Call (.Name f _) [x, y] [] _ => decide (f = "isinstance") && glB s.sc f && G.blts.contains f && notStar x && notStar y && (chkOv s a x || chkE G a s x) && (match ts with | [t] => tyB G s t y | _ => false)
    | _ => false
  | .app b es, s, e => match e with
    | .Call (.Name f _) (x :: xs) [] _ => decide (f = (bltName b).1) && glB s.sc f && (if b = .gcd then G.gcd else G.blts.contains f) && noStars (x :: xs) && chkOs G es s (x :: xs) && decide ((x :: xs).length = (bltName b).2)
    | _ => false
  | .lof a, s, e => match e with
    | .Call (.Name f _) [x] [] _ => decide (f = "list") && glB s.sc f && G.blts.contains f && notStar x && (chkOv s a x || chkE G a s x)
    | _ => false
  | .lrg1 a, s, e => match e with
    | .Call (.Name f _) [.Call (.Name g _) [x] [] _] [] _ => decide (f = "list") && glB s.sc f && G.blts.contains f && decide (g = "range") && glB s.sc g && G.blts.contains g && notStar x && (chkOv s a x || chkE G a s x)
    | _ => false
  | .lrg2 a b, s, e => match e with
    | .Call (.Name f _) [.Call (.Name g _) [x, y] [] _] [] _ => decide (f = "list") && glB s.sc f && G.blts.contains f && decide (g = "range") && glB s.sc g && G.blts.contains g && notStar x && notStar y && (chkOv s a x || chkE G a s x) && (chkOv s b y || chkE G b s y)
    | _ => false
  | .bits a, s, e => match e with
    | .Call (.Attribute x m ap) [] [] p => decide (m = "bit_length") && notCall x && (ap.endLine == p.line) && (chkOv s a x || chkE G a s x)
    | _ => false
  | .call si es ks, s, e => match e with
    | .Call (.Name f _) xs kws _ => (match G.shps[si]? with
      | some sh => decide (f = sh.x) && glB s.sc f && nmOk f && noStars xs && kwsNamed kws && decide (kwNames kws = sh.ks) && chkEs G es s xs && chkKs G ks s kws && !(xs.isEmpty && kws.isEmpty)
      | none => false)
    | _ => false
  | .callP si i es, s, e => match e with
    | .Call (.Name f _) (y :: xs) [] _ => (match G.pshps[si]? with
      | some sh => decide (f = sh.x) && glB s.sc f && nmOk f && noStars xs && nameB s i y && chkEs G es s xs
      | none => false)
    | _ => false
  | .purix i a, s, e => match e with
    | .Subscript x y _ => nameB s i x && chkE G a s y && plainIx y
    | _ => false
  | .comp T own it elt, s, e => match e with
    | .ListComp el [⟨tg, iter, [], 0⟩] scope _ => chkI G it s false tg iter && notSet iter && blkC s.N s.sc scope (ownOf s.N own) && chkG (blkS s scope) T tg && T.slots.all (fun i => own.contains i) && chkE G elt (blkS s scope) el
    | _ => false
  | .compIf T own it t elt, s, e => match e with
    | .ListComp el [⟨tg, iter, [c], 0⟩] scope _ => chkI G it s false tg iter && notSet iter && blkC s.N s.sc scope (ownOf s.N own) && chkG (blkS s scope) T tg && T.slots.all (fun i => own.contains i) && chkT G t (blkS s scope) c && chkE G elt (blkS s scope) el
    | _ => false
def chkT (G : Gm) : C → Stc → Expr → Bool
  | .tst a, s, e => plainTest e && (chkOv s a e || chkE G a s e)
  | .not a, s, e => match e with
    | .UnaryOp .Not x _ => chkT G a s x
    | _ => false
  | .and a b, s, e => match e with
    | .BoolOp .And [x, y] _ => chkT G a s x && chkT G b s y
    | .BoolOp .And (x :: y :: z :: r) p => chkT G a s x && chkT G b s (.BoolOp .And (y :: z :: r) p)
    | _ => false
  | .or a b, s, e => match e with
    | .BoolOp .Or [x, y] _ => chkT G a s x && chkT G b s y
    | .BoolOp .Or (x :: y :: z :: r) p => chkT G a s x && chkT G b s (.BoolOp .Or (y :: z :: r) p)
    | _ => false
  | .cmp op a b, s, e => match e with
    | .Compare x [o] [y] _ => copB op o && cmpPlain y && (chkOv s a x || chkE G a s x) && (chkOv s b y || chkE G b s y)
    | _ => false
  | _, _, _ => false
def chkEs (G : Gm) : Cs → Stc → List Expr → Bool
  | .nil, _, [] => true
  | .cons a r, s, e :: es => chkE G a s e && notStar e && chkEs G r s es
  | .star a r, s, .Starred e _ :: es => (chkOv s a e || chkE G a s e) && chkEs G r s es
  | _, _, _ => false
def chkOs (G : Gm) : Cs → Stc → List Expr → Bool
  | .nil, _, [] => true
  | .cons a r, s, e :: es => (chkOv s a e || chkE G a s e) && notStar e && chkOs G r s es
  | _, _, _ => false
def chkKs (G : Gm) : Cs → Stc → List Keyword → Bool
  | .nil, _, [] => true
  | .cons a r, s, ⟨_, e, _⟩ :: es => chkE G a s e && chkKs G r s es
  | _, _, _ => false
def chkI (G : Gm) : It → Stc → Bool → Expr → Expr → Bool
  | .seq a, s, st, _, e => chkE G a s e || (!st && chkOv s a e)
  | .rng1 es, s, _, _, e => match e with
    | .Call (.Name f _) [x] [] _ => decide (f = "range") && glB s.sc f && G.blts.contains f && noStars [x] && chkOs G es s [x]
    | _ => false
  | .rng2 es, s, _, _, e => match e with
    | .Call (.Name f _) [x, y] [] _ => decide (f = "range") && glB s.sc f && G.blts.contains f && noStars [x, y] && chkOs G es s [x, y]
    | _ => false
  | .rng3 es, s, _, _, e => match e with
    | .Call (.Name f _) [x, y, z] [] _ => decide (f = "range") && glB s.sc f && G.blts.contains f && noStars [x, y, z] && chkOs G es s [x, y, z]
    | _ => false
  | .zip es, s, _, tg, e => match tg, e with
    | .Tuple _ _ _, .Call (.Name f _) [x, y] [] _ => decide (f = "zip") && glB s.sc f && G.blts.contains f && noStars [x, y] && chkEs G es s [x, y]
    | _, _ => false
  | .enum es, s, _, tg, e => match tg, e with
    | .Tuple _ _ _, .Call (.Name f _) [x] [] _ => decide (f = "enumerate") && glB s.sc f && G.blts.contains f && noStars [x] && chkEs G es s [x]
    | _, _ => false
end
end PV

set_option Elab.async false
set_option linter.all false
set_option maxRecDepth 100000
set_option maxHeartbeats 8000000
namespace PV
open PySem PySem.Spec L2
open PyProof.Rows hiding St

/-! ### 23. what the checker says is so -/
theorem folded_ok {e : Expr} (h : notSet e = true) (env : PySem.Env) (x : Value) : foldedSetIterable e env x = pure x := by
  cases e <;> first | rfl | (simp [notSet] at h; done)
theorem marks_ok {e : Expr} (h : cmpPlain e = true) (op : CmpOp) : behindInMarks op e = false := by
  unfold cmpPlain at h
  cases e <;> first | rfl | (simp [notSet] at h; done)
theorem base_ok {e : Expr} (h : notCall e = true) (m : Str) (env : PySem.Env) : attributeBase e m env (eval e env) = eval e env := by
  cases e <;> first | rfl | (simp [notCall] at h; done)
theorem mB_not (m : Ms D) : mB (mNotV m) = mNotB (mB m) := by
  funext env p
  simp only [mB, mNotV, mNotB]
  cases h : m env p with
  | none => rfl
  | some r => obtain ⟨d, q⟩ := r; cases d <;> rfl
theorem mB_and (a b : Ms D) : mB (mAndV a b) = mAndB (mB a) (mB b) := by
  funext env p
  simp only [mB, mAndV, mAndB]
  cases h : a env p with
  | none => rfl
  | some r =>
    obtain ⟨d, q⟩ := r
    cases d <;> try rfl
    rename_i x
    cases x <;> rfl
theorem mB_or (a b : Ms D) : mB (mOrV a b) = mOrB (mB a) (mB b) := by
  funext env p
  simp only [mB, mOrV, mOrB]
  cases h : a env p with
  | none => rfl
  | some r =>
    obtain ⟨d, q⟩ := r
    cases d <;> try rfl
    rename_i x
    cases x <;> rfl
theorem and_t {a b : Bool} (h : (a && b) = true) : a = true ∧ b = true := by simpa using h
section
variable {G : Gm} {F : Nat → Sm} {k : Nat}
theorem ov_ok {s : Stc} {X : Cx} {c : C} {e : Expr} (S : Sta G F k s X) (h : chkOv s c e = true) : PO X (ev G F c) e := by
  unfold chkOv at h
  split at h
  · obtain ⟨x, p, rfl, h1, h2, h3, h4⟩ := name_ok S h
    rw [ev]
    exact po_var h1 h2 h3 h4
  · cases h
theorem o_ok {s : Stc} {X : Cx} {c : C} {e : Expr} (S : Sta G F k s X) (ih : ∀ e, chkE G c s e = true → PP X (ev G F c) e) (h : (chkOv s c e || chkE G c s e) = true) : PO X (ev G F c) e := by
  rw [Bool.or_eq_true] at h
  rcases h with h | h
  · exact ov_ok S h
  · exact (ih e h).o
theorem k_ok {X : Cx} {d : D} {e : Expr} (h : chkK d e = true) : PP X (mK d) e := by
  unfold chkK at h
  split at h
  · rw [of_decide_eq_true h]; exact pp_int
  · rw [of_decide_eq_true h]; exact pp_bool
  · rw [of_decide_eq_true h]; exact pp_str
  · exact pp_none
  · cases h
theorem bop_ok {X : Cx} {op : Bop} {o : Operator} {ma mb : Ms D} {a b : Expr} {pos : Pos} (h : bopB op o = true) (ha : PO X ma a) (hb : PO X mb b) : PP X (m2 (gBop op) ma mb) (.BinOp a o b pos) := by
  cases op with
  | add =>
    obtain rfl : o = .Add := by cases o <;> first | rfl | exact absurd h Bool.false_ne_true
    exact pp_bin op_add3 opp_add ha hb
  | sub =>
    obtain rfl : o = .Sub := by cases o <;> first | rfl | exact absurd h Bool.false_ne_true
    exact pp_bin op_sub opp_sub ha hb
  | mul =>
    obtain rfl : o = .Mult := by cases o <;> first | rfl | exact absurd h Bool.false_ne_true
    exact pp_bin op_mulR opp_mul ha hb
  | div =>
    obtain rfl : o = .FloorDiv := by cases o <;> first | rfl | exact absurd h Bool.false_ne_true
    exact pp_bin op_divN opp_div ha hb
  | mod =>
    obtain rfl : o = .Mod := by cases o <;> first | rfl | exact absurd h Bool.false_ne_true
    exact pp_bin op_modN opp_mod ha hb
  | pow =>
    obtain rfl : o = .Pow := by cases o <;> first | rfl | exact absurd h Bool.false_ne_true
    exact pp_bin op_powW opp_pow ha hb
theorem pf_cat {X : Cx} {ma mb : Ms D} {a b : Expr} {pos : Pos} (ha : PO X ma a) (hb : PO X mb b) : PF X (mCat ma mb) (.BinOp a .Add b pos) :=
  pe_weak (pe_op op_cat ha hb) fun σ H Q ⟨ap, Hf, env, p, ds, p', s, q, k⟩ => by
    unfold mCat at q
    split at q
    · rename_i xs p1 h1
      split at q
      · rename_i ys p2 h2
        split at q
        · rename_i hz
          cases q
          refine ⟨ap, Hf, env, p, _, p1, s, h1, fun H1 Hf1 x x1 rx => ?_⟩
          refine ⟨ap, Hf1, env, p1, _, _, s.ext x1, h2, fun H2 Hf2 y x2 ry => ?_⟩
          obtain ⟨c, vs, rfl, g1, g2⟩ := (rx.ext x2.ext).list x2.fz
          obtain ⟨d, ws, rfl, g3, g4⟩ := ry.list x2.fz
          exact ⟨c, d, vs, ws, rfl, rfl, g1, g3, by rw [g2.len, g4.len]; exact size_ok hz, fun q n => k _ Hf2 q _ ((x1.trans x2).trans (Nx.laid x2.fz x2.pur n)) (h_new (x1.trans x2) n) upd_same (fz_none x2.fz n) (g2.append g4)⟩
        · cases q
      · cases q
    · cases q
theorem pp_edict {X : Cx} {pos : Pos} : PP X (mK (.dict [])) (.Dict [] [] pos) := pe_weak pe_dnewK fun σ H Q ⟨ap, Hf, env, p, d, p', s, q, k⟩ => by
  cases q
  intro a n
  have hf := fz_none s.fz n
  refine k _ (upd Hf a (.dK [])) _ ((Nx.laid s.fz s.pur n).freeze n upd_same hf (s.pur.ne n)) (.dic upd_same)
theorem units_of {s : Stc} {X : Cx} (S : Sta G F k s X) : X.A.units + 70 < cLine := by
  have := S.room.un
  omega
theorem cop_ok {s : Stc} {X : Cx} (S : Sta G F k s X) {op : Cop} {o : CmpOp} {ma mb : Ms D} {a b : Expr} {pos : Pos} (h : copB op o = true) (hm : ∀ o, behindInMarks o b = false) (ha : PO X ma a) (hb : PO X mb b) : PP X (m2 (gCop op) ma mb) (.Compare a [o] [b] pos) ∧ PB X (mB (m2 (gCop op) ma mb)) (.Compare a [o] [b] pos) := by
  have hu := units_of S
  cases op with
  | eq =>
    obtain rfl : o = .Eq := by cases o <;> first | rfl | exact absurd h Bool.false_ne_true
    exact ⟨pp_cmp (op_eqX (by omega)) opp_eq ha hb (hm _), pb_cmp (op_eqX (by omega)) opp_eq ha hb (hm _)⟩
  | ne =>
    obtain rfl : o = .NotEq := by cases o <;> first | rfl | exact absurd h Bool.false_ne_true
    exact ⟨pp_cmp (op_neX (by omega)) opp_ne ha hb (hm _), pb_cmp (op_neX (by omega)) opp_ne ha hb (hm _)⟩
  | lt =>
    obtain rfl : o = .Lt := by cases o <;> first | rfl | exact absurd h Bool.false_ne_true
    exact ⟨pp_cmp (op_ltX (by omega)) opp_lt ha hb (hm _), pb_cmp (op_ltX (by omega)) opp_lt ha hb (hm _)⟩
  | le =>
    obtain rfl : o = .LtE := by cases o <;> first | rfl | exact absurd h Bool.false_ne_true
    exact ⟨pp_cmp op_le opp_le ha hb (hm _), pb_cmp op_le opp_le ha hb (hm _)⟩
  | gt =>
    obtain rfl : o = .Gt := by cases o <;> first | rfl | exact absurd h Bool.false_ne_true
    exact ⟨pp_cmp op_gt opp_gt ha hb (hm _), pb_cmp op_gt opp_gt ha hb (hm _)⟩
  | ge =>
    obtain rfl : o = .GtE := by cases o <;> first | rfl | exact absurd h Bool.false_ne_true
    exact ⟨pp_cmp op_ge opp_ge ha hb (hm _), pb_cmp op_ge opp_ge ha hb (hm _)⟩
  | isin =>
    obtain rfl : o = .In := by cases o <;> first | rfl | exact absurd h Bool.false_ne_true
    exact ⟨pp_cmp (op_inD (by omega)) opp_in ha hb (hm _), pb_cmp (op_inD (by omega)) opp_in ha hb (hm _)⟩
  | notin =>
    obtain rfl : o = .NotIn := by cases o <;> first | rfl | exact absurd h Bool.false_ne_true
    exact ⟨pp_cmp (op_notInD (by omega)) opp_notIn ha hb (hm _), pb_cmp (op_notInD (by omega)) opp_notIn ha hb (hm _)⟩
  | is =>
    obtain rfl : o = .Is := by cases o <;> first | rfl | exact absurd h Bool.false_ne_true
    exact ⟨pp_cmp op_isN opp_is ha hb (hm _), pb_cmp op_isN opp_is ha hb (hm _)⟩
  | isnot =>
    obtain rfl : o = .IsNot := by cases o <;> first | rfl | exact absurd h Bool.false_ne_true
    exact ⟨pp_cmp op_notN opp_isNot ha hb (hm _), pb_cmp op_notN opp_isNot ha hb (hm _)⟩
theorem blt_none {s : Stc} {X : Cx} (S : Sta G F k s X) {x : Str} (h : G.blts.contains x = true) : X.mg x = none := S.blt x (by simpa using h)
theorem boot_ty (t : Ty) : bootBuiltins (Str.ofString t.name) = some (.type t.name) := by cases t <;> decide +kernel
theorem ty_nm (t : Ty) : Str.ofString t.name ≠ "__name__" ∧ (Str.ofString t.name == ("__debug__" : Str)) = false := by cases t <;> decide +kernel
theorem ty_ok {s : Stc} {X : Cx} (S : Sta G F k s X) {t : Ty} {e : Expr} (h : tyB G s t e = true) : PTy X t e := by
  unfold tyB at h
  split at h
  · obtain ⟨h1, h3⟩ := and_t h
    obtain ⟨h1, h2⟩ := and_t h1
    rw [of_decide_eq_true h1] at h2 h3 ⊢
    exact pty_mk (gl_ok S h2) (blt_none S h3) (boot_ty t) (ty_nm t).1 (ty_nm t).2
  · cases h
theorem tys_ok {s : Stc} {X : Cx} (S : Sta G F k s X) : ∀ {ts : List Ty} {es : List Expr}, tysB G s ts es = true → PTys X ts es
  | [], [], _ => .nil
  | [], _ :: _, h => by simp [tysB] at h
  | _ :: _, [], h => by simp [tysB] at h
  | t :: ts, e :: es, h => by
    rw [tysB] at h
    obtain ⟨h1, h3⟩ := and_t h
    obtain ⟨h1, h2⟩ := and_t h1
    exact .cons (ty_ok S h1) h2 (tys_ok S h3)
/-- f(e, ..), f a module's name for a built-in function -/
theorem pp_gcd {s : Stc} {X : Cx} {ms : Ms (List D)} {e : Expr} {es : List Expr} {p0 pos : Pos} (hg : Gl X "gcd") (hm : X.mg "gcd" = some (.builtin "math.gcd")) (ha : PRO X ms (e :: es)) (hs : noStars (e :: es) = true) : PP X (mApp gGcd ms) (.Call (.Name "gcd" p0) (e :: es) [] pos) :=
  pe_weak (pe_callBfun cr_gcd hg hm ha (by decide) (no_stars1 hs X.env) (backTo_plain (no_stars2 hs) pos)) fun σ H Q ⟨ap, Hf, env, p, d, p', s, q, c⟩ => by
    obtain ⟨ds, h3, h4⟩ := mApp_some q
    refine ⟨ap, Hf, env, p, ds, p', s, h3, fun H1 Hf1 vs x1 r1 => ?_⟩
    exact cp_gcd ap p' vs ds d H1 Hf1 Q x1.fz x1.pur r1 h4 fun H' Hf' v x2 r2 => c H' Hf' v (x1.trans x2) r2
theorem app_ok {s : Stc} {X : Cx} (S : Sta G F k s X) {b : Blt} {ms : Ms (List D)} {e : Expr} {es : List Expr} {p0 pos : Pos} (hg : Gl X (bltName b).1) (hm : (if b = .gcd then G.gcd else G.blts.contains (bltName b).1) = true) (ha : PRO X ms (e :: es)) (hs : noStars (e :: es) = true) :
    PP X (mApp (gBlt b) ms) (.Call (.Name (bltName b).1 p0) (e :: es) [] pos) := by
  have hu := units_of S
  cases b with
  | gcd => rw [if_pos rfl] at hm; exact pp_gcd (s := s) hg (S.gcd hm) ha hs
  | len => exact pp_callB call_len_seq cp_len hg (blt_none S (by simpa using hm)) (by decide +kernel) (by decide +kernel) (by decide +kernel) ha hs
  | all => exact pp_callB (cr_all S.calm) cp_all hg (blt_none S (by simpa using hm)) (by decide +kernel) (by decide +kernel) (by decide +kernel) ha hs
  | any => exact pp_callB (cr_any S.calm) cp_any hg (blt_none S (by simpa using hm)) (by decide +kernel) (by decide +kernel) (by decide +kernel) ha hs
  | sum => exact pp_callB (cr_sum S.calm) cp_sum hg (blt_none S (by simpa using hm)) (by decide +kernel) (by decide +kernel) (by decide +kernel) ha hs
  | abs => exact pp_callB call_abs cp_abs hg (blt_none S (by simpa using hm)) (by decide +kernel) (by decide +kernel) (by decide +kernel) ha hs
  | int => exact pp_callT call_int1 cp_int hg (blt_none S (by simpa using hm)) (by decide +kernel) (by decide +kernel) (by decide +kernel) ha hs
  | str => exact pp_callT call_str_int cp_str hg (blt_none S (by simpa using hm)) (by decide +kernel) (by decide +kernel) (by decide +kernel) ha hs
  | tuple => exact pp_callT call_tuple_of cp_tuple hg (blt_none S (by simpa using hm)) (by decide +kernel) (by decide +kernel) (by decide +kernel) ha hs
  | repr => exact pp_callB (call_repr S.gd (by omega)) cp_repr hg (blt_none S (by simpa using hm)) (by decide +kernel) (by decide +kernel) (by decide +kernel) ha hs
  | max2 => exact pp_callB (call_max2 S.calm) cp_max2 hg (blt_none S (by simpa using hm)) (by decide +kernel) (by decide +kernel) (by decide +kernel) ha hs
  | min2 => exact pp_callB (call_min2 S.calm) cp_min2 hg (blt_none S (by simpa using hm)) (by decide +kernel) (by decide +kernel) (by decide +kernel) ha hs
  | sorted => exact pp_callB (call_sortD S.room) cp_sorted hg (blt_none S (by simpa using hm)) (by decide +kernel) (by decide +kernel) (by decide +kernel) ha hs
theorem nm_ok {x : Str} (h : nmOk x = true) : (x == ("__debug__" : Str)) = false ∧ (x == ("__classdict__" : Str)) = false := by
  simpa [nmOk] using h
theorem call_ok {s : Stc} {X : Cx} (S : Sta G F k s X) {si : Nat} {ms mk : Ms (List D)} {f : Str} {xs : List Expr} {kws : List Keyword} {sh : Shp} {p0 pos : Pos} (hsh : G.shps[si]? = some sh) (hf : f = sh.x) (hg : Gl X f) (hn : nmOk f = true) (hs : noStars xs = true) (hk : kwsNamed kws = true)
    (hks : kwNames kws = sh.ks) (ha : PR X ms xs) (hkw : PKw X mk kws) (hne : (xs.isEmpty && kws.isEmpty) = false) (h0 : xs = [] → ms = mNil) (h1 : kws = [] → mk = mNil) : PX X (mCallS G F si ms mk) (.Call (.Name f p0) xs kws pos) := by
  obtain ⟨fa, fd, ps, dvs, dls, c1, c2, c3, c4, c5, c6, c7⟩ := S.shp sh (List.mem_of_getElem? hsh)
  unfold mCallS
  rw [hsh]
  subst hf
  simp only
  rw [← c7, ← hks]
  rw [← hks] at c4
  cases xs with
  | nil =>
    rw [h0 rfl]
    exact pp_gk0 c1 S.room S.gd hg c2 c3 c4 c5 c6 hkw hk (nm_ok hn).1
  | cons e es =>
    cases kws with
    | nil =>
      rw [h1 rfl]
      exact pp_g1 c1 S.room S.gd hg c2 c3 c4 c5 c6 ha (nm_ok hn).1 hs
    | cons w ws => exact pp_gk1 c1 S.room S.gd hg c2 c3 c4 c5 c6 ha hs hkw hk (nm_ok hn).1
theorem callP_ok {s : Stc} {X : Cx} (S : Sta G F k s X) {si i : Nat} {ms : Ms (List D)} {f : Str} {y : Expr} {xs : List Expr} {sh : PShp} {p0 pos : Pos} (hsh : G.pshps[si]? = some sh) (hf : f = sh.x) (hg : Gl X f) (hn : nmOk f = true) (hs : noStars xs = true) (hy : nameB s i y = true) (ha : PR X ms xs) : PX X (mCallT G F si i ms) (.Call (.Name f p0) (y :: xs) [] pos) := by
  obtain ⟨fa, fd, ps, c1, c2, c3, c4, c5⟩ := S.pshp sh (List.mem_of_getElem? hsh)
  unfold mCallT
  rw [hsh]
  subst hf
  obtain ⟨x, p, rfl, h1, h2, h3, h4⟩ := name_ok S hy
  simp only
  rw [← c5]
  exact pp_gp c1 S.room S.gd hg c2 c3 c4 h1 h2 h3 h4 ha (nm_ok hn).1 hs
end
mutual
theorem tg_ok {G : Gm} {F : Nat → Sm} {k : Nat} : ∀ (T : Tg) {s : Stc} {X : Cx} {e : Expr}, Sta G F k s X → chkG s T e = true → PTg X T e
  | .nm i, s, X, e, S, h => by
    unfold chkG at h
    split at h
    · rename_i i' x p heq
      cases heq
      obtain ⟨h1, h3⟩ := and_t h
      obtain ⟨h1, h2⟩ := and_t h1
      refine ptg_nm S.nd (by rw [S.N]; exact of_decide_eq_true h1) (by rw [S.sc]; exact loc_ok h2) ?_
      rw [Bool.or_eq_true] at h3
      rcases h3 with h3 | h3
      · exact .inl (S.ow _ h3)
      · exact .inr (by rw [S.sc]; exact isLocal_ok h3)
    · rename_i heq; cases heq
    · cases h
  | .tp ts, s, X, e, S, h => by
    unfold chkG at h
    split at h
    · rename_i heq; cases heq
    · rename_i ts' es n p heq
      cases heq
      obtain ⟨h1, h3⟩ := and_t h
      obtain ⟨h1, h2⟩ := and_t h1
      exact ptg_tp S.calm (tgs_ok ts S h1) h2 (of_decide_eq_true h3)
    · cases h
theorem tgs_ok {G : Gm} {F : Nat → Sm} {k : Nat} : ∀ (ts : List Tg) {s : Stc} {X : Cx} {es : List Expr}, Sta G F k s X → chkGs s ts es = true → PTgs X ts es
  | [], s, X, [], S, h => ptgs_nil
  | [], s, X, _ :: _, S, h => by simp [chkGs] at h
  | _ :: _, s, X, [], S, h => by simp [chkGs] at h
  | t :: ts, s, X, e :: es, S, h => by
    rw [chkGs] at h
    obtain ⟨h1, h3⟩ := and_t h
    obtain ⟨h1, h2⟩ := and_t h1
    exact ptgs_cons (tg_ok t S h1) (tgs_ok ts S h3) h2
end
end PV

set_option Elab.async false
set_option linter.all false
set_option maxRecDepth 100000
set_option maxHeartbeats 8000000
namespace PV
open PySem PySem.Spec L2
open PyProof.Rows hiding St

/-! ### 24. soundness of expressions -/
theorem pw_all (op : BoolOp) {X : Cx} {m : Ms Bool} {xs : List Expr} {p p' : Pos} (h : PB X m (.BoolOp op xs p)) : PWB X m (.BoolOp op xs p') := ⟨fun wh pins s σ H Q I q => h.run pins s σ H Q I q⟩
section
variable {G : Gm} {F : Nat → Sm} {k : Nat}
theorem comp_ok {s : Stc} {X : Cx} (S : Sta G F k s X) {T : Tg} {own : List Nat} {mi : Ms (List D)} {mt : Ms Bool} {me : Ms D} {el tg iter : Expr} {ifs : List Expr} {scope : Scope} {pos : Pos} (hi : PIt X mi false tg iter) (hn : notSet iter = true) (hb : blkC s.N s.sc scope (ownOf s.N own) = true)
    (hT : ∀ {X' : Cx}, Sta G F k (blkS s scope) X' → PTg X' T tg) (hsub : T.slots.all (fun i => own.contains i) = true) (ht : ∀ {X' : Cx}, Sta G F k (blkS s scope) X' → PTsB X' mt ifs) (he : ∀ {X' : Cx}, Sta G F k (blkS s scope) X' → PP X' me el) : PF X (mComp T own mi mt me) (.ListComp el [⟨tg, iter, ifs, 0⟩] scope pos) := by
  have ok : BlkOk X.N X.env.scope scope (ownOf s.N own) := by rw [S.N, S.sc]; exact blkOk_by hb
  have st : ∀ (s0 : Shared) (H : Hp) (C : Addr) (cl : List (Str × Addr)) (fp : List Addr), Sta G F k (blkS s scope) (X.blk s0 H scope (compEnvC scope cl C X.env) fp) := fun s0 H C cl fp => S.blk s0 H scope C cl fp
  have := pf_comp (X := X) (pos := pos) S.calm S.nd hi ok (fun s0 H C cl fp => hT (st s0 H C cl fp)) (fun s0 H C cl fp => ht (st s0 H C cl fp)) (fun s0 H C cl fp => he (st s0 H C cl fp)) (fun i hi => by
    rw [ownOf_snd]
    rw [List.all_eq_true] at hsub
    simpa using hsub i hi) (folded_ok hn X.env)
  rw [ownOf_snd] at this
  exact this
end
theorem x_call {G : Gm} {F : Nat → Sm} {k : Nat} (si : Nat) (es ks : Cs) {s : Stc} {X : Cx} {e : Expr} (S : Sta G F k s X) (i1 : ∀ xs, chkEs G es s xs = true → PR X (evs G F es) xs) (i2 : ∀ xs, chkKs G ks s xs = true → PKw X (evs G F ks) xs) (h : chkE G (.call si es ks) s e = true) : PX X (mCallS G F si (evs G F es) (evs G F ks)) e := by
  unfold chkE at h
  split at h
  · split at h
    · rename_i sh hsh
      obtain ⟨h, h9⟩ := and_t h
      obtain ⟨h, h8⟩ := and_t h
      obtain ⟨h, h7⟩ := and_t h
      obtain ⟨h, h6⟩ := and_t h
      obtain ⟨h, h5⟩ := and_t h
      obtain ⟨h, h4⟩ := and_t h
      obtain ⟨h, h3⟩ := and_t h
      obtain ⟨h1, h2⟩ := and_t h
      refine call_ok S hsh (of_decide_eq_true h1) (gl_ok S h2) h3 h4 h5 (of_decide_eq_true h6) (i1 _ h7) (i2 _ h8) (by rw [Bool.not_eq_true'] at h9; exact h9) (fun z => ?_) (fun z => ?_)
      · subst z
        cases es with
        | nil => rw [evs]
        | cons a r => simp [chkEs] at h7
        | star a r => simp [chkEs] at h7
      · subst z
        cases ks with
        | nil => rw [evs]
        | cons a r => simp [chkKs] at h8
        | star a r => simp [chkKs] at h8
    · cases h
  · cases h
theorem x_callP {G : Gm} {F : Nat → Sm} {k : Nat} (si i : Nat) (es : Cs) {s : Stc} {X : Cx} {e : Expr} (S : Sta G F k s X) (i1 : ∀ xs, chkEs G es s xs = true → PR X (evs G F es) xs) (h : chkE G (.callP si i es) s e = true) : PX X (mCallT G F si i (evs G F es)) e := by
  unfold chkE at h
  split at h
  · split at h
    · rename_i sh hsh
      obtain ⟨h, h6⟩ := and_t h
      obtain ⟨h, h5⟩ := and_t h
      obtain ⟨h, h4⟩ := and_t h
      obtain ⟨h, h3⟩ := and_t h
      obtain ⟨h1, h2⟩ := and_t h
      exact callP_ok S hsh (of_decide_eq_true h1) (gl_ok S h2) h3 h4 h5 (i1 _ h6)
    · cases h
  · cases h
theorem star_ok {G : Gm} {a : C} {r : Cs} {s : Stc} {es : List Expr} (h : chkEs G (.star a r) s es = true) : ∃ e p es', es = .Starred e p :: es' ∧ (chkOv s a e || chkE G a s e) = true ∧ chkEs G r s es' = true := by
  unfold chkEs at h
  split at h
  · rename_i heq; cases heq
  · rename_i heq; cases heq
  · rename_i heq
    cases heq
    obtain ⟨h1, h2⟩ := and_t h
    exact ⟨_, _, _, rfl, h1, h2⟩
  · cases h
mutual
theorem e_ok {G : Gm} {F : Nat → Sm} {k : Nat} : ∀ (c : C) {s : Stc} {X : Cx} {e : Expr}, Sta G F k s X → chkE G c s e = true → PP X (ev G F c) e
  | .bad, s, X, e, S, h => by rw [ev]; exact pe_bad
  | .k d, s, X, e, S, h => by rw [ev]; rw [chkE] at h; exact k_ok h
  | .var i, s, X, e, S, h => by
    rw [chkE] at h
    rw [ev]
    obtain ⟨x, p, rfl, h1, h2, h3, h4⟩ := name_ok S h
    exact pp_var h1 h2 h3 h4
  | .ov _, s, X, e, S, h => by rw [chkE] at h; cases h
  | .tst _, s, X, e, S, h => by rw [chkE] at h; cases h
  | .bin op a b, s, X, e, S, h => by
    unfold chkE at h
    rw [ev]
    split at h
    · obtain ⟨h1, h3⟩ := and_t h
      obtain ⟨h1, h2⟩ := and_t h1
      exact bop_ok h1 (o_ok S (fun _ q => e_ok a S q) h2) (o_ok S (fun _ q => e_ok b S q) h3)
    · cases h
  | .cmp op a b, s, X, e, S, h => by
    unfold chkE at h
    rw [ev]
    split at h
    · obtain ⟨h1, h3⟩ := and_t h
      obtain ⟨h1, h2⟩ := and_t h1
      obtain ⟨h1, h4⟩ := and_t h1
      exact (cop_ok S h1 (fun o => marks_ok h4 o) (o_ok S (fun _ q => e_ok a S q) h2) (o_ok S (fun _ q => e_ok b S q) h3)).1
    · cases h
  | .neg a, s, X, e, S, h => by
    unfold chkE at h
    rw [ev]
    split at h
    · exact pp_neg (o_ok S (fun _ q => e_ok a S q) h)
    · cases h
  | .not a, s, X, e, S, h => by
    unfold chkE at h
    rw [ev]
    split at h
    · exact pp_not (o_ok S (fun _ q => e_ok a S q) h)
    · cases h
  | .and a b, s, X, e, S, h => by
    unfold chkE at h
    rw [ev]
    split at h
    · obtain ⟨h1, h2⟩ := and_t h
      exact pp_and (o_ok S (fun _ q => e_ok a S q) h1) (pp_one (e_ok b S h2))
    · obtain ⟨h1, h2⟩ := and_t h
      exact pp_and (o_ok S (fun _ q => e_ok a S q) h1) (e_ok b S h2)
    · cases h
  | .or a b, s, X, e, S, h => by
    unfold chkE at h
    rw [ev]
    split at h
    · obtain ⟨h1, h2⟩ := and_t h
      exact pp_or (o_ok S (fun _ q => e_ok a S q) h1) (pp_one (e_ok b S h2))
    · obtain ⟨h1, h2⟩ := and_t h
      exact pp_or (o_ok S (fun _ q => e_ok a S q) h1) (e_ok b S h2)
    · cases h
  | .ite t a b, s, X, e, S, h => by
    unfold chkE at h
    rw [ev]
    split at h
    · obtain ⟨h1, h3⟩ := and_t h
      obtain ⟨h1, h2⟩ := and_t h1
      exact pp_if (t_ok t S h1) (e_ok a S h2) (e_ok b S h3)
    · cases h
  | .tup es, s, X, e, S, h => by
    unfold chkE at h
    rw [ev]
    split at h
    · exact pp_tup (es_ok es S h)
    · cases h
  | .lst es, s, X, e, S, h => by
    unfold chkE at h
    rw [ev]
    split at h
    · exact (pf_lst (es_ok es S h)).p
    · cases h
  | .ix a b, s, X, e, S, h => by
    unfold chkE at h
    rw [ev]
    split at h
    · obtain ⟨h1, h3⟩ := and_t h
      obtain ⟨h1, h2⟩ := and_t h1
      exact pp_ix (o_ok S (fun _ q => e_ok a S q) h1) (o_ok S (fun _ q => e_ok b S q) h2) h3
    · cases h
  | .cut a, s, X, e, S, h => by
    unfold chkE at h
    rw [ev]
    split at h
    · exact (pf_cut (o_ok S (fun _ q => e_ok a S q) h) ppt_none ppt_none).p
    · cases h
  | .cutL a lo, s, X, e, S, h => by
    unfold chkE at h
    rw [ev]
    split at h
    · obtain ⟨h1, h2⟩ := and_t h
      exact (pf_cut (o_ok S (fun _ q => e_ok a S q) h1) (ppt_some (o_ok S (fun _ q => e_ok lo S q) h2)) ppt_none).p
    · cases h
  | .cutH a hi, s, X, e, S, h => by
    unfold chkE at h
    rw [ev]
    split at h
    · obtain ⟨h1, h2⟩ := and_t h
      exact (pf_cut (o_ok S (fun _ q => e_ok a S q) h1) ppt_none (ppt_some (o_ok S (fun _ q => e_ok hi S q) h2))).p
    · cases h
  | .cutLH a lo hi, s, X, e, S, h => by
    unfold chkE at h
    rw [ev]
    split at h
    · obtain ⟨h1, h3⟩ := and_t h
      obtain ⟨h1, h2⟩ := and_t h1
      exact (pf_cut (o_ok S (fun _ q => e_ok a S q) h1) (ppt_some (o_ok S (fun _ q => e_ok lo S q) h2)) (ppt_some (o_ok S (fun _ q => e_ok hi S q) h3))).p
    · cases h
  | .rev a, s, X, e, S, h => by
    unfold chkE at h
    rw [ev]
    split at h
    · obtain ⟨h1, h2⟩ := and_t h
      exact (pf_rev1 (o_ok S (fun _ q => e_ok a S q) h1) h2).p
    · cases h
  | .cat a b, s, X, e, S, h => by
    unfold chkE at h
    rw [ev]
    split at h
    · obtain ⟨h1, h2⟩ := and_t h
      exact (pf_cat (o_ok S (fun _ q => e_ok a S q) h1) (o_ok S (fun _ q => e_ok b S q) h2)).p
    · cases h
  | .edict, s, X, e, S, h => by
    unfold chkE at h
    rw [ev]
    split at h
    · exact pp_edict
    · cases h
  | .isi a ts, s, X, e, S, h => by
    unfold chkE at h
    rw [ev]
    split at h
    · obtain ⟨h, h7⟩ := and_t h
      obtain ⟨h, h6⟩ := and_t h
      obtain ⟨h, h5⟩ := and_t h
      obtain ⟨h, h4⟩ := and_t h
      obtain ⟨h, h3⟩ := and_t h
      obtain ⟨h1, h2⟩ := and_t h
      rw [of_decide_eq_true h1] at h2 h3 ⊢
      exact pp_isiT (gl_ok S h2) (blt_none S h3) (o_ok S (fun _ q => e_ok a S q) h5) (tys_ok S h6) (of_decide_eq_true h7) h4
    · obtain ⟨h, h7⟩ := and_t h
      obtain ⟨h, h6⟩ := and_t h
      obtain ⟨h, h5⟩ := and_t h
      obtain ⟨h, h4⟩ := and_t h
      obtain ⟨h, h3⟩ := and_t h
      obtain ⟨h1, h2⟩ := and_t h
      rw [of_decide_eq_true h1] at h2 h3 ⊢
      split at h7
      · exact pp_isi1 (gl_ok S h2) (blt_none S h3) (o_ok S (fun _ q => e_ok a S q) h6) (ty_ok S h7) h4 h5
      · cases h7
    · cases h
  | .app b es, s, X, e, S, h => by
    unfold chkE at h
    rw [ev]
    split at h
    · obtain ⟨h, h6⟩ := and_t h
      obtain ⟨h, h5⟩ := and_t h
      obtain ⟨h, h4⟩ := and_t h
      obtain ⟨h, h3⟩ := and_t h
      obtain ⟨h1, h2⟩ := and_t h
      rw [of_decide_eq_true h1] at h2 h3 ⊢
      exact app_ok S (gl_ok S h2) h3 (os_ok es S h5) h4
    · cases h
  | .lof a, s, X, e, S, h => by
    unfold chkE at h
    rw [ev]
    split at h
    · obtain ⟨h, h5⟩ := and_t h
      obtain ⟨h, h4⟩ := and_t h
      obtain ⟨h, h3⟩ := and_t h
      obtain ⟨h1, h2⟩ := and_t h
      rw [of_decide_eq_true h1] at h2 h3 ⊢
      exact (pf_callT call_list_of cf_list (gl_ok S h2) (blt_none S h3) (by decide +kernel) (by decide +kernel) (by decide +kernel) (pro_cons (o_ok S (fun _ q => e_ok a S q) h5) pro_nil h4) (by simp [noStars, h4])).p
    · cases h
  | .lrg1 a, s, X, e, S, h => by
    unfold chkE at h
    rw [ev]
    split at h
    · obtain ⟨h, h8⟩ := and_t h
      obtain ⟨h, h7⟩ := and_t h
      obtain ⟨h, h6⟩ := and_t h
      obtain ⟨h, h5⟩ := and_t h
      obtain ⟨h, h4⟩ := and_t h
      obtain ⟨h, h3⟩ := and_t h
      obtain ⟨h1, h2⟩ := and_t h
      rw [of_decide_eq_true h1] at h2 h3 ⊢
      rw [of_decide_eq_true h4] at h5 h6 ⊢
      exact (pf_lrg1 S.calm (gl_ok S h2) (blt_none S h3) (gl_ok S h5) (blt_none S h6) (o_ok S (fun _ q => e_ok a S q) h8) h7).p
    · cases h
  | .lrg2 a b, s, X, e, S, h => by
    unfold chkE at h
    rw [ev]
    split at h
    · obtain ⟨h, h10⟩ := and_t h
      obtain ⟨h, h9⟩ := and_t h
      obtain ⟨h, h8⟩ := and_t h
      obtain ⟨h, h7⟩ := and_t h
      obtain ⟨h, h6⟩ := and_t h
      obtain ⟨h, h5⟩ := and_t h
      obtain ⟨h, h4⟩ := and_t h
      obtain ⟨h, h3⟩ := and_t h
      obtain ⟨h1, h2⟩ := and_t h
      rw [of_decide_eq_true h1] at h2 h3 ⊢
      rw [of_decide_eq_true h4] at h5 h6 ⊢
      exact (pf_lrg2 S.calm (gl_ok S h2) (blt_none S h3) (gl_ok S h5) (blt_none S h6) (o_ok S (fun _ q => e_ok a S q) h9) (o_ok S (fun _ q => e_ok b S q) h10) h7 h8).p
    · cases h
  | .bits a, s, X, e, S, h => by
    unfold chkE at h
    rw [ev]
    split at h
    · obtain ⟨h, h4⟩ := and_t h
      obtain ⟨h, h3⟩ := and_t h
      obtain ⟨h1, h2⟩ := and_t h
      rw [of_decide_eq_true h1]
      exact pp_bits (o_ok S (fun _ q => e_ok a S q) h4) (base_ok h2 _ _) h3
    · cases h
  | .call si es ks, s, X, e, S, h => by
    rw [ev]
    exact pp_x (x_call si es ks S (fun _ q => es_ok es S q) (fun _ q => ks_ok ks S q) h)
  | .callP si i es, s, X, e, S, h => by
    rw [ev]
    exact pp_x (x_callP si i es S (fun _ q => es_ok es S q) h)
  | .purix i a, s, X, e, S, h => by
    unfold chkE at h
    rw [ev]
    split at h
    · obtain ⟨h1, h3⟩ := and_t h
      obtain ⟨h1, h2⟩ := and_t h1
      obtain ⟨x, p, rfl, g1, g2, g3, g4⟩ := name_ok S h1
      exact pp_purIx g1 g2 g3 g4 (e_ok a S h2) h3
    · cases h
  | .comp T own it elt, s, X, e, S, h => by
    unfold chkE at h
    rw [ev]
    split at h
    · obtain ⟨h, h6⟩ := and_t h
      obtain ⟨h, h5⟩ := and_t h
      obtain ⟨h, h4⟩ := and_t h
      obtain ⟨h, h3⟩ := and_t h
      obtain ⟨h1, h2⟩ := and_t h
      exact (comp_ok S (i_ok it S h1) h2 h3 (fun S' => tg_ok T S' h4) h5 (fun S' => ptsb_nil) (fun S' => e_ok elt S' h6)).p
    · cases h
  | .compIf T own it t elt, s, X, e, S, h => by
    unfold chkE at h
    rw [ev]
    split at h
    · obtain ⟨h, h7⟩ := and_t h
      obtain ⟨h, h6⟩ := and_t h
      obtain ⟨h, h5⟩ := and_t h
      obtain ⟨h, h4⟩ := and_t h
      obtain ⟨h, h3⟩ := and_t h
      obtain ⟨h1, h2⟩ := and_t h
      exact (comp_ok S (i_ok it S h1) h2 h3 (fun S' => tg_ok T S' h4) h5 (fun S' => ptsb_one (t_ok t S' h6)) (fun S' => e_ok elt S' h7)).p
    · cases h
theorem t_ok {G : Gm} {F : Nat → Sm} {k : Nat} : ∀ (c : C) {s : Stc} {X : Cx} {e : Expr}, Sta G F k s X → chkT G c s e = true → PB X (mB (ev G F c)) e
  | .tst a, s, X, e, S, h => by
    rw [chkT] at h
    rw [ev]
    obtain ⟨h1, h2⟩ := and_t h
    exact pb_val (o_ok S (fun _ q => e_ok a S q) h2) h1
  | .not a, s, X, e, S, h => by
    unfold chkT at h
    rw [ev, mB_not]
    split at h
    · exact pb_not (t_ok a S h)
    · cases h
  | .and a b, s, X, e, S, h => by
    unfold chkT at h
    rw [ev, mB_and]
    split at h
    · obtain ⟨h1, h2⟩ := and_t h
      exact PW.pt (pwb_and (t_ok a S h1) (pwb_and1 (t_ok b S h2)))
    · rename_i x y z r p
      obtain ⟨h1, h2⟩ := and_t h
      exact PW.pt (pwb_and (t_ok a S h1) (pw_all .And (t_ok b S h2)))
    · cases h
  | .or a b, s, X, e, S, h => by
    unfold chkT at h
    rw [ev, mB_or]
    split at h
    · obtain ⟨h1, h2⟩ := and_t h
      exact PW.pt (pwb_or (t_ok a S h1) (pwb_or1 (t_ok b S h2)))
    · obtain ⟨h1, h2⟩ := and_t h
      exact PW.pt (pwb_or (t_ok a S h1) (pw_all .Or (t_ok b S h2)))
    · cases h
  | .cmp op a b, s, X, e, S, h => by
    unfold chkT at h
    rw [ev]
    split at h
    · obtain ⟨h1, h3⟩ := and_t h
      obtain ⟨h1, h2⟩ := and_t h1
      obtain ⟨h1, h4⟩ := and_t h1
      exact (cop_ok S h1 (fun o => marks_ok h4 o) (o_ok S (fun _ q => e_ok a S q) h2) (o_ok S (fun _ q => e_ok b S q) h3)).2
    · cases h
  | .bad, _, _, _, _, h | .k _, _, _, _, _, h | .var _, _, _, _, _, h | .ov _, _, _, _, _, h | .bin _ _ _, _, _, _, _, h | .neg _, _, _, _, _, h | .ite _ _ _, _, _, _, _, h | .tup _, _, _, _, _, h | .lst _, _, _, _, _, h | .ix _ _, _, _, _, _, h
  | .cut _, _, _, _, _, h | .cutL _ _, _, _, _, _, h | .cutH _ _, _, _, _, _, h | .cutLH _ _ _, _, _, _, _, h | .rev _, _, _, _, _, h | .cat _ _, _, _, _, _, h | .edict, _, _, _, _, h | .isi _ _, _, _, _, _, h | .app _ _, _, _, _, _, h | .lof _, _, _, _, _, h | .lrg1 _, _, _, _, _, h | .lrg2 _ _, _, _, _, _, h
  | .bits _, _, _, _, _, h | .call _ _ _, _, _, _, _, h | .callP _ _ _, _, _, _, _, h | .purix _ _, _, _, _, _, h | .comp _ _ _ _, _, _, _, _, h | .compIf _ _ _ _ _, _, _, _, _, h => by simp [chkT] at h
theorem es_ok {G : Gm} {F : Nat → Sm} {k : Nat} : ∀ (c : Cs) {s : Stc} {X : Cx} {es : List Expr}, Sta G F k s X → chkEs G c s es = true → PR X (evs G F c) es
  | .nil, s, X, [], S, h => by rw [evs]; exact pr_nil
  | .nil, s, X, _ :: _, S, h => by simp [chkEs] at h
  | .cons a r, s, X, [], S, h => by simp [chkEs] at h
  | .cons a r, s, X, e :: es, S, h => by
    rw [chkEs] at h
    rw [evs]
    obtain ⟨h1, h3⟩ := and_t h
    obtain ⟨h1, h2⟩ := and_t h1
    exact pr_cons (e_ok a S h1) (es_ok r S h3) h2
  | .star a r, s, X, es, S, h => by
    obtain ⟨e, p, es', rfl, h1, h2⟩ := star_ok h
    rw [evs]
    exact pr_star (o_ok S (fun _ q => e_ok a S q) h1) (es_ok r S h2)
theorem os_ok {G : Gm} {F : Nat → Sm} {k : Nat} : ∀ (c : Cs) {s : Stc} {X : Cx} {es : List Expr}, Sta G F k s X → chkOs G c s es = true → PRO X (evs G F c) es
  | .nil, s, X, [], S, h => by rw [evs]; exact pro_nil
  | .nil, s, X, _ :: _, S, h => by simp [chkOs] at h
  | .cons a r, s, X, [], S, h => by simp [chkOs] at h
  | .cons a r, s, X, e :: es, S, h => by
    rw [chkOs] at h
    rw [evs]
    obtain ⟨h1, h3⟩ := and_t h
    obtain ⟨h1, h2⟩ := and_t h1
    exact pro_cons (o_ok S (fun _ q => e_ok a S q) h1) (os_ok r S h3) h2
  | .star a r, s, X, es, S, h => by simp [chkOs] at h
theorem ks_ok {G : Gm} {F : Nat → Sm} {k : Nat} : ∀ (c : Cs) {s : Stc} {X : Cx} {es : List Keyword}, Sta G F k s X → chkKs G c s es = true → PKw X (evs G F c) es
  | .nil, s, X, [], S, h => by rw [evs]; exact pkw_nil
  | .nil, s, X, _ :: _, S, h => by simp [chkKs] at h
  | .cons a r, s, X, [], S, h => by simp [chkKs] at h
  | .cons a r, s, X, ⟨nm, e, p⟩ :: es, S, h => by
    rw [chkKs] at h
    rw [evs]
    obtain ⟨h1, h2⟩ := and_t h
    exact pkw_cons (e_ok a S h1) (ks_ok r S h2)
  | .star a r, s, X, es, S, h => by simp [chkKs] at h
theorem i_ok {G : Gm} {F : Nat → Sm} {k : Nat} : ∀ (c : It) {s : Stc} {X : Cx} {st : Bool} {tg e : Expr}, Sta G F k s X → chkI G c s st tg e = true → PIt X (evI G F c) st tg e
  | .seq a, s, X, st, tg, e, S, h => by
    rw [chkI, Bool.or_eq_true] at h
    rw [evI]
    rcases h with h | h
    · exact pit_seq (e_ok a S h) st
    · obtain ⟨h1, h2⟩ := and_t h
      have : st = false := by simpa using h1
      subst this
      exact pit_seqO (ov_ok S h2)
  | .rng1 es, s, X, st, tg, e, S, h => by
    unfold chkI at h
    rw [evI]
    split at h
    · obtain ⟨h, h5⟩ := and_t h
      obtain ⟨h, h4⟩ := and_t h
      obtain ⟨h, h3⟩ := and_t h
      obtain ⟨h1, h2⟩ := and_t h
      rw [of_decide_eq_true h1] at h2 h3 ⊢
      exact pit_rng1 (gl_ok S h2) (blt_none S h3) (os_ok es S h5) h4 st
    · cases h
  | .rng2 es, s, X, st, tg, e, S, h => by
    unfold chkI at h
    rw [evI]
    split at h
    · obtain ⟨h, h5⟩ := and_t h
      obtain ⟨h, h4⟩ := and_t h
      obtain ⟨h, h3⟩ := and_t h
      obtain ⟨h1, h2⟩ := and_t h
      rw [of_decide_eq_true h1] at h2 h3 ⊢
      exact pit_rng2 (gl_ok S h2) (blt_none S h3) (os_ok es S h5) h4 st
    · cases h
  | .rng3 es, s, X, st, tg, e, S, h => by
    unfold chkI at h
    rw [evI]
    split at h
    · obtain ⟨h, h5⟩ := and_t h
      obtain ⟨h, h4⟩ := and_t h
      obtain ⟨h, h3⟩ := and_t h
      obtain ⟨h1, h2⟩ := and_t h
      rw [of_decide_eq_true h1] at h2 h3 ⊢
      refine pit_rng3 (gl_ok S h2) (blt_none S h3) (os_ok es S h5) h4 st fun ta hta => ?_
      have n1 := no_stars1 h4 X.env
      have n2 := no_stars1 (no_stars2 h4) X.env
      have n3 := no_stars1 (no_stars2 (no_stars2 h4)) X.env
      exact pi_range3 (gl_ok S h2) (blt_none S h3) hta n1 (by rw [n2, n3]; rfl)
    · cases h
  | .zip es, s, X, st, tg, e, S, h => by
    unfold chkI at h
    rw [evI]
    split at h
    · obtain ⟨h, h5⟩ := and_t h
      obtain ⟨h, h4⟩ := and_t h
      obtain ⟨h, h3⟩ := and_t h
      obtain ⟨h1, h2⟩ := and_t h
      rw [of_decide_eq_true h1] at h2 h3 ⊢
      exact pit_zip (gl_ok S h2) (blt_none S h3) (es_ok es S h5) h4 st
    · cases h
  | .enum es, s, X, st, tg, e, S, h => by
    unfold chkI at h
    rw [evI]
    split at h
    · obtain ⟨h, h5⟩ := and_t h
      obtain ⟨h, h4⟩ := and_t h
      obtain ⟨h, h3⟩ := and_t h
      obtain ⟨h1, h2⟩ := and_t h
      rw [of_decide_eq_true h1] at h2 h3 ⊢
      exact pit_enum (gl_ok S h2) (blt_none S h3) (es_ok es S h5) h4 st
    · cases h
end
end PV

set_option Elab.async false
set_option linter.all false
set_option maxRecDepth 100000
set_option maxHeartbeats 8000000
namespace PV
open PySem PySem.Spec L2
open PyProof.Rows hiding St

/-! ### 25. slots' new values -/
section
variable {G : Gm} {F : Nat → Sm} {k : Nat}
theorem ex_ok (c : C) {s : Stc} {X : Cx} {e : Expr} (S : Sta G F k s X) (h : chkE G c s e = true) : PX X (evX G F c) e := by
  cases c with
  | lst es =>
    unfold chkE at h; rw [evX]
    split at h
    · exact px_f (pf_lst (es_ok es S h))
    · cases h
  | cut a =>
    unfold chkE at h; rw [evX]
    split at h
    · exact px_f (pf_cut (o_ok S (fun _ q => e_ok a S q) h) ppt_none ppt_none)
    · cases h
  | cutL a lo =>
    unfold chkE at h; rw [evX]
    split at h
    · obtain ⟨h1, h2⟩ := and_t h
      exact px_f (pf_cut (o_ok S (fun _ q => e_ok a S q) h1) (ppt_some (o_ok S (fun _ q => e_ok lo S q) h2)) ppt_none)
    · cases h
  | cutH a hi =>
    unfold chkE at h; rw [evX]
    split at h
    · obtain ⟨h1, h2⟩ := and_t h
      exact px_f (pf_cut (o_ok S (fun _ q => e_ok a S q) h1) ppt_none (ppt_some (o_ok S (fun _ q => e_ok hi S q) h2)))
    · cases h
  | cutLH a lo hi =>
    unfold chkE at h; rw [evX]
    split at h
    · obtain ⟨h1, h3⟩ := and_t h
      obtain ⟨h1, h2⟩ := and_t h1
      exact px_f (pf_cut (o_ok S (fun _ q => e_ok a S q) h1) (ppt_some (o_ok S (fun _ q => e_ok lo S q) h2)) (ppt_some (o_ok S (fun _ q => e_ok hi S q) h3)))
    · cases h
  | rev a =>
    unfold chkE at h; rw [evX]
    split at h
    · obtain ⟨h1, h2⟩ := and_t h
      exact px_f (pf_rev1 (o_ok S (fun _ q => e_ok a S q) h1) h2)
    · cases h
  | cat a b =>
    unfold chkE at h; rw [evX]
    split at h
    · obtain ⟨h1, h2⟩ := and_t h
      exact px_f (pf_cat (o_ok S (fun _ q => e_ok a S q) h1) (o_ok S (fun _ q => e_ok b S q) h2))
    · cases h
  | lof a =>
    unfold chkE at h; rw [evX]
    split at h
    · obtain ⟨h, h5⟩ := and_t h
      obtain ⟨h, h4⟩ := and_t h
      obtain ⟨h, h3⟩ := and_t h
      obtain ⟨h1, h2⟩ := and_t h
      rw [of_decide_eq_true h1] at h2 h3 ⊢
      exact px_f (pf_callT call_list_of cf_list (gl_ok S h2) (blt_none S h3) (by decide +kernel) (by decide +kernel) (by decide +kernel) (pro_cons (o_ok S (fun _ q => e_ok a S q) h5) pro_nil h4) (by simp [noStars, h4]))
    · cases h
  | lrg1 a =>
    unfold chkE at h; rw [evX]
    split at h
    · obtain ⟨h, h8⟩ := and_t h
      obtain ⟨h, h7⟩ := and_t h
      obtain ⟨h, h6⟩ := and_t h
      obtain ⟨h, h5⟩ := and_t h
      obtain ⟨h, h4⟩ := and_t h
      obtain ⟨h, h3⟩ := and_t h
      obtain ⟨h1, h2⟩ := and_t h
      rw [of_decide_eq_true h1] at h2 h3 ⊢
      rw [of_decide_eq_true h4] at h5 h6 ⊢
      exact px_f (pf_lrg1 S.calm (gl_ok S h2) (blt_none S h3) (gl_ok S h5) (blt_none S h6) (o_ok S (fun _ q => e_ok a S q) h8) h7)
    · cases h
  | lrg2 a b =>
    unfold chkE at h; rw [evX]
    split at h
    · obtain ⟨h, h10⟩ := and_t h
      obtain ⟨h, h9⟩ := and_t h
      obtain ⟨h, h8⟩ := and_t h
      obtain ⟨h, h7⟩ := and_t h
      obtain ⟨h, h6⟩ := and_t h
      obtain ⟨h, h5⟩ := and_t h
      obtain ⟨h, h4⟩ := and_t h
      obtain ⟨h, h3⟩ := and_t h
      obtain ⟨h1, h2⟩ := and_t h
      rw [of_decide_eq_true h1] at h2 h3 ⊢
      rw [of_decide_eq_true h4] at h5 h6 ⊢
      exact px_f (pf_lrg2 S.calm (gl_ok S h2) (blt_none S h3) (gl_ok S h5) (blt_none S h6) (o_ok S (fun _ q => e_ok a S q) h9) (o_ok S (fun _ q => e_ok b S q) h10) h7 h8)
    · cases h
  | call si es ks =>
    rw [evX]
    exact x_call si es ks S (fun _ q => es_ok es S q) (fun _ q => ks_ok ks S q) h
  | callP si i es =>
    rw [evX]
    exact x_callP si i es S (fun _ q => es_ok es S q) h
  | comp T own it elt =>
    unfold chkE at h; rw [evX]
    split at h
    · obtain ⟨h, h6⟩ := and_t h
      obtain ⟨h, h5⟩ := and_t h
      obtain ⟨h, h4⟩ := and_t h
      obtain ⟨h, h3⟩ := and_t h
      obtain ⟨h1, h2⟩ := and_t h
      exact px_f (comp_ok S (i_ok it S h1) h2 h3 (fun S' => tg_ok T S' h4) h5 (fun S' => ptsb_nil) (fun S' => e_ok elt S' h6))
    · cases h
  | compIf T own it t elt =>
    unfold chkE at h; rw [evX]
    split at h
    · obtain ⟨h, h7⟩ := and_t h
      obtain ⟨h, h6⟩ := and_t h
      obtain ⟨h, h5⟩ := and_t h
      obtain ⟨h, h4⟩ := and_t h
      obtain ⟨h, h3⟩ := and_t h
      obtain ⟨h1, h2⟩ := and_t h
      exact px_f (comp_ok S (i_ok it S h1) h2 h3 (fun S' => tg_ok T S' h4) h5 (fun S' => ptsb_one (t_ok t S' h6)) (fun S' => e_ok elt S' h7))
    · cases h
  | _ => exact px_p (e_ok _ S h)
/-- the value for a slot, open where it can be (b) or frozen -/
def vx (G : Gm) (F : Nat → Sm) (b : Bool) (c : C) : Ms Sl := if b then evX G F c else mFro (ev G F c)
theorem vx_ok (b : Bool) (c : C) {s : Stc} {X : Cx} {e : Expr} (S : Sta G F k s X) (h : chkE G c s e = true) : PX X (vx G F b c) e := by
  cases b with
  | true => exact ex_ok c S h
  | false => exact px_p (e_ok c S h)

/-! ### 26. what the model asks of an assignment -/
def notSD : Expr → Bool
  | .SetComp _ _ _ _ => false
  | .DictComp _ _ _ _ _ => false
  | _ => true
def swapV (sc : Scope) (x : Str) (p : Pos) : Expr → Bool
  | .ListComp _ _ scope p' => sc.names.lookup x == some .local && p.line == p'.line && !(scope.names.any fun (n, k) => n == x && (k == .local || k == .cell))
  | _ => false
def fnB (sc : Scope) : Bool := match sc.kind with
  | .function => true
  | _ => false
theorem fn_ok {sc : Scope} (h : fnB sc = true) : sc.kind = .function := by
  unfold fnB at h
  split at h
  · assumption
  · cases h
theorem sw_val {env : PySem.Env} {x : Str} {p : Pos} {l : Nat} (hk : env.scope.kind = .function) (e : Expr) (h : notSD e = true) : swapsWith e (some (.Name x p)) l env = pure (swapV env.scope x p e) := by
  have hb : env.blockKind = .function := by unfold Env.blockKind; rw [hk]; rfl
  cases e with
  | SetComp _ _ _ _ => cases h
  | DictComp _ _ _ _ _ => cases h
  | ListComp _ _ sc pp =>
    unfold swapsWith
    simp only [hb, Expr.pos]
    rfl
  | _ => rfl
def pairNames (sc : Scope) (ts : List Expr) : List Str := ts.filterMap fun
    | .Name id pos => if sc.names.lookup id == some .local && pos.line == (ts.head?.map (·.pos.line)).getD 0 then some id else none
    | _ => none
def isStar : Expr → Bool
  | .Starred .. => true
  | _ => false
def swNone (sc : Scope) (tg e : Expr) : Bool := match tg, e with
  | .Tuple ts _ _, .Tuple vs _ _ => !(ts.length == 2 || ts.length == 3) || vs.length != ts.length || (pairNames sc ts).length != ts.length || vs.all (foldedForSure 8)
  | .List _ _, _ => false
  | _, _ => true
theorem swNone_ok {env : PySem.Env} (tg e : Expr) (h : swNone env.scope tg e = true) : swappedStores [tg] e env = pure none := by
  cases tg with
  | Tuple ts kt pt =>
    cases e with
    | Tuple vs k2 pt2 =>
      unfold swNone at h
      simp only [Bool.or_eq_true] at h
      unfold swappedStores
      simp only []
      by_cases c1 : (!(ts.length == 2 || ts.length == 3) || vs.length != ts.length || env.blockKind != .function) = true
      · rw [if_pos c1]
      · rw [if_neg c1]
        split
        · rfl
        · change (if ((pairNames env.scope ts).length != ts.length || (pairNames env.scope ts).eraseDups.length != (pairNames env.scope ts).length) = true then (pure none : Sem (Option (List Str))) else if vs.all (foldedForSure 8) = true then pure none else _) = _
          by_cases c3 : ((pairNames env.scope ts).length != ts.length || (pairNames env.scope ts).eraseDups.length != (pairNames env.scope ts).length) = true
          · rw [if_pos c3]
          · rw [if_neg c3]
            rcases h with ((h | h) | h) | h
            · exact absurd (by rw [h]; rfl) c1
            · exact absurd (by rw [h]; simp) c1
            · exact absurd (by rw [h]; rfl) c3
            · rw [if_pos h]
    | _ => rfl
  | List _ _ => cases h
  | _ => cases e <;> rfl
def pairB (sc : Scope) (x y : Str) (px py : Pos) (a b : Expr) : Bool := isLocal sc x && isLocal sc y && (py.line == px.line) && !(x == y) && noStars [a, b] && !([a, b].all (foldedForSure 8)) && !([a, b].all (constantsAlone 8))
theorem pair_ok {env : PySem.Env} {x y : Str} {px py pt pt2 : Pos} {kt k2 : Nat} {a b : Expr} (hk : env.scope.kind = .function) (h : pairB env.scope x y px py a b = true) : swappedStores [.Tuple [.Name x px, .Name y py] kt pt] (.Tuple [a, b] k2 pt2) env = pure (some [x, y]) := by
  have hb : env.blockKind = .function := by unfold Env.blockKind; rw [hk]; rfl
  unfold pairB at h
  obtain ⟨h, h7⟩ := and_t h
  obtain ⟨h, h6⟩ := and_t h
  obtain ⟨h, h5⟩ := and_t h
  obtain ⟨h, h4⟩ := and_t h
  obtain ⟨h, h3⟩ := and_t h
  obtain ⟨h1, h2⟩ := and_t h
  have k1 : env.kindOf x = some .local := isLocal_ok h1
  have k2' : env.kindOf y = some .local := isLocal_ok h2
  have hst : ([a, b].any fun | .Starred .. => true | _ => false) = false := by
    have e1 := no_stars1 h5
    have e2 := no_stars1 (no_stars2 h5)
    unfold noStars at h5
    simp only [List.all_cons, List.all_nil, Bool.and_true, Bool.and_eq_true] at h5
    obtain ⟨u1, u2⟩ := h5
    have f : ∀ z, notStar z = true → (match z with | .Starred .. => true | _ => false) = false := fun z q => by cases z <;> first | rfl | cases q
    simp only [List.any_cons, List.any_nil, Bool.or_false]
    rw [f a u1, f b u2]; rfl
  unfold swappedStores
  simp only []
  rw [if_neg (by rw [hb]; exact Bool.false_ne_true)]
  split
  · rename_i hz
    exact absurd (hz.symm.trans hst) (by decide)
  · have e1 : pairNames env.scope [Expr.Name x px, Expr.Name y py] = [x, y] := by
      have d1 : (env.scope.names.lookup x == some NameKind.local && px.line == ([Expr.Name x px, Expr.Name y py].head?.map (·.pos.line)).getD 0) = true := by rw [isLocal_ok h1]; simp [Expr.pos]
      have d2 : (env.scope.names.lookup y == some NameKind.local && py.line == ([Expr.Name x px, Expr.Name y py].head?.map (·.pos.line)).getD 0) = true := by rw [isLocal_ok h2]; simpa [Expr.pos] using h3
      unfold pairNames
      simp only [List.filterMap_cons, List.filterMap_nil, d1, d2, if_true]
    change (if ((pairNames env.scope [Expr.Name x px, Expr.Name y py]).length != 2 || (pairNames env.scope [Expr.Name x px, Expr.Name y py]).eraseDups.length != (pairNames env.scope [Expr.Name x px, Expr.Name y py]).length) = true then (pure none : Sem (Option (List Str))) else if [a, b].all (foldedForSure 8) = true then pure none else if [a, b].all (constantsAlone 8) = true then _ else pure (some (pairNames env.scope [Expr.Name x px, Expr.Name y py]))) = _
    rw [e1]
    have h4' : (x == y) = false := by simpa using h4
    have e2 : ([x, y].eraseDups).length = 2 := by
      have : [x, y].eraseDups = [x, y] := by
        have hyx : (y == x) = false := by
          rw [beq_eq_false_iff_ne] at h4' ⊢
          exact fun z => h4' z.symm
        simp [List.eraseDups_cons, hyx]
      rw [this]; rfl
    rw [if_neg (by simp [e2]), if_neg (by rw [Bool.not_eq_true'] at h6; rw [h6]; exact Bool.false_ne_true), if_neg (by rw [Bool.not_eq_true'] at h7; rw [h7]; exact Bool.false_ne_true)]
/-! ### 27. an assignment of a comprehension to a name of the def -/
theorem f_of_p {K : PySem.W.Frag} {m : Ms (List D)} {σ : L2.St} {H : Hp} {Q : VK} (h : tP K (mList m) σ H Q) : tF K m σ H Q := by
  obtain ⟨ap, Hf, env, p, d, p', s, q, k⟩ := h
  unfold mList at q
  cases hm : m env p with
  | none => rw [hm] at q; cases q
  | some r =>
    obtain ⟨ds, p1⟩ := r
    rw [hm] at q; cases q
    refine ⟨ap, Hf, env, p, ds, _, s, hm, fun H' Hf' a vs x n h1 h2 h3 => ?_⟩
    have na : ap ≠ some a := s.pur.ne n
    refine k H' (upd Hf' a (.lst vs)) _ (x.freeze n h1 h2 na) (.lst upd_same (h3.up fun b o z => ?_))
    rw [upd_ne (ne_of_none z h2)]; exact z
theorem setC_ok {s : Stc} {X : Cx} (S : Sta G F k s X) {T : Tg} {own : List Nat} {mi : Ms (List D)} {mt : Ms Bool} {me : Ms D} {el tg iter : Expr} {ifs : List Expr} {scope : Scope} {pos spos py : Pos} {i : Nat} {x : Str} {m : Ms Sl}
    (hi : PIt X mi false tg iter) (hn : notSet iter = true) (hb : blkC s.N s.sc scope (ownOf s.N own) = true)
    (hT : ∀ {X' : Cx}, Sta G F k (blkS s scope) X' → PTg X' T tg) (hsub : T.slots.all (fun i => own.contains i) = true) (ht : ∀ {X' : Cx}, Sta G F k (blkS s scope) X' → PTsB X' mt ifs) (he : ∀ {X' : Cx}, Sta G F k (blkS s scope) X' → PP X' me el)
    (hm : ∀ σ H Q, tX X.K m σ H Q → tF X.K (mComp T own mi mt me) σ H Q) (hx : X.N[i]? = some x) (hl : X.env.scope.names.lookup x = some .local)
    (hsw : swapsWith (.ListComp el [⟨tg, iter, ifs, 0⟩] scope pos) (some (.Name x py)) spos.line X.env = pure true) : PSt X (mSet i m) (.Assign [.Name x py] (.ListComp el [⟨tg, iter, ifs, 0⟩] scope pos) spos) := by
  have ok : BlkOk X.N X.env.scope scope (ownOf s.N own) := by rw [S.N, S.sc]; exact blkOk_by hb
  have st : ∀ (s0 : Shared) (H : Hp) (C : Addr) (cl : List (Str × Addr)) (fp : List Addr), Sta G F k (blkS s scope) (X.blk s0 H scope (compEnvC scope cl C X.env) fp) := fun s0 H C cl fp => S.blk s0 H scope C cl fp
  refine ps_weak (ps_setLc (wi := tI X.K mi false) (g := tG X.K T) (tt := tT X.K mt) (te := tP X.K me) S.calm S.nd hx hl hsw hi ok (fun s0 H C cl fp => hT (st s0 H C cl fp)) (fun s0 H C cl fp => ht (st s0 H C cl fp)) (fun s0 H C cl fp => he (st s0 H C cl fp)) (folded_ok hn X.env)) fun Dn σ H hlen h => ?_
  have r := set_read (by rw [hlen]; exact (List.getElem?_eq_some_iff.mp hx).1) h
  rw [ownOf_snd]
  exact lc_read (fun i hi => by
    rw [List.all_eq_true] at hsub
    simpa using hsub i hi) (hm _ _ _ r)
theorem set_bad {X : Cx} {st : Stmt} {m : Ms Sl} {i : Nat} (h : ∀ env p, m env p = none) : PSt X (mSet i m) st := ps_weak ps_never fun Dn σ H _ ⟨H0, Hf0, ap, Hf, env, p, o, p', s, q, k⟩ => by
  unfold mSet at q
  rw [h env p] at q; cases q
theorem vx_bad (b : Bool) (env : Env) (p : List D) : vx G F b .bad env p = none := by
  cases b with
  | true => show evX G F .bad env p = none; simp only [evX, ev]; rfl
  | false => show mFro (ev G F .bad) env p = none; rw [ev]; rfl
theorem vx_comp (b : Bool) {K : PySem.W.Frag} {T : Tg} {own : List Nat} {it : It} {elt : C} (σ : L2.St) (H : Hp) (Q : VK) (h : tX K (vx G F b (.comp T own it elt)) σ H Q) : tF K (mComp T own (evI G F it) mYes (ev G F elt)) σ H Q := by
  cases b with
  | true =>
    have h' : tX K (evX G F (.comp T own it elt)) σ H Q := h
    rw [evX] at h'
    exact x_of_f h'
  | false =>
    have h' : tX K (mFro (ev G F (.comp T own it elt))) σ H Q := h
    rw [ev] at h'
    exact f_of_p (x_of_p h')
theorem vx_compIf (b : Bool) {K : PySem.W.Frag} {T : Tg} {own : List Nat} {it : It} {t elt : C} (σ : L2.St) (H : Hp) (Q : VK) (h : tX K (vx G F b (.compIf T own it t elt)) σ H Q) : tF K (mComp T own (evI G F it) (mB (ev G F t)) (ev G F elt)) σ H Q := by
  cases b with
  | true =>
    have h' : tX K (evX G F (.compIf T own it t elt)) σ H Q := h
    rw [evX] at h'
    exact x_of_f h'
  | false =>
    have h' : tX K (mFro (ev G F (.compIf T own it t elt))) σ H Q := h
    rw [ev] at h'
    exact f_of_p (x_of_p h')
theorem set_ok (b : Bool) (c : C) {s : Stc} {X : Cx} {e : Expr} {i : Nat} {x : Str} {px pos : Pos} (S : Sta G F k s X) (hN : X.N[i]? = some x) (hl : Loc X.env.scope x) (ho : X.fn x = true ∨ X.env.scope.names.lookup x = some .local) (hk : X.env.scope.kind = .function) (hd : notSD e = true) (h : chkE G c s e = true) :
    PSt X (mSet i (vx G F b c)) (.Assign [.Name x px] e pos) := by
  cases hsw : swapV X.env.scope x px e with
  | false => exact pst_set S.nd hN hl (vx_ok b c S h) (by rw [sw_val hk e hd, hsw]) ho
  | true =>
    cases e with
    | ListComp el gs scope p =>
      have hsw' := sw_val (l := pos.line) (x := x) (p := px) hk _ hd
      rw [hsw] at hsw'
      have hloc : X.env.scope.names.lookup x = some .local := by
        unfold swapV at hsw
        obtain ⟨h1, _⟩ := and_t hsw
        obtain ⟨h1, _⟩ := and_t h1
        cases hz : X.env.scope.names.lookup x with
        | none => rw [hz] at h1; cases h1
        | some kd => rw [hz] at h1; cases kd <;> first | rfl | cases h1
      cases c with
      | bad => exact set_bad (vx_bad b)
      | comp T own it elt =>
        unfold chkE at h
        split at h
        · rename_i heq
          cases heq
          obtain ⟨h, h6⟩ := and_t h
          obtain ⟨h, h5⟩ := and_t h
          obtain ⟨h, h4⟩ := and_t h
          obtain ⟨h, h3⟩ := and_t h
          obtain ⟨h1, h2⟩ := and_t h
          exact setC_ok S (i_ok it S h1) h2 h3 (fun S' => tg_ok T S' h4) h5 (fun S' => ptsb_nil) (fun S' => e_ok elt S' h6) (vx_comp b) hN hloc hsw'
        · cases h
      | compIf T own it t elt =>
        unfold chkE at h
        split at h
        · rename_i heq
          cases heq
          obtain ⟨h, h7⟩ := and_t h
          obtain ⟨h, h6⟩ := and_t h
          obtain ⟨h, h5⟩ := and_t h
          obtain ⟨h, h4⟩ := and_t h
          obtain ⟨h, h3⟩ := and_t h
          obtain ⟨h1, h2⟩ := and_t h
          exact setC_ok S (i_ok it S h1) h2 h3 (fun S' => tg_ok T S' h4) h5 (fun S' => ptsb_one (t_ok t S' h6)) (fun S' => e_ok elt S' h7) (vx_compIf b) hN hloc hsw'
        · cases h
      | k d => cases d <;> simp [chkE, chkK] at h
      | _ => simp [chkE, nameB] at h
    | _ => cases hsw
end
end PV

set_option Elab.async false
set_option linter.all false
set_option maxRecDepth 100000
set_option maxHeartbeats 8000000
namespace PV
open PySem PySem.Spec L2
open PyProof.Rows hiding St

/-! ### 28. the checker of statements -/
def chkSet (G : Gm) (s : Stc) (i : Nat) (c : C) : Stmt → Bool
  | .Assign [.Name x _] e _ => decide (s.N[i]? = some x) && locB s.sc x && (s.ow x || isLocal s.sc x) && fnB s.sc && notSD e && chkE G c s e
  | _ => false
def chkSet2 (G : Gm) (s : Stc) (i j : Nat) (a b : C) : Stmt → Bool
  | .Assign [.Tuple [.Name x px, .Name y py] _ _] (.Tuple [e1, e2] _ _) _ => decide (s.N[i]? = some x) && decide (s.N[j]? = some y) && decide (i ≠ j) && fnB s.sc && pairB s.sc x y px py e1 e2 && chkE G a s e1 && chkE G b s e2
  | _ => false
def asgB (s : Stc) (tg e : Expr) : Bool := fnB s.sc && notSD e && (match tg with | .Name x p => !(swapV s.sc x p e) | _ => true) && swNone s.sc tg e
mutual
def chkS (G : Gm) : S → Stc → Stmt → Bool
  | .bad, _, _ => true
  | .pass, _, st => match st with | .Pass _ => true | _ => false
  | .brk, _, st => match st with | .Break _ => true | _ => false
  | .cnt, _, st => match st with | .Continue _ => true | _ => false
  | .set i c, s, st => chkSet G s i c st
  | .setX i c, s, st => chkSet G s i c st
  | .set2 i j a b, s, st => chkSet2 G s i j a b st
  | .setX2 i j a b, s, st => chkSet2 G s i j a b st
  | .asg T c, s, st => match st with
    | .Assign [tg] e _ => asgB s tg e && chkG s T tg && tgShape tg && chkE G c s e
    | _ => false
  | .ret c, s, st => match st with
    | .Return (some e) _ => chkE G c s e
    | _ => false
  | .retN, _, st => match st with
    | .Return none _ => true
    | _ => false
  | .exp c, s, st => match st with
    | .Expr e _ => (!notCall e) && chkE G c s e
    | _ => false
  | .retV i, s, st => match st with
    | .Return (some e) _ => nameB s i e
    | _ => false
  | .ite _ c a b, s, st => match st with
    | .If t as bs _ => chkT G c s t && chkSs G a s as && chkSs G b s bs
    | _ => false
  | .while c b, s, st => match st with
    | .While t bs [] _ => chkT G c s t && chkSs G b s bs
    | _ => false
  | .for T it b, s, st => match st with
    | .For tg iter bs [] _ => chkI G it s true tg iter && notSet iter && chkG s T tg && chkSs G b s bs
    | _ => false
  | .apd i c, s, st => match st with
    | .Expr (.Call (.Attribute x m ap) [e] [] cp) _ => decide (m = "append") && nameB s i x && chkE G c s e && notStar e && (ap.endLine == cp.line)
    | _ => false
  | .pop T i, s, st => match st with
    | .Assign [tg] (.Call (.Attribute x m ap) [] [] cp) _ => decide (m = "pop") && nameB s i x && (ap.endLine == cp.line) && chkG s T tg && tgShape tg
    | _ => false
  | .ins i a b, s, st => match st with
    | .Expr (.Call (.Attribute x m ap) [e1, e2] [] cp) _ => decide (m = "insert") && nameB s i x && chkE G a s e1 && chkE G b s e2 && notStar e1 && notStar e2 && (ap.endLine == cp.line)
    | _ => false
  | .put i a b, s, st => match st with
    | .Assign [.Subscript x e1 _] e2 _ => nameB s i x && plainIx e1 && chkE G a s e1 && chkE G b s e2
    | _ => false
  | .put2 i a b c, s, st => match st with
    | .Assign [.Tuple [.Subscript x e1 _, .Subscript y e2 _] _ _] e _ => nameB s i x && nameB s i y && plainIx e1 && plainIx e2 && chkE G a s e1 && chkE G b s e2 && chkE G c s e
    | _ => false
  | .frz _ t, s, st => chkS G t s st
def chkSs (G : Gm) : Ss → Stc → List Stmt → Bool
  | .nil, _, [] => true
  | .cons t r, s, st :: sts => chkS G t s st && chkSs G r s sts
  | _, _, _ => false
end
section
variable {G : Gm} {F : Nat → Sm} {k : Nat}
theorem chkSet_ok (b : Bool) {c : C} {i : Nat} {s : Stc} {X : Cx} {st : Stmt} (S : Sta G F k s X) (h : chkSet G s i c st = true) : PSt X (mSet i (vx G F b c)) st := by
  unfold chkSet at h
  split at h
  · obtain ⟨h, h6⟩ := and_t h
    obtain ⟨h, h5⟩ := and_t h
    obtain ⟨h, h4⟩ := and_t h
    obtain ⟨h, h3⟩ := and_t h
    obtain ⟨h1, h2⟩ := and_t h
    refine set_ok b c S (by rw [S.N]; exact of_decide_eq_true h1) (by rw [S.sc]; exact loc_ok h2) ?_ (by rw [S.sc]; exact fn_ok h4) h5 h6
    rw [Bool.or_eq_true] at h3
    rcases h3 with h3 | h3
    · exact .inl (S.ow _ h3)
    · exact .inr (by rw [S.sc]; exact isLocal_ok h3)
  · cases h
theorem chkSet2_ok (b : Bool) {c d : C} {i j : Nat} {s : Stc} {X : Cx} {st : Stmt} (S : Sta G F k s X) (h : chkSet2 G s i j c d st = true) : PSt X (mSet2 i j (vx G F b c) (vx G F b d)) st := by
  unfold chkSet2 at h
  split at h
  · obtain ⟨h, h7⟩ := and_t h
    obtain ⟨h, h6⟩ := and_t h
    obtain ⟨h, h5⟩ := and_t h
    obtain ⟨h, h4⟩ := and_t h
    obtain ⟨h, h3⟩ := and_t h
    obtain ⟨h1, h2⟩ := and_t h
    have h5' := h5
    unfold pairB at h5'
    obtain ⟨g, g7⟩ := and_t h5'
    obtain ⟨g, g6⟩ := and_t g
    obtain ⟨g, g5⟩ := and_t g
    obtain ⟨g, g4⟩ := and_t g
    obtain ⟨g, g3⟩ := and_t g
    obtain ⟨g1, g2⟩ := and_t g
    exact pst_par S.calm S.nd (by rw [S.N]; exact of_decide_eq_true h1) (by rw [S.N]; exact of_decide_eq_true h2) (of_decide_eq_true h3) (by rw [S.sc]; exact isLocal_ok g1) (by rw [S.sc]; exact isLocal_ok g2)
      (vx_ok b c S h6) (vx_ok b d S h7) g5 (pair_ok (by rw [S.sc]; exact fn_ok h4) (by rw [S.sc]; exact h5))
  · cases h
theorem sub_assign {x e1 : Expr} {tp : Pos} {env : PySem.Env} (h : plainIx e1 = true) (v : Value) : assign (.Subscript x e1 tp) env v = (do
      let ov ← holding [v] (eval x env)
      let iv ← holding [v, ov] (eval e1 env)
      standAt tp
      holding [v, ov, iv] (setItem ov iv v)
      release [v, ov, iv] []) := by
  cases e1 <;> first | rfl | (simp [plainIx] at h; done)
theorem sub_sw {x e1 e : Expr} {tp : Pos} {l : Nat} {env : PySem.Env} : swapsWithSole [.Subscript x e1 tp] e l env = pure false := by cases e <;> rfl
theorem sub_st {x e1 e : Expr} {tp : Pos} {env : PySem.Env} : swappedStores [.Subscript x e1 tp] e env = pure none := by cases e <;> rfl
theorem sub2_sw {es : List Expr} {kt : Nat} {e : Expr} {tp : Pos} {l : Nat} {env : PySem.Env} : swapsWithSole [.Tuple es kt tp] e l env = pure false := by cases e <;> rfl
theorem sub2_st {x y e1 e2 e : Expr} {kt : Nat} {t1 t2 tp : Pos} {env : PySem.Env} : swappedStores [.Tuple [.Subscript x e1 t1, .Subscript y e2 t2] kt tp] e env = pure none := swNone_ok _ _ (by cases e <;> first | rfl | (simp [swNone, pairNames]; done))
theorem pst_exp {X : Cx} {e : Expr} {pos : Pos} {m : Ms D} (hc : notCall e = false) (he : PP X m e) : PSt X (mExp m) (.Expr e pos) := by
  have hs : swapsWith e none pos.line X.env = pure false := by cases e <;> first | rfl | cases hc
  refine ps_weak (ps_expr he hs) fun Dn σ H _ ⟨H0, Hf0, ap, Hf, env, p, o, p', s, q, k⟩ => ?_
  unfold mExp at q
  cases hm : m env p with
  | none => rw [hm] at q; cases q
  | some r =>
    rw [hm] at q; cases q
    exact ⟨ap, Hf, env, p, _, _, s.so, hm, fun H' Hf' v x r => k σ H' Hf' (s.ext x)⟩
theorem own_pass {s : Stc} {X : Cx} (S : Sta G F k s X) : PassesOwn (model X.prog X.w) X.A X.env X.xe := by
  rw [S.xe]
  exact PassesOwn.never
theorem asg_ok {s : Stc} {X : Cx} (S : Sta G F k s X) {tg e : Expr} {pos : Pos} (h : asgB s tg e = true) : swapsWithSole [tg] e pos.line X.env = pure false ∧ swappedStores [tg] e X.env = pure none := by
  unfold asgB at h
  obtain ⟨h, h4⟩ := and_t h
  obtain ⟨h, h3⟩ := and_t h
  obtain ⟨h1, h2⟩ := and_t h
  rw [← S.sc] at h1 h3 h4
  refine ⟨?_, swNone_ok tg e h4⟩
  cases tg with
  | Name x p =>
    have := sw_val (x := x) (p := p) (l := pos.line) (fn_ok h1) e h2
    rw [Bool.not_eq_true'] at h3
    rw [h3] at this
    exact this
  | _ => cases e <;> first | rfl | (cases h2; done)
end
mutual
theorem s_ok {G : Gm} {F : Nat → Sm} {k : Nat} (w : Nat) : ∀ (c : S) {s : Stc} {X : Cx} {st : Stmt}, Sta G F k s X → chkS G c s st = true → PSt X (ex G F w c) st
  | .bad, s, X, st, S, h => by rw [ex]; exact pst_bad
  | .pass, s, X, st, S, h => by
    unfold chkS at h; rw [ex]
    split at h
    · exact pst_pass
    · cases h
  | .brk, s, X, st, S, h => by
    unfold chkS at h; rw [ex]
    split at h
    · exact pst_break
    · cases h
  | .cnt, s, X, st, S, h => by
    unfold chkS at h; rw [ex]
    split at h
    · exact pst_cont
    · cases h
  | .set i c, s, X, st, S, h => by
    unfold chkS at h; rw [ex]
    exact chkSet_ok false S h
  | .setX i c, s, X, st, S, h => by
    unfold chkS at h; rw [ex]
    exact chkSet_ok true S h
  | .set2 i j a b, s, X, st, S, h => by
    unfold chkS at h; rw [ex]
    exact chkSet2_ok false S h
  | .setX2 i j a b, s, X, st, S, h => by
    unfold chkS at h; rw [ex]
    exact chkSet2_ok true S h
  | .asg T c, s, X, st, S, h => by
    unfold chkS at h; rw [ex]
    split at h
    · obtain ⟨h, h4⟩ := and_t h
      obtain ⟨h, h3⟩ := and_t h
      obtain ⟨h1, h2⟩ := and_t h
      exact pst_asg (e_ok c S h4) (tg_ok T S h2) (asg_ok S h1).1 (asg_ok (pos := ⟨0, 0, 0, 0⟩) S h1).2 h3
    · cases h
  | .ret c, s, X, st, S, h => by
    unfold chkS at h; rw [ex]
    split at h
    · exact pst_ret (ex_ok c S h)
    · cases h
  | .retN, s, X, st, S, h => by
    unfold chkS at h; rw [ex]
    split at h
    · exact pst_retN
    · cases h
  | .exp c, s, X, st, S, h => by
    unfold chkS at h; rw [ex]
    split at h
    · obtain ⟨h1, h2⟩ := and_t h
      exact pst_exp (by simpa using h1) (e_ok c S h2)
    · cases h
  | .retV i, s, X, st, S, h => by
    unfold chkS at h; rw [ex]
    split at h
    · obtain ⟨x, p, rfl, h1, h2, h3, h4⟩ := name_ok S h
      exact pst_retV h1 h2 h3 h4
    · cases h
  | .ite bor c a b, s, X, st, S, h => by
    unfold chkS at h; rw [ex]
    split at h
    · obtain ⟨h, h3⟩ := and_t h
      obtain ⟨h1, h2⟩ := and_t h
      split
      · exact pst_if (t_ok c S h1) (ss_ok w a S h2) (ss_ok w b S h3)
      · exact pst_ifB bor (t_ok c S h1) (ss_ok w a S h2) (ss_ok w b S h3)
    · cases h
  | .while c b, s, X, st, S, h => by
    unfold chkS at h; rw [ex]
    split at h
    · obtain ⟨h1, h2⟩ := and_t h
      exact pst_while w (own_pass S) (t_ok c S h1) (ss_ok w b S h2)
    · cases h
  | .for T it b, s, X, st, S, h => by
    unfold chkS at h; rw [ex]
    split at h
    · obtain ⟨h, h4⟩ := and_t h
      obtain ⟨h, h3⟩ := and_t h
      obtain ⟨h1, h2⟩ := and_t h
      exact pst_for (own_pass S) S.calm (i_ok it S h1) (tg_ok T S h3) (ss_ok w b S h4) (folded_ok h2 X.env)
    · cases h
  | .apd i c, s, X, st, S, h => by
    unfold chkS at h; rw [ex]
    split at h
    · obtain ⟨h, h5⟩ := and_t h
      obtain ⟨h, h4⟩ := and_t h
      obtain ⟨h, h3⟩ := and_t h
      obtain ⟨h1, h2⟩ := and_t h
      rw [of_decide_eq_true h1]
      obtain ⟨x, p, rfl, g1, g2, g3, g4⟩ := name_ok S h2
      exact pst_append g1 g2 g3 g4 (e_ok c S h3) h4 h5
    · cases h
  | .pop T i, s, X, st, S, h => by
    unfold chkS at h; rw [ex]
    split at h
    · obtain ⟨h, h5⟩ := and_t h
      obtain ⟨h, h4⟩ := and_t h
      obtain ⟨h, h3⟩ := and_t h
      obtain ⟨h1, h2⟩ := and_t h
      rw [of_decide_eq_true h1]
      obtain ⟨x, p, rfl, g1, g2, g3, g4⟩ := name_ok S h2
      exact pst_pop g1 g2 g3 g4 h3 (tg_ok T S h4) h5
    · cases h
  | .ins i a b, s, X, st, S, h => by
    unfold chkS at h; rw [ex]
    split at h
    · obtain ⟨h, h7⟩ := and_t h
      obtain ⟨h, h6⟩ := and_t h
      obtain ⟨h, h5⟩ := and_t h
      obtain ⟨h, h4⟩ := and_t h
      obtain ⟨h, h3⟩ := and_t h
      obtain ⟨h1, h2⟩ := and_t h
      rw [of_decide_eq_true h1]
      obtain ⟨x, p, rfl, g1, g2, g3, g4⟩ := name_ok S h2
      exact pst_insert g1 g2 g3 g4 (e_ok a S h3) (e_ok b S h4) h5 h6 h7
    · cases h
  | .put i a b, s, X, st, S, h => by
    unfold chkS at h; rw [ex]
    split at h
    · obtain ⟨h, h4⟩ := and_t h
      obtain ⟨h, h3⟩ := and_t h
      obtain ⟨h1, h2⟩ := and_t h
      obtain ⟨x, p, rfl, g1, g2, g3, g4⟩ := name_ok S h1
      exact pst_put g1 g2 g3 g4 (e_ok a S h3) (e_ok b S h4) sub_sw sub_st (sub_assign h2)
    · cases h
  | .put2 i a b c, s, X, st, S, h => by
    unfold chkS at h; rw [ex]
    split at h
    · obtain ⟨h, h7⟩ := and_t h
      obtain ⟨h, h6⟩ := and_t h
      obtain ⟨h, h5⟩ := and_t h
      obtain ⟨h, h4⟩ := and_t h
      obtain ⟨h, h3⟩ := and_t h
      obtain ⟨h1, h2⟩ := and_t h
      obtain ⟨x, p, rfl, g1, g2, g3, g4⟩ := name_ok S h1
      obtain ⟨x', p', rfl, g1', g2', g3', g4'⟩ := name_ok S h2
      have hx : x' = x := by rw [g1] at g1'; cases g1'; rfl
      subst hx
      exact pst_put2 S.calm g1 g2 g3 g4 (e_ok a S h5) (e_ok b S h6) (e_ok c S h7) sub2_sw sub2_st (sub_assign h3) (sub_assign h4)
    · cases h
  | .frz i t, s, X, st, S, h => by
    unfold chkS at h; rw [ex]
    exact pst_frz (s_ok w t S h)
theorem ss_ok {G : Gm} {F : Nat → Sm} {k : Nat} (w : Nat) : ∀ (c : Ss) {s : Stc} {X : Cx} {st : List Stmt}, Sta G F k s X → chkSs G c s st = true → PBk X (exs G F w c) st
  | .nil, s, X, [], S, h => by rw [exs]; exact pbk_nil
  | .nil, s, X, _ :: _, S, h => by simp [chkSs] at h
  | .cons t r, s, X, [], S, h => by simp [chkSs] at h
  | .cons t r, s, X, st :: sts, S, h => by
    rw [chkSs] at h
    rw [exs]
    obtain ⟨h1, h2⟩ := and_t h
    exact pbk_cons (s_ok w t S h1) (ss_ok w r S h2)
end
end PV

set_option Elab.async false
set_option linter.all false
set_option maxRecDepth 100000
set_option maxHeartbeats 8000000
namespace PV
open PySem PySem.Spec L2
open PyProof.Rows hiding St

/-! ### 29. defs -/
/-- a look at the names of a def's scope -/
def scC (N ps : List Str) (sc : Scope) : Bool :=
  fnB sc && !sc.isCoroutine && !sc.isGenerator && decide N.Nodup && decide (N.take ps.length = ps) && ps.all (fun x => locB sc x) && sc.names.all (fun y => match y.2 with | .free => false | _ => true)
theorem fnScope_by {N ps : List Str} {sc : Scope} (h : scC N ps sc = true) : FnScope N ps sc := by
  unfold scC at h
  obtain ⟨h, h7⟩ := and_t h
  obtain ⟨h, h6⟩ := and_t h
  obtain ⟨h, h5⟩ := and_t h
  obtain ⟨h, h4⟩ := and_t h
  obtain ⟨h, h3⟩ := and_t h
  obtain ⟨h1, h2⟩ := and_t h
  rw [List.all_eq_true] at h6 h7
  exact ⟨fn_ok h1, by simpa using h2, by simpa using h3, of_decide_eq_true h4, of_decide_eq_true h5, fun x hx => loc_ok (h6 x hx), fun y hy e => by
    have := h7 y hy
    rw [e] at this; cases this⟩
theorem startE_at {pur : Bool} {ns : Nat} {ds : List D} {i : Nat} {s : Sl} (h : (startE pur ns ds : List (Option Sl))[i]? = some (some s)) :
    (pur = true ∧ i = 0 ∧ s = .pur) ∨ ∃ d, s = .fro d ∧ ds[i - (if pur then 1 else 0)]? = some d ∧ (if pur then 1 else 0) ≤ i := by
  have key : ∀ (m : Nat) (j : Nat), (ds.map (fun d => some (Sl.fro d)) ++ List.replicate m (none : Option Sl))[j]? = some (some s) → ∃ d, s = .fro d ∧ ds[j]? = some d := by
    intro m j h
    by_cases hj : j < ds.length
    · rw [List.getElem?_append_left (by rw [List.length_map]; exact hj), List.getElem?_map, List.getElem?_eq_getElem hj] at h
      cases h
      exact ⟨_, rfl, List.getElem?_eq_getElem hj⟩
    · rw [List.getElem?_append_right (by rw [List.length_map]; omega), List.getElem?_replicate] at h
      split at h <;> cases h
  unfold startE at h
  cases pur with
  | false =>
    have h' : (ds.map (fun d => some (Sl.fro d)) ++ List.replicate (ns - (0 + ds.length)) (none : Option Sl))[i]? = some (some s) := h
    obtain ⟨d, e1, e2⟩ := key _ _ h'
    exact .inr ⟨d, e1, e2, Nat.zero_le _⟩
  | true =>
    cases i with
    | zero =>
      left
      refine ⟨rfl, rfl, ?_⟩
      have h' : some (some Sl.pur) = some (some s) := h
      cases h'; rfl
    | succ i =>
      have h' : (ds.map (fun d => some (Sl.fro d)) ++ List.replicate (ns - (1 + ds.length)) (none : Option Sl))[i]? = some (some s) := h
      obtain ⟨d, e1, e2⟩ := key _ _ h'
      exact .inr ⟨d, e1, e2, Nat.succ_le_succ (Nat.zero_le _)⟩
theorem start_ok {K : PySem.W.Frag} {H Hf : Hp} {ap : Option Addr} {p ds : List D} {pur : Bool} {ns : Nat} {N : List Str} {pv vs : List V} (fz : Fz Hf H) (pu : PurAt K ap p H Hf) (pp : PurPre ap pur pv) (r : RpAll K Hf vs ds) : StOk K H Hf ap (startE pur ns ds) p (L2.start N (pv ++ vs)) H Hf := by
  have noopn : ∀ (i : Nat) (es : List D), (startE pur ns ds : List (Option Sl))[i]? ≠ some (some (.opn es)) := fun i es h => by
    rcases startE_at h with ⟨_, _, z⟩ | ⟨d, z, _⟩ <;> cases z
  refine ⟨⟨fz, pu, fun i s h => ?_⟩, Nx.refl fz pu, fun i es a h _ => absurd h (noopn i es), fun i j es gs a _ h _ _ => absurd h (noopn i es)⟩
  have at_ : ∀ (j : Nat) (v : V), (pv ++ vs)[j]? = some v → (L2.start N (pv ++ vs) : List (Option V))[j]? = some (some v) := fun j v h => by
    unfold L2.start
    have hj : j < (pv ++ vs).length := (List.getElem?_eq_some_iff.mp h).1
    rw [List.getElem?_append_left (by rw [List.length_map]; exact hj), List.getElem?_map, h]; rfl
  rcases startE_at h with ⟨rfl, rfl, rfl⟩ | ⟨d, rfl, h2, h3⟩
  · obtain ⟨a, ha, rfl⟩ := pp
    exact ⟨.ref a, at_ 0 _ rfl, a, rfl, ha⟩
  · obtain ⟨v, h4, h5⟩ := r.get h2
    refine ⟨v, at_ i v ?_, h5⟩
    cases pur with
    | false =>
      have e : pv = [] := pp
      subst e
      simpa using h4
    | true =>
      obtain ⟨a, ha, rfl⟩ := pp
      cases i with
      | zero => exact absurd h3 (by decide)
      | succ i => simpa using h4
/-- the text around: built-ins and the defs' contracts at a level -/
structure Around' (P : Program) (w : World) (K : PySem.W.Frag) (mg : Str → Option Value) (base : Heap) (G : Gm) (F : Nat → Sm) (k : Nat) : Prop where
  blt : ∀ x ∈ G.blts, mg x = none
  gcd : G.gcd = true → mg "gcd" = some (.builtin "math.gcd")
  shp : ∀ sh ∈ G.shps, ShpOk P w K mg base F k sh
  pshp : ∀ sh ∈ G.pshps, PShpOk P w K mg base F k sh
section
variable {P : Program} {w : World} {K : PySem.W.Frag} {mg : Str → Option Value} {base : Heap} {G : Gm} {F : Nat → Sm} {k : Nat}
theorem def_ok {x qual : Str} {params : Arguments} {body : List Stmt} {scope : Scope} {dvs : List V} {kws : List (Str × V)} {f : Addr} {fd : FuncData} {N ps : List Str} (df : Df) (W : Nat) (F' : FunD K x qual params body scope dvs kws f fd) (A' : Around' P w K mg base G F k)
    (sc : scC N ps scope = true) (hs : chkSs G df.body ⟨scope, fun _ => true, N⟩ body = true) (hp : ps.length = (if df.pur then 1 else 0) + df.np) : FnG P w K mg base CX0 (k + 1) f fd ps (spF K df.pur df.np (runD G F W df)) := by
  obtain ⟨oc, od, dV, kV, doc, pm, an, cdv, ct, osl, rfl, lk, hcd, _, _⟩ := F'.ex
  have S := fnScope_by sc
  refine FnG.make lk hcd S (fun vs H Q E h => ?_) fun A outer s H vs Q E hr hg h => ?_
  · obtain ⟨ap, Hf, p, ds, d, p', pv, vs', _, _, pp, rfl, r, hl, _⟩ := h
    rw [List.length_append, r.len, hl, hp]
    cases hpur : df.pur with
    | false => rw [hpur] at pp; have e : pv = [] := pp; subst e; rfl
    | true => rw [hpur] at pp; obtain ⟨a, _, rfl⟩ := pp; rfl
  · obtain ⟨ap, Hf, p, ds, d, p', pv, vs', fz, pu, pp, rfl, r, hl, hrun, q⟩ := h
    have St : Sta G F k ⟨scope, fun _ => true, N⟩ (cxOf CX0 P w K mg base N qual scope f cdv A outer s H E).nox :=
      ⟨rfl, rfl, S.nd, rfl, hg, hr, rfl, fun _ _ => rfl, A'.blt, A'.gcd, A'.shp, A'.pshp⟩
    refine ⟨_, (ss_ok W df.body St hs).nox, ?_⟩
    have S0 := start_ok (ns := df.ns) (N := N) fz pu pp r
    unfold runD at hrun
    split at hrun
    · rename_i sl p1 he
      cases hrun
      exact ⟨H, Hf, ap, Hf, _, p, _, _, S0, he, fun H1 Hf1 v x1 r1 => q H1 Hf1 v x1 r1⟩
    · rename_i e1 p1 he
      cases hrun
      exact ⟨H, Hf, ap, Hf, _, p, _, _, S0, he, fun σ H1 Hf1 s1 => q H1 Hf1 .non s1.nx .non⟩
    · cases hrun
end
/-! ### 30. a text of defs -/
abbrev Ent := Addr × FuncData × List Str
structure EntOk (K : PySem.W.Frag) (G : Gm) (df : Df) (e : Ent) : Prop where
  ex : ∃ x qual params body scope dvs kws N, FunD K x qual params body scope dvs kws e.1 e.2.1 ∧ scC N e.2.2 scope = true ∧ chkSs G df.body ⟨scope, fun _ => true, N⟩ body = true ∧ e.2.2.length = (if df.pur then 1 else 0) + df.np
/-- a shape of call -/
structure ShpB (K : PySem.W.Frag) (mg : Str → Option Value) (tbl : List Df) (es : List Ent) (sh : Shp) : Prop where
  ex : ∃ e dvs dls, es[sh.f]? = some e ∧ mg sh.x = some (.ref e.1) ∧ PySem.W.keepIn K (.ref e.1) = true ∧ BindsP K e.2.1 e.2.2 sh.n sh.ks sh.idx dls ∧ Vals dvs dls ∧ (∀ Hf, RpAll K Hf dvs sh.dds) ∧ e.2.2.length = sh.np
  pur : (tbl[sh.f]?).map (·.pur) = some false
structure PShpB (K : PySem.W.Frag) (mg : Str → Option Value) (tbl : List Df) (es : List Ent) (sh : PShp) : Prop where
  ex : ∃ e, es[sh.f]? = some e ∧ mg sh.x = some (.ref e.1) ∧ PySem.W.keepIn K (.ref e.1) = true ∧ BindsP K e.2.1 e.2.2 (sh.n + 1) [] (List.range (sh.n + 1)) [] ∧ e.2.2.length = sh.n + 1
  pur : (tbl[sh.f]?).map (·.pur) = some true
structure TextOk (K : PySem.W.Frag) (mg : Str → Option Value) (G : Gm) (tbl : List Df) (es : List Ent) : Prop where
  blt : ∀ x ∈ G.blts, mg x = none
  gcd : G.gcd = true → mg "gcd" = some (.builtin "math.gcd")
  ents : Paired (fun e df => EntOk K G df e) es tbl
  shp : ∀ sh ∈ G.shps, ShpB K mg tbl es sh
  pshp : ∀ sh ∈ G.pshps, PShpB K mg tbl es sh
theorem paired_at {α β : Type} {R : α → β → Prop} {xs : List α} {ys : List β} (h : Paired R xs ys) : ∀ {i : Nat} {x : α} {y : β}, xs[i]? = some x → ys[i]? = some y → R x y := by
  induction h with
  | nil => intro i x y e; simp at e
  | cons r _ ih =>
    intro i x y e1 e2
    cases i with
    | zero => simp at e1 e2; subst e1; subst e2; exact r
    | succ i => exact ih (by simpa using e1) (by simpa using e2)
theorem paired_at' {α β : Type} {R : α → β → Prop} {xs : List α} {ys : List β} (h : Paired R xs ys) : ∀ {i : Nat} {y : β}, ys[i]? = some y → ∃ x, xs[i]? = some x ∧ R x y := by
  induction h with
  | nil => intro i y e; simp at e
  | cons r _ ih =>
    intro i y e
    cases i with
    | zero => simp at e; subst e; exact ⟨_, rfl, r⟩
    | succ i => obtain ⟨x, h1, h2⟩ := ih (by simpa using e); exact ⟨x, by simpa using h1, h2⟩
section
variable {P : Program} {w : World} {K : PySem.W.Frag} {mg : Str → Option Value} {base : Heap} {G : Gm} {tbl : List Df} {es : List Ent}
theorem fng_never {k : Nat} {fa : Addr} {fd : FuncData} {ps : List Str} {pur : Bool} {n : Nat} {sm : Sm} (h : ∀ ds p, sm ds p = none) : FnG P w K mg base CX0 k fa fd ps (spF K pur n sm) := by
  have no : ∀ vs H Q E, ¬ spF K pur n sm vs H Q E := fun vs H Q E ⟨ap, Hf, p, ds, d, p', pv, vs', _, _, _, _, _, _, q, _⟩ => by rw [h] at q; cases q
  exact ⟨fun vs H Q E q => absurd q (no _ _ _ _), fun A outer s H args us vs Q E _ _ _ _ _ q => absurd q (no _ _ _ _)⟩
theorem text_ok (T : TextOk K mg G tbl es) (W : Nat) : ∀ (k : Nat), Around' P w K mg base G (sem G W tbl k) k ∧ ∀ (i : Nat) (e : Ent) (df : Df), es[i]? = some e → tbl[i]? = some df → FnG P w K mg base CX0 k e.1 e.2.1 e.2.2 (spF K df.pur df.np (sem G W tbl k i))
  | 0 => by
    have h2 : ∀ (i : Nat) (e : Ent) (df : Df), es[i]? = some e → tbl[i]? = some df → FnG P w K mg base CX0 0 e.1 e.2.1 e.2.2 (spF K df.pur df.np (sem G W tbl 0 i)) := fun i e df h1 h2 => fng_never fun _ _ => rfl
    exact ⟨around_of T h2, h2⟩
  | k + 1 => by
    have ih := text_ok T W k
    have h2 : ∀ (i : Nat) (e : Ent) (df : Df), es[i]? = some e → tbl[i]? = some df → FnG P w K mg base CX0 (k + 1) e.1 e.2.1 e.2.2 (spF K df.pur df.np (sem G W tbl (k + 1) i)) := fun i e df h1 h2 => by
      obtain ⟨x, qual, params, body, scope, dvs, kws, N, F', sc, hs, hp⟩ := (paired_at T.ents h1 h2).ex
      have := def_ok df W F' ih.1 sc hs hp
      have e' : sem G W tbl (k + 1) i = runD G (sem G W tbl k) W df := by rw [sem, h2]
      rw [e']
      exact this
    exact ⟨around_of T h2, h2⟩
where
  around_of {k : Nat} {F : Nat → Sm} (T : TextOk K mg G tbl es) (h : ∀ (i : Nat) (e : Ent) (df : Df), es[i]? = some e → tbl[i]? = some df → FnG P w K mg base CX0 k e.1 e.2.1 e.2.2 (spF K df.pur df.np (F i))) : Around' P w K mg base G F k := by
    refine ⟨T.blt, T.gcd, fun sh hsh => ?_, fun sh hsh => ?_⟩
    · obtain ⟨⟨e, dvs, dls, h1, h2, h3, h4, h5, h6, h7⟩, hp⟩ := T.shp sh hsh
      cases hd : tbl[sh.f]? with
      | none => rw [hd] at hp; cases hp
      | some df =>
        rw [hd] at hp
        have hpur : df.pur = false := Option.some.inj hp
        have hF := h sh.f e df h1 hd
        obtain ⟨_, _, _, _, _, _, _, _, _, _, _, hl⟩ := (paired_at T.ents h1 hd).ex
        rw [hpur] at hF hl
        have hl' : df.np = e.2.2.length := by rw [hl]; simp
        rw [hl'] at hF
        exact ⟨e.1, e.2.1, e.2.2, dvs, dls, hF, h2, h3, h4, h5, h6, h7⟩
    · obtain ⟨⟨e, h1, h2, h3, h4, h5⟩, hp⟩ := T.pshp sh hsh
      cases hd : tbl[sh.f]? with
      | none => rw [hd] at hp; cases hp
      | some df =>
        rw [hd] at hp
        have hpur : df.pur = true := Option.some.inj hp
        have hF := h sh.f e df h1 hd
        obtain ⟨_, _, _, _, _, _, _, _, _, _, _, hl⟩ := (paired_at T.ents h1 hd).ex
        rw [hpur] at hF hl
        have hl' : df.np = sh.n := by
          have e2 : e.2.2.length = 1 + df.np := by rw [hl]; simp
          omega
        rw [hl'] at hF
        exact ⟨e.1, e.2.1, e.2.2, hF, h2, h3, h4, h5⟩
end
/-! ### 31. binding -/
section
variable {K : PySem.W.Frag} {x qual : Str} {params : Arguments} {body : List Stmt} {scope : Scope} {dvs : List V} {kws : List (Str × V)} {f : Addr} {fd : FuncData} {ps : List Str}
theorem bindsP_no (F : FunD K x qual params body scope [] kws f fd) (n : Nat) (ks : List Str) (idx : List Nat)
    (h : ∀ (kV doc pm : Value) (an : Option Addr) (cdv ct : Value) (us ws : List Value), us.length = n → ws.length = ks.length → bindArgs (PySem.W.fnOf x qual params body scope .none kV doc pm an cdv ct) ⟨us, ks.zip ws⟩ = pure (ps.zip (permL idx (us ++ ws ++ [])))) : BindsP K fd ps n ks idx [] := by
  obtain ⟨oc, od, dV, kV, doc, pm, an, cdv, ct, osl, rfl, lk, hcd, hD, hK⟩ := F.ex
  rcases hD with ⟨_, rfl⟩ | ⟨e, _⟩
  · exact fun s us ws _ l1 l2 => .of_eq (h kV doc pm an cdv ct us ws l1 l2)
  · exact absurd rfl e
theorem bindsP_d (F : FunD K x qual params body scope dvs kws f fd) (hd : dvs ≠ []) (n : Nat) (ks : List Str) (idx : List Nat)
    (h : ∀ (T : Addr) (kV doc pm : Value) (an : Option Addr) (cdv ct : Value) (us ws its : List Value), us.length = n → ws.length = ks.length → its.length = dvs.length →
      ∃ k, bindArgs (PySem.W.fnOf x qual params body scope (.ref T) kV doc pm an cdv ct) ⟨us, ks.zip ws⟩ = seqItems? (.ref T) >>= k ∧ k (some its.toArray) = pure (ps.zip (permL idx (us ++ ws ++ its)))) : ∃ dls, Vals dvs dls ∧ BindsP K fd ps n ks idx dls := by
  obtain ⟨oc, od, dV, kV, doc, pm, an, cdv, ct, osl, rfl, lk, hcd, hD, hK⟩ := F.ex
  rcases hD with ⟨e, _⟩ | ⟨_, T, o, its, m, rfl, lT, oT, rT⟩
  · exact absurd e hd
  · refine ⟨its, rT, fun s us ws X l1 l2 => ?_⟩
    obtain ⟨k, e1, e2⟩ := h T kV doc pm an cdv ct us ws its l1 l2 rT.length.symm
    refine BindsTo.of_looks fun M => ?_
    rw [e1]
    exact looks_items X lT oT (.of_pure e2)
end
end PV

set_option Elab.async false
set_option linter.all false
set_option maxRecDepth 100000
set_option maxHeartbeats 8000000
namespace PV
open PySem PySem.Spec L2
open PyProof.Rows hiding St

/-! ### 32. the script's purses -/
def purseI (s at_ : Int) : List Int := [(if (0 : Int) > s - 10 ^ 18 then 0 else s - 10 ^ 18).fmod ((10 ^ 60) ^ 8), s.fmod 2147483629, 0, at_]
def GoodP (p : List Int) : Prop := ∃ s at_, 0 ≤ at_ ∧ at_ < 1000 ∧ p = purseI s at_
def spPurse (K : PySem.W.Frag) : Sp := fun vs H Q _ => ∃ (a : Addr) (at_ : Int) (ns : List Int), vs = [.ref a, .int at_] ∧ SqL K H a (ns.map V.int) ∧ 0 ≤ at_ ∧ at_ < 1000 ∧
  ∀ L H' s, Same H H' → H L = none → H' L = some (.lst ((purseI s at_).map V.int)) → Q (.ref L) H'
abbrev ps0 (p1 p2 p3 p4 p5 p6 p7 p8 p9 p10 p11 : Pos) (k6 : Nat) : Stmt :=
  .Assign [.Name "seed" p1] (.Call (.Name "sum" p2) [.Subscript (.Name "script" p3) (.Slice (some (.Name "at" p4)) (some (.BinOp (.Name "at" p5) .Add (.Constant (.int 1) k6 p6) p7)) none p8) p9] [] p10) p11
/-- the return of _law_purse in the core language -/
def purseC : C := .lst (.cons (.bin .mod (.app .int (.cons (.app .max2 (.cons (.bin .sub (.var 2) (.bin .pow (.k (.int 10)) (.k (.int 18)))) (.cons (.k (.int 0)) .nil))) .nil)) (.bin .pow (.bin .pow (.k (.int 10)) (.k (.int 60))) (.k (.int 8))))
  (.cons (.bin .mod (.app .int (.cons (.var 2) .nil)) (.k (.int 2147483629))) (.cons (.k (.int 0)) (.cons (.var 1) .nil))))
def purseG : Gm := ⟨[], [], ["int", "max", "sum"], false⟩
theorem boot_sum' : bootBuiltins "sum" = some (.builtin "sum") := by decide +kernel
theorem boot_max' : bootBuiltins "max" = some (.builtin "max") := by decide +kernel
theorem boot_min' : bootBuiltins "min" = some (.builtin "min") := by decide +kernel
theorem boot_len' : bootBuiltins "len" = some (.builtin "len") := by decide +kernel
theorem cutV_ints (ns : List Int) (lo hi : Option Int) : ∃ ms : List Int, cutV (ns.map V.int) lo hi = ms.map V.int := by
  unfold cutV
  exact ⟨(ns.drop _).take _, by rw [List.map_take, List.map_drop]⟩
theorem pow18 : gPow (.int 10) (.int 18) = some (.int (10 ^ 18)) := rfl
theorem pow60 : gPow (.int 10) (.int 60) = some (.int (10 ^ 60)) := rfl
theorem pow608 : gPow (.int (10 ^ 60)) (.int 8) = some (.int ((10 ^ 60) ^ 8)) := rfl
theorem modBig (i : Int) : gMod (.int i) (.int ((10 ^ 60) ^ 8)) = some (.int (i.fmod ((10 ^ 60) ^ 8))) := by
  exact if_pos (c := ((10 ^ 60) ^ 8 : Int) ≠ 0) (e := none) (by decide +kernel)
theorem modS (i : Int) : gMod (.int i) (.int 2147483629) = some (.int (i.fmod 2147483629)) := by
  exact if_pos (c := (2147483629 : Int) ≠ 0) (e := none) (by decide +kernel)
theorem m2_eq {g : D → D → Option D} {ma mb : Ms D} {env : Env} {p p1 p2 : List D} {x y z : D} (h1 : ma env p = some (x, p1)) (h2 : mb env p1 = some (y, p2)) (h3 : g x y = some z) : m2 g ma mb env p = some (z, p2) := by
  unfold m2; rw [h1]; simp only [Option.bind_some]; rw [h2]; simp only [Option.bind_some]; rw [h3]; rfl
theorem mCons_eq {ma : Ms D} {ms : Ms (List D)} {env : Env} {p p1 p2 : List D} {x : D} {xs : List D} (h1 : ma env p = some (x, p1)) (h2 : ms env p1 = some (xs, p2)) : mCons ma ms env p = some (x :: xs, p2) := by
  unfold mCons; rw [h1]; simp only [Option.bind_some]; rw [h2]; rfl
theorem mApp_eq {g : List D → Option D} {ms : Ms (List D)} {env : Env} {p p1 : List D} {xs : List D} {z : D} (h1 : ms env p = some (xs, p1)) (h2 : g xs = some z) : mApp g ms env p = some (z, p1) := by
  unfold mApp; rw [h1]; simp only [Option.bind_some]; rw [h2]; rfl
theorem purse_ev {F : Nat → Sm} {W : Nat} (s at_ : Int) (e0 : Option Sl) : exs purseG F W (.cons (.ret purseC) .nil) [e0, some (.fro (.int at_)), some (.fro (.int s))] [] = some (.rt (.opn ((purseI s at_).map PyData.int)), []) := by
  have hv2 : ev purseG F (.var 2) [e0, some (.fro (.int at_)), some (.fro (.int s))] [] = some (.int s, []) := by rw [ev]; rfl
  have hv1 : ev purseG F (.var 1) [e0, some (.fro (.int at_)), some (.fro (.int s))] [] = some (.int at_, []) := by rw [ev]; rfl
  have hk : ∀ d, ev purseG F (.k d) [e0, some (.fro (.int at_)), some (.fro (.int s))] [] = some (d, []) := fun d => by rw [ev]; rfl
  have hnil : evs purseG F .nil [e0, some (.fro (.int at_)), some (.fro (.int s))] [] = some ([], []) := by rw [evs]; rfl
  have h1 : ev purseG F (.bin .pow (.k (.int 10)) (.k (.int 18))) [e0, some (.fro (.int at_)), some (.fro (.int s))] [] = some (.int (10 ^ 18), []) := by rw [ev]; exact m2_eq (hk _) (hk _) pow18
  have h2 : ev purseG F (.bin .pow (.k (.int 10)) (.k (.int 60))) [e0, some (.fro (.int at_)), some (.fro (.int s))] [] = some (.int (10 ^ 60), []) := by rw [ev]; exact m2_eq (hk _) (hk _) pow60
  have h3 : ev purseG F (.bin .pow (.bin .pow (.k (.int 10)) (.k (.int 60))) (.k (.int 8))) [e0, some (.fro (.int at_)), some (.fro (.int s))] [] = some (.int ((10 ^ 60) ^ 8), []) := by rw [ev]; exact m2_eq h2 (hk _) pow608
  have h4 : ev purseG F (.bin .sub (.var 2) (.bin .pow (.k (.int 10)) (.k (.int 18)))) [e0, some (.fro (.int at_)), some (.fro (.int s))] [] = some (.int (s - 10 ^ 18), []) := by rw [ev]; exact m2_eq hv2 h1 rfl
  have h5 : ev purseG F (.app .max2 (.cons (.bin .sub (.var 2) (.bin .pow (.k (.int 10)) (.k (.int 18)))) (.cons (.k (.int 0)) .nil))) [e0, some (.fro (.int at_)), some (.fro (.int s))] [] = some (.int (if (0 : Int) > s - 10 ^ 18 then 0 else s - 10 ^ 18), []) := by
    rw [ev]; exact mApp_eq (by rw [evs, evs]; exact mCons_eq h4 (mCons_eq (hk _) hnil)) rfl
  have h6 : ev purseG F (.app .int (.cons (.app .max2 (.cons (.bin .sub (.var 2) (.bin .pow (.k (.int 10)) (.k (.int 18)))) (.cons (.k (.int 0)) .nil))) .nil)) [e0, some (.fro (.int at_)), some (.fro (.int s))] [] = some (.int (if (0 : Int) > s - 10 ^ 18 then 0 else s - 10 ^ 18), []) := by
    rw [ev]; exact mApp_eq (by rw [evs]; exact mCons_eq h5 hnil) rfl
  have h7 : ev purseG F (.app .int (.cons (.var 2) .nil)) [e0, some (.fro (.int at_)), some (.fro (.int s))] [] = some (.int s, []) := by
    rw [ev]; exact mApp_eq (by rw [evs]; exact mCons_eq hv2 hnil) rfl
  rw [exs, ex, purseC, evX, evs, evs, evs, evs]
  have all : mCons (ev purseG F (.bin .mod (.app .int (.cons (.app .max2 (.cons (.bin .sub (.var 2) (.bin .pow (.k (.int 10)) (.k (.int 18)))) (.cons (.k (.int 0)) .nil))) .nil)) (.bin .pow (.bin .pow (.k (.int 10)) (.k (.int 60))) (.k (.int 8)))))
      (mCons (ev purseG F (.bin .mod (.app .int (.cons (.var 2) .nil)) (.k (.int 2147483629)))) (mCons (ev purseG F (.k (.int 0))) (mCons (ev purseG F (.var 1)) (evs purseG F .nil)))) [e0, some (.fro (.int at_)), some (.fro (.int s))] [] = some ((purseI s at_).map PyData.int, []) := by
    refine mCons_eq (by rw [ev]; exact m2_eq h6 h3 (modBig _)) (mCons_eq (by rw [ev]; exact m2_eq h7 (hk _) (modS _)) (mCons_eq (hk _) (mCons_eq hv1 hnil)))
  unfold mThen mRet mOpn mSz
  rw [all]
  rfl
section
variable {P : Program} {w : World} {K : PySem.W.Frag} {mg : Str → Option Value} {base : Heap} {k : Nat}
theorem purse_ok {params : Arguments} {scope : Scope} {dvs : List V} {kws : List (Str × V)} {x qual : Str} {f : Addr} {fd : FuncData} {p1 p2 p3 p4 p5 p6 p7 p8 p9 p10 p11 : Pos} {k6 : Nat} {s2 : Stmt}
    (F' : FunD K x qual params [ps0 p1 p2 p3 p4 p5 p6 p7 p8 p9 p10 p11 k6, s2] scope dvs kws f fd) (sc : scC ["script", "at", "seed"] ["script", "at"] scope = true) (hg : glB scope "sum" = true) (hl : (locB scope "script" && locB scope "at" && locB scope "seed") = true)
    (hs : chkS purseG (.ret purseC) ⟨scope, fun _ => true, ["script", "at", "seed"]⟩ s2 = true) (mb : ∀ x ∈ purseG.blts, mg x = none) : FnG P w K mg base CX0 (k + 1) f fd ["script", "at"] (spPurse K) := by
  obtain ⟨oc, od, dV, kV, doc, pm, an, cdv, ct, osl, rfl, lk, hcd, _, _⟩ := F'.ex
  have S := fnScope_by sc
  obtain ⟨hl, l3⟩ := and_t hl
  obtain ⟨l1, l2⟩ := and_t hl
  refine FnG.make lk hcd S (fun vs H Q E h => ?_) fun A outer s H vs Q E hr hgd h => ?_
  · obtain ⟨a, at_, ns, rfl, _⟩ := h
    rfl
  · obtain ⟨a, at_, ns, rfl, hS, a0, a1, q⟩ := h
    have St : Sta purseG (fun _ _ _ => none) k ⟨scope, fun _ => true, ["script", "at", "seed"]⟩ (cxOf CX0 P w K mg base ["script", "at", "seed"] qual scope f cdv A outer s H E).nox :=
      ⟨rfl, rfl, S.nd, rfl, hgd, hr, rfl, fun _ _ => rfl, mb, fun h => (nomatch h), fun sh h => (List.not_mem_nil h).elim, fun sh h => (List.not_mem_nil h).elim⟩
    have v1 : Vis scope "script" := by rcases loc_ok l1 with h | h; exact .inl h; exact .inr (.inl h)
    have v2 : Vis scope "at" := by rcases loc_ok l2 with h | h; exact .inl h; exact .inr (.inl h)
    refine ⟨_, (pss_cons (ps_set (i := 2) S.nd rfl (loc_ok l3) (pe_callB (cr_sum rfl) (gl_ok St hg) (mb _ (by simp [purseG])) boot_sum' (pa_cons (pe_slice sl_list (pe_var (i := 0) rfl v1) (po_some (pe_var (i := 1) rfl v2)) (po_some (pe_op op_add (pe_var (i := 1) rfl v2) pe_int))) pa_nil)) (by rfl) (.inl rfl)) (pss_cons (s_ok 0 _ St hs) pss_nil)).nox, ?_⟩
    refine ⟨_, rfl, _, rfl, at_, rfl, _, rfl, _, _, rfl, rfl, at_ + 1, rfl, a, _, rfl, hS, fun L hL => ?_⟩
    obtain ⟨ms, hms⟩ := cutV_ints ns (some at_) (some (at_ + 1))
    rw [hms]
    refine ⟨L, ms, rfl, SqL.of upd_same, ?_⟩
    have sH : Same H (upd H L (.lst (ms.map V.int))) := fun b o e => by rw [upd_ne (ne_of_none e hL)]; exact e
    refine ⟨upd H L (.lst (ms.map V.int)), fun _ => none, none, fun _ => none, [none, some (.fro (.int at_)), some (.fro (.int ms.sum))], [], .rt (.opn ((purseI ms.sum at_).map PyData.int)), [], ⟨⟨fun b o e => (nomatch e), fun a e => (nomatch e), fun i sl h => ?_⟩, Nx.refl (fun b o e => (nomatch e)) (fun a e => (nomatch e)), fun i ds b h _ => ?_, fun i j ds es b _ h _ _ => ?_⟩, ?_, ?_⟩
    · match i, h with
      | 0, h => cases h
      | 1, h => cases h; exact ⟨.int at_, rfl, .int _⟩
      | 2, h => cases h; exact ⟨.int ms.sum, rfl, .int _⟩
      | i + 3, h => simp at h
    · match i, h with
      | 0, h => cases h
      | 1, h => cases h
      | 2, h => cases h
      | i + 3, h => simp at h
    · match i, h with
      | 0, h => cases h
      | 1, h => cases h
      | 2, h => cases h
      | i + 3, h => simp at h
    · have := purse_ev (F := fun _ _ _ => none) (W := 0) ms.sum at_ none
      rw [exs] at this
      unfold mThen at this
      split at this
      · rename_i e p1 he
        have he' := he
        rw [ex] at he'
        unfold mRet at he'
        cases hx : evX purseG (fun _ _ _ => none) purseC [none, some (.fro (.int at_)), some (.fro (.int ms.sum))] [] with
        | none => rw [hx] at he'; cases he'
        | some r => rw [hx] at he'; cases he'
      · exact this
    · intro H1 Hf1 v x1 r1
      obtain ⟨b, vs, rfl, h1, h2, h3, h4⟩ := r1
      rw [h4.ints] at h2
      exact q b H1 ms.sum (fun c o e => x1.ext.same c o (by intro z; cases z) (sH c o e)) (by
        cases z : H b with
        | none => rfl
        | some o => rw [sH b o z] at h1; cases h1) h2
end
end PV

set_option Elab.async false
set_option linter.all false
set_option maxRecDepth 100000
set_option maxHeartbeats 8000000
namespace PV
open PySem PySem.Spec L2
open PyProof.Rows hiding St

/-! ### 33. the list of purses -/
structure NewPs (H H' : Hp) (L : Addr) (as : List Addr) (pss : List (List Int)) : Prop where
  same : Same H H'
  newL : H L = none
  atL : H' L = some (.lst (as.map V.ref))
  nd : as.Nodup
  notL : L ∉ as
  new : ∀ a ∈ as, H a = none
  at_ : Paired (fun a (p : List Int) => H' a = some (.lst (p.map V.int))) as pss
  good : ∀ p ∈ pss, GoodP p
def spPs (K : PySem.W.Frag) : Sp := fun vs H Q _ => ∃ (a : Addr) (few : Int) (ns : List Int), vs = [.ref a, .int few] ∧ SqL K H a (ns.map V.int) ∧ few ≤ 100 ∧
  ∀ L H' as pss, NewPs H H' L as pss → Q (.ref L) H'
abbrev psLc (cs : Scope) (q1 q2 q3 q4 q5 q6 q7 q8 q9 q10 q11 q12 q13 q14 q15 q16 q17 q18 : Pos) (k8 : Nat) : Stmt :=
  .Return (some (.ListComp (.Call (.Name "_law_purse" q1) [.Name "script" q2, .Name "at" q3] [] q4) [⟨.Name "at" q5, .Call (.Name "range" q6) [.Call (.Name "max" q7) [.Constant (.int 1) k8 q8, .Call (.Name "min" q9) [.Name "few" q10, .Call (.Name "len" q11) [.Name "script" q12] [] q13] [] q14] [] q15] [] q16, [], 0⟩] cs q17)) q18
theorem paired_mono_mem {α β : Type} {F F' : α → β → Prop} : ∀ {xs : List α} {ys : List β}, Paired F xs ys → (∀ a b, a ∈ xs → F a b → F' a b) → Paired F' xs ys
  | _, _, .nil, _ => .nil
  | _, _, .cons h r, m => .cons (m _ _ (List.mem_cons_self ..) h) (paired_mono_mem r fun a b ha => m a b (List.mem_cons_of_mem _ ha))
section
variable {P : Program} {w : World} {K : PySem.W.Frag} {mg : Str → Option Value} {base : Heap} {k : Nat}
theorem purses_ok {params : Arguments} {scope cs : Scope} {dvs : List V} {kws : List (Str × V)} {x qual : Str} {f g : Addr} {fd gd : FuncData} {q1 q2 q3 q4 q5 q6 q7 q8 q9 q10 q11 q12 q13 q14 q15 q16 q17 q18 : Pos} {k8 : Nat}
    (F' : FunD K x qual params [psLc cs q1 q2 q3 q4 q5 q6 q7 q8 q9 q10 q11 q12 q13 q14 q15 q16 q17 q18 k8] scope dvs kws f fd) (sc : scC ["script", "few", "at"] ["script", "few"] scope = true) (hl : (locB scope "script" && locB scope "few") = true)
    (hg : (glB scope "range" && glB scope "max" && glB scope "min" && glB scope "len") = true) (hb : blkC ["script", "few", "at"] scope cs [("at", 2)] = true)
    (hgc : (glB (relS cs scope) "_law_purse" && visB (relS cs scope) "script" && visB (relS cs scope) "at" && isLocal (relS cs scope) "at") = true)
    (mb : mg "range" = none ∧ mg "max" = none ∧ mg "min" = none ∧ mg "len" = none) (G : FnG P w K mg base CX0 k g gd ["script", "at"] (spPurse K)) (hm : mg "_law_purse" = some (.ref g)) (hk : PySem.W.keepIn K (.ref g) = true)
    (bd : BindsP K gd ["script", "at"] 2 [] [0, 1] []) : FnG P w K mg base CX0 (k + 1) f fd ["script", "few"] (spPs K) := by
  obtain ⟨oc, od, dV, kV, doc, pm, an, cdv, ct, osl, rfl, lk, hcd, _, _⟩ := F'.ex
  have S := fnScope_by sc
  obtain ⟨l1, l2⟩ := and_t hl
  obtain ⟨hg, g4⟩ := and_t hg
  obtain ⟨hg, g3⟩ := and_t hg
  obtain ⟨g1, g2⟩ := and_t hg
  obtain ⟨hgc, c4⟩ := and_t hgc
  obtain ⟨hgc, c3⟩ := and_t hgc
  obtain ⟨c1, c2⟩ := and_t hgc
  have gl : ∀ {sc : Scope} {y : Str}, glB sc y = true → sc.names.lookup y = some .globalImplicit := fun {sc y} h => by
    unfold glB at h
    split at h
    · assumption
    · cases h
  refine FnG.make lk hcd S (fun vs H Q E h => ?_) fun A outer s H vs Q E hr hgd h => ?_
  · obtain ⟨a, few, ns, rfl, _⟩ := h
    rfl
  · obtain ⟨a, few, ns, rfl, hS, hfew, q⟩ := h
    have v1 : Vis scope "script" := by rcases loc_ok l1 with h | h; exact .inl h; exact .inr (.inl h)
    have v2 : Vis scope "few" := by rcases loc_ok l2 with h | h; exact .inl h; exact .inr (.inl h)
    let X := (cxOf CX0 P w K mg base ["script", "few", "at"] qual scope f cdv A outer s H E).nox
    have hrng : PI X (.Name "at" q5) (.Call (.Name "range" q6) [.Call (.Name "max" q7) [.Constant (.int 1) k8 q8, .Call (.Name "min" q9) [.Name "few" q10, .Call (.Name "len" q11) [.Name "script" q12] [] q13] [] q14] [] q15] [] q16) _ :=
      pi_range1 (gl g1) mb.1 (pa_cons (pe_callB (call_max2 rfl) (gl g2) mb.2.1 boot_max' (pa_cons pe_int (pa_cons (pe_callB (call_min2 rfl) (gl g3) mb.2.2.1 boot_min' (pa_cons (pe_var (i := 1) rfl v2) (pa_cons (pe_callB call_len_seq (gl g4) mb.2.2.2 boot_len' (pa_cons (pe_var (i := 0) rfl v1) pa_nil)) pa_nil))) pa_nil))) pa_nil)
    refine ⟨_, (pss_one (ps_ret (pe_lc (X := X) (own := [("at", 2)]) (te := tCallG (spPurse K) 2 0 [0, 1] [] (tCons (tVar 0) (tCons (tVar 2) tNil)) tNil) (tt := tYes) (g := gName 2) rfl S.nd hrng (blkOk_by hb) (fun s0 H0 C cl fp => pg_name S.nd rfl (.inl (isLocal_ok c4)) (.inr (isLocal_ok c4)))
      (fun s0 H0 C cl fp => pts_nil) (fun s0 H0 C cl fp => ?_) (fun _ => rfl)))).nox, ?_⟩
    · exact pe_g1 (X := X.blk s0 H0 cs (compEnvC cs cl C X.env) fp) G hr hgd (gl c1) hm hk bd .nil (pa_cons (pe_var (i := 0) rfl (vis_ok c2)) (pa_cons (pe_var (i := 2) rfl (vis_ok c3)) pa_nil)) (by decide) rfl
    · refine ⟨.int few, rfl, .ref a, rfl, a, _, rfl, .inl hS, _, _, rfl, _, _, rfl, _, rfl, ?_, ?_, ?_⟩
      · split <;> split at * <;> omega
      · split <;> split at * <;> omega
      · intro D hD
        have hn : (if (if ((List.map V.int ns).length : Int) < few then ((List.map V.int ns).length : Int) else few) > 1 then (if ((List.map V.int ns).length : Int) < few then ((List.map V.int ns).length : Int) else few) else 1 : Int).toNat ≤ 100 := by
          split <;> split at * <;> omega
        refine lc_range (fun i H1 => ∃ as pss, as.length = i ∧ NewPs H H1 D as pss) ⟨[], [], rfl, ⟨fun b o e => by rw [upd_ne (ne_of_none e hD)]; exact e, hD, upd_same, List.nodup_nil, List.not_mem_nil, fun a h => (List.not_mem_nil h).elim, .nil, fun p h => (List.not_mem_nil h).elim⟩⟩ ?_ ?_
        · rintro i H1 hi ⟨as, pss, hlen, R⟩
          refine ⟨rfl, ?_⟩
          simp only [tYes, ↓reduceIte]
          refine ⟨_, rfl, _, rfl, rfl, rfl, a, 0 + (i : Int), ns, rfl, R.same.seq hS, by omega, by omega, fun L H2 sd s2 nL aL => ?_⟩
          have hLD : L ≠ D := by rintro rfl; rw [R.atL] at nL; cases nL
          have hLas : L ∉ as := fun hm => by
            obtain ⟨j, hj, e⟩ := List.getElem_of_mem hm
            have hj2 : j < pss.length := by rw [← R.at_.length]; exact hj
            have := paired_at R.at_ (List.getElem?_eq_getElem hj) (List.getElem?_eq_getElem hj2)
            rw [e, nL] at this; cases this
          have hnew : ∀ b ∈ as, b ≠ D := fun b hb e => R.notL (e ▸ hb)
          refine ⟨as.map V.ref, s2 _ _ R.atL, ?_, as ++ [L], pss ++ [purseI sd (0 + (i : Int))], by simp [hlen], ?_⟩
          · rw [List.length_map, hlen]
            exact Nat.lt_of_lt_of_le hi (Nat.le_trans hn (by decide))
          · refine ⟨fun b o e => ?_, R.newL, ?_, ?_, ?_, ?_, ?_, ?_⟩
            · rw [upd_ne (ne_of_none e R.newL)]
              exact s2 _ _ (R.same _ _ e)
            · rw [upd_same, List.map_append]; rfl
            · rw [List.nodup_append]
              refine ⟨R.nd, by simp, fun b hb c hc e => ?_⟩
              rw [List.mem_singleton] at hc
              rw [e, hc] at hb
              exact hLas hb
            · rw [List.mem_append, List.mem_singleton]
              rintro (h | h)
              · exact R.notL h
              · exact hLD h.symm
            · intro b hb
              rw [List.mem_append, List.mem_singleton] at hb
              rcases hb with hb | rfl
              · exact R.new b hb
              · exact R.same.free nL
            · refine Paired.snoc (paired_mono_mem R.at_ fun b p hb h => ?_) ?_
              · rw [upd_ne (hnew b hb)]
                exact s2 _ _ h
              · rw [upd_ne hLD]
                exact aL
            · intro p hp
              rw [List.mem_append, List.mem_singleton] at hp
              rcases hp with hp | rfl
              · exact R.good p hp
              · exact ⟨sd, 0 + (i : Int), by omega, by omega, rfl⟩
        · rintro H1 ⟨as, pss, hlen, R⟩
          exact q D H1 as pss R
end
end PV

set_option Elab.async false
set_option linter.all false
set_option maxRecDepth 100000
set_option maxHeartbeats 8000000
namespace PV
open PySem PySem.Spec L2
open PyProof.Rows hiding St

/-! ### 34. the law's loop over the purses -/
theorem pss_len {X : Cx} {sts : List Stmt} {t : TS} (h : PSs X sts t) : PSs X sts (fun D σ H => t { nx := fun σ' H' => σ'.length = X.N.length → D.nx σ' H', rt := D.rt, bk := fun σ' H' => σ'.length = X.N.length → D.bk σ' H', ct := fun σ' H' => σ'.length = X.N.length → D.ct σ' H' } σ H) := by
  refine ⟨fun pins s σ H D I hw => wpAny_mono (h.run pins s σ H _ I hw) (fun f s' hs => ?_) fun e s' z => z⟩
  cases f with
  | next => obtain ⟨σ', H', I', q⟩ := hs; exact ⟨σ', H', I', q I'.len⟩
  | brk => obtain ⟨σ', H', I', q⟩ := hs; exact ⟨σ', H', I', q I'.len⟩
  | cont => obtain ⟨σ', H', I', q⟩ := hs; exact ⟨σ', H', I', q I'.len⟩
  | ret u => exact hs
def env0 (n i : Nat) : Env := List.set (List.replicate n none) i (some .pur)
abbrev forP (x : Str) (p1 p2 p3 p4 p5 pos : Pos) (c : Int) (k0 : Nat) (body : List Stmt) : Stmt := .For (.Name x p1) (.Call (.Name "_law_purses" p2) [.Name "script" p3, .Constant (.int c) k0 p4] [] p5) body [] pos
theorem env0_at {n i j : Nat} {s : Sl} (h : (env0 n i : List (Option Sl))[j]? = some (some s)) : j = i ∧ s = .pur := by
  unfold env0 at h
  by_cases hj : i = j
  · subst hj
    by_cases hl : i < n
    · rw [List.getElem?_set_self (by rw [List.length_replicate]; exact hl)] at h
      cases h; exact ⟨rfl, rfl⟩
    · rw [List.getElem?_eq_none (by rw [List.length_set, List.length_replicate]; omega)] at h; cases h
  · rw [List.getElem?_set_ne hj, List.getElem?_replicate] at h
    split at h <;> cases h
section
variable {G : Gm} {F : Nat → Sm} {k : Nat}
theorem forP_ok {s : Stc} {X : Cx} {x : Str} {i W : Nat} {p1 p2 p3 p4 p5 pos : Pos} {c : Int} {k0 : Nat} {body : List Stmt} {cb : Ss} {g : Addr} {gd : FuncData} {j : Nat} (S : Sta G F k s X) (hN : X.N[i]? = some x) (hl : isLocal s.sc x = true) (h0 : X.N[0]? = some ("script" : Str)) (v0 : visB s.sc "script" = true)
    (hg : glB s.sc "_law_purses" = true) (P : FnG X.prog X.w X.K X.mg X.base CX0 j g gd ["script", "few"] (spPs X.K)) (hj : j ≤ k) (hm : X.mg "_law_purses" = some (.ref g)) (hk : PySem.W.keepIn X.K (.ref g) = true) (bd : BindsP X.K gd ["script", "few"] 2 [] [0, 1] []) (hc : c ≤ 100)
    (hb : chkSs G cb s body = true) : PS X (forP x p1 p2 p3 p4 p5 pos c k0 body) (fun Dn σ H => (∃ (a : Addr) (ns : List Int), (σ : List (Option V))[0]? = some (some (V.ref a)) ∧ SqL X.K H a (ns.map V.int)) ∧ (∀ p, GoodP p → ∃ e p', exs G F W cb (env0 X.N.length i) (p.map PyData.int) = some (.nx e, p')) ∧ ∀ σ' H', Same H H' → Dn.nx σ' H') := by
  have loc : X.env.scope.names.lookup x = some .local := by rw [S.sc]; exact isLocal_ok hl
  refine ps_weak (ps_for (own_pass S) S.calm (pi_list (pe_g1 P (S.room.mono hj) S.gd (gl_ok S hg) hm hk bd .nil (pa_cons (pe_var (i := 0) h0 (by rw [S.sc]; exact vis_ok v0)) (pa_cons pe_int pa_nil)) (by decide) rfl))
    (pg_name (i := i) S.nd hN (.inl loc) (.inr loc)) (pss_len (ss_ok W cb S hb)) (fun _ => rfl)) fun Dn σ H hlen ⟨⟨a, ns, ha, hS⟩, hrun, hq⟩ => ?_
  refine ⟨.ref a, ha, rfl, rfl, a, c, ns, rfl, hS, hc, fun L H1 as pss R => ⟨L, rfl, ⟨_, SqL.of R.atL⟩, ?_⟩⟩
  have hlp : as.length = pss.length := R.at_.length
  refine for_list (K := X.K) (a := L) (g := gName i) (tb := fun D σ H => tS X.K (exs G F W cb) { nx := fun σ' H' => σ'.length = X.N.length → D.nx σ' H', rt := D.rt, bk := fun σ' H' => σ'.length = X.N.length → D.bk σ' H', ct := fun σ' H' => σ'.length = X.N.length → D.ct σ' H' } σ H) (xs := as.map V.ref) (fun m σ2 H2 => σ2.length = X.N.length ∧ Same H H2 ∧ H2 L = some (.lst (as.map V.ref)) ∧ ∀ j a p, m ≤ j → as[j]? = some a → pss[j]? = some p → H2 a = some (.lst (p.map V.int)))
    ⟨hlen, R.same, R.atL, fun j a p _ h1 h2 => paired_at R.at_ h1 h2⟩ (fun m σ2 H2 _ ⟨_, _, h, _⟩ => SqL.of h) ?_ (fun σ2 H2 ⟨_, h, _⟩ => hq σ2 H2 h)
  rintro m y σ2 H2 hy ⟨hlen2, sm, hL, hps⟩
  rw [List.getElem?_map] at hy
  cases ham : as[m]? with
  | none => rw [ham] at hy; cases hy
  | some am =>
    rw [ham] at hy
    cases hy
    have hmlt : m < pss.length := by rw [← hlp]; exact (List.getElem?_eq_some_iff.mp ham).1
    have hpm : pss[m]? = some pss[m] := List.getElem?_eq_getElem hmlt
    have hat := hps m am _ (Nat.le_refl _) ham hpm
    have hin : am ∈ as := List.mem_of_getElem? ham
    obtain ⟨e, p', he⟩ := hrun pss[m] (R.good _ (List.mem_of_getElem? hpm))
    show tS X.K (exs G F W cb) _ (σ2.set i (some (.ref am))) H2
    have pu : PurAt X.K (some am) ((pss[m]).map PyData.int) H2 (fun _ => none) := fun b eb => by
      cases eb
      exact ⟨rfl, _, hat, RpAll.ofInts _⟩
    refine ⟨H2, fun _ => none, some am, fun _ => none, env0 X.N.length i, (pss[m]).map PyData.int, .nx e, p', ⟨⟨fun b o e => (nomatch e), pu, fun j sl h => ?_⟩, Nx.refl (fun b o e => (nomatch e)) pu, fun j ds b h _ => ?_, fun j l ds es b _ h _ _ => ?_⟩, he, ?_⟩
    · obtain ⟨rfl, rfl⟩ := env0_at h
      exact ⟨.ref am, List.getElem?_set_self (by rw [hlen2]; exact (List.getElem?_eq_some_iff.mp hN).1), am, rfl, rfl⟩
    · cases (env0_at h).2
    · cases (env0_at h).2
    · intro σ3 H3 Hf3 S3 hl3
      have same : ∀ b o, b ≠ am → H2 b = some o → H3 b = some o := fun b o n e => S3.nx.ext.same b o (by intro z; cases z; exact n rfl) e
      refine ⟨hl3, fun b o e => same b o ?_ (sm b o e), same L _ ?_ hL, fun j a p hj h1 h2 => same a _ ?_ (hps j a p (by omega) h1 h2)⟩
      · rintro rfl
        rw [R.new _ hin] at e; cases e
      · rintro rfl
        exact R.notL hin
      · rintro rfl
        obtain ⟨hj1, e1⟩ := List.getElem?_eq_some_iff.mp h1
        obtain ⟨hm1, e2⟩ := List.getElem?_eq_some_iff.mp ham
        exact (List.pairwise_iff_getElem.mp R.nd) m j hm1 hj1 (by omega) (e2.trans e1.symm)
end
/-! ### 35. the law -/
def spLaw (K : PySem.W.Frag) (n : Nat) : Sp := fun vs H Q _ => ∃ (a : Addr) (ns : List Int), vs = [.ref a] ∧ SqL K H a (ns.map V.int) ∧ ns.length ≤ n ∧ ∀ H', Q (.bl true) H'
section
variable {P : Program} {w : World} {K : PySem.W.Frag} {mg : Str → Option Value} {base : Heap} {G : Gm} {F : Nat → Sm} {k : Nat}
theorem law_ok {x qual : Str} {params : Arguments} {scope : Scope} {dvs : List V} {kws : List (Str × V)} {f g : Addr} {fd gd : FuncData} {N : List Str} {y : Str} {i W n j : Nat} {p1 p2 p3 p4 p5 pos : Pos} {c : Int} {k0 : Nat} {body rest : List Stmt} {cb cr : Ss}
    (F' : FunD K x qual params (forP y p1 p2 p3 p4 p5 pos c k0 body :: rest) scope dvs kws f fd) (A' : Around' P w K mg base G F k) (sc : scC N ["script"] scope = true)
    (hN : N[i]? = some y) (hl : isLocal scope y = true) (h0 : N[0]? = some ("script" : Str)) (v0 : visB scope "script" = true) (hg : glB scope "_law_purses" = true)
    (Pp : FnG P w K mg base CX0 j g gd ["script", "few"] (spPs K)) (hj : j ≤ k) (hm : mg "_law_purses" = some (.ref g)) (hk : PySem.W.keepIn K (.ref g) = true) (bd : BindsP K gd ["script", "few"] 2 [] [0, 1] []) (hc : c ≤ 100)
    (hb : chkSs G cb ⟨scope, fun _ => true, N⟩ body = true) (hr' : chkSs G cr ⟨scope, fun _ => true, N⟩ rest = true)
    (hA : ∀ p, GoodP p → ∃ e p', exs G F W cb (env0 N.length i) (p.map PyData.int) = some (.nx e, p')) (hB : ∃ p', exs G F W cr (List.replicate N.length none) [] = some (.rt (.fro (.bool true)), p')) : FnG P w K mg base CX0 (k + 1) f fd ["script"] (spLaw K n) := by
  obtain ⟨oc, od, dV, kV, doc, pm, an, cdv, ct, osl, rfl, lk, hcd, _, _⟩ := F'.ex
  have S := fnScope_by sc
  refine FnG.make lk hcd S (fun vs H Q E h => ?_) fun A outer s H vs Q E hr hgd h => ?_
  · obtain ⟨a, ns, rfl, _⟩ := h
    rfl
  · obtain ⟨a, ns, rfl, hS, hn, q⟩ := h
    have St : Sta G F k ⟨scope, fun _ => true, N⟩ (cxOf CX0 P w K mg base N qual scope f cdv A outer s H E).nox :=
      ⟨rfl, rfl, S.nd, rfl, hgd, hr, rfl, fun _ _ => rfl, A'.blt, A'.gcd, A'.shp, A'.pshp⟩
    refine ⟨_, (pss_cons (forP_ok (W := W) St hN hl h0 v0 hg Pp hj hm hk bd hc hb) (ss_ok W cr St hr')).nox, ?_⟩
    refine ⟨⟨a, ns, rfl, hS⟩, hA, fun σ' H' sm => ?_⟩
    obtain ⟨p', he⟩ := hB
    have no : ∀ (j : Nat) (sl : Sl), (List.replicate N.length (none : Option Sl))[j]? ≠ some (some sl) := fun j sl h => by
      rw [List.getElem?_replicate] at h
      split at h <;> cases h
    refine ⟨H', fun _ => none, none, fun _ => none, List.replicate N.length none, [], _, p', ⟨⟨fun b o e => (nomatch e), fun a e => (nomatch e), fun j sl h => absurd h (no j sl)⟩, Nx.refl (fun b o e => (nomatch e)) (fun a e => (nomatch e)), fun j ds b h _ => absurd h (no j _), fun j l ds es b _ h _ _ => absurd h (no j _)⟩, he, ?_⟩
    intro H1 Hf1 v x1 r1
    have r2 : Rp K Hf1 v (.bool true) := r1
    cases r2
    exact q H1
theorem law_callG {mb : Str → Option Value} {fa a : Addr} {fd : FuncData} {x : Str} {sp : Sp} {s₁ : Shared} {vs : List Value} {ns : List Int}
    (KX : K.In s₁.heap) (hns : s₁.heap.Ns mainGlobals mg) (hb : s₁.heap.Ns builtinsNs mb) (hbb : ∀ x : Str, x ≠ "__name__" → mb x = bootBuiltins x) (hlim : s₁.heap.NoLimit) (hg : s₁.gens = #[])
    (ha : s₁.heap.get? a = some { cls := .type "list", data := .seq vs.toArray }) (hi : IntsAre vs ns) (hl : ns.length ≤ sizeLine) (hr : Room k callerA)
    (F : ∀ base : Heap, K.In base → base.Ns mainGlobals mg → FnG P w K mg base CX0 k fa fd [x] sp) (hbind : ∀ (s : Shared) (u : Value), BindsTo s fd ⟨[u], []⟩ [(x, u)])
    (hsp : ∀ H : Hp, Only H → SqL K H a (ns.map V.int) → sp [.ref a] H (fun v _ => v = .bl true) fun _ _ _ => False) :
    codeAny (model P w) callerA (.call (.ref fa) ⟨[.ref a], []⟩) (fun r s' => r = .ok (.ret (.bool true)) ∧ OldK s₁.heap s'.heap ∧ s'.os = s₁.os ∧ AllBare s'.gens) s₁ := by
  have rv := vals_ints hi
  have lenV := hi.length
  have core : ∀ H : Hp, Only H → SqL K H a (ns.map V.int) → HOk P w H s₁.heap → (∀ b, H b ≠ none → b = a) → (H a ≠ none → K.lookup a = none) →
      codeAny (model P w) callerA (.call (.ref fa) ⟨[.ref a], []⟩) (fun r s' => r = .ok (.ret (.bool true)) ∧ OldK s₁.heap s'.heap ∧ s'.os = s₁.os ∧ AllBare s'.gens) s₁ := by
    intro H hO hS hok hA hK
    have base_of : ∀ {b : Addr} {o : Obj}, s₁.heap.get? b = some o → H b = none → (hidT s₁.heap H).get? b = some o := fun e n => hidT_get e n
    have noA : ∀ {b : Addr} {o : Obj} {es : Array DictEntry} {ep : Nat}, s₁.heap.get? b = some o → o.data = .dict es ep → H b = none := fun {b o es ep} e d => by
      cases q : H b with
      | none => rfl
      | some u =>
        have e' : b = a := hA b (by rw [q]; simp)
        subst e'
        rw [ha] at e; cases e
        have d' : Data.seq vs.toArray _ = Data.dict es ep := d
        cases d'
    have nsK : ∀ {b : Addr} {m : Str → Option Value}, s₁.heap.Ns b m → (hidT s₁.heap H).Ns b m := fun {b m} ⟨o, es, ep, e, d, r⟩ => ⟨o, es, ep, base_of e (noA e d), d, r⟩
    have hKb : K.In (hidT s₁.heap H) := fun b o e => base_of (KX b o e) (by
      cases q : H b with
      | none => rfl
      | some u =>
        have e' : b = a := hA b (by rw [q]; simp)
        subst e'
        rw [hK (by rw [q]; simp)] at e; cases e)
    have hM : Mod K mg (hidT s₁.heap H) := ⟨hKb, nsK hns, ⟨mb, nsK hb, hbb⟩, let ⟨mc, h1, h2⟩ := hlim; ⟨mc, nsK h1, h2⟩⟩
    have e0 : Env0 P w K mg (hidT s₁.heap H) callerA [] s₁ H := ⟨rfl, hM, fun b o e => of_hidT e, Nat.le_of_eq (hidT_size _ _), trivial, fun b hb => absurd (show b ∈ ([] : List Addr) from hb) (by simp), hok, .of_eq hg⟩
    refine codeAny_mono ((F _ hKb (nsK hns)).go callerA [] s₁ H ⟨[.ref a], []⟩ [.ref a] [.ref a] _ _ hr rfl e0 (hbind s₁ (.ref a)) (.cons rfl .nil) (hsp H hO hS)) fun r s' h => ?_
    cases r with
    | error e => exact h.elim
    | ok fl =>
      cases fl with
      | next => exact False.elim h
      | brk => exact False.elim h
      | cont => exact False.elim h
      | ret u =>
        obtain ⟨v, H', os, bare, un, hok', r', q⟩ := h
        have q' : v = .bl true := q
        subst q'
        obtain rfl : u = Value.bool true := r'
        refine ⟨rfl, OldK.of_keep fun b o e => ?_, os, bare⟩
        cases q : H b with
        | none => exact un.keep b o e q (by intro z; exact absurd (show b ∈ ([] : List Addr) from z) (by simp)) (by simp)
        | some u =>
          rcases hO b with z | ⟨ob, xs, z⟩
          · rw [q] at z; cases z
          · have z2 := un.frzs b ob _ z
            obtain ⟨e1, _⟩ := hok b _ z
            obtain ⟨e2, _⟩ := hok' b _ z2
            rw [e] at e1; cases e1
            exact e2
  cases hk : K.lookup a with
  | some o =>
    have e := KX a o hk
    rw [ha] at e
    cases e
    refine core (fun _ => none) (fun _ => .inl rfl) (.inr ⟨_, vs.toArray, _, hk, rfl, rfl, rfl, by rw [List.size_toArray, lenV]; exact hl, by simpa using rv⟩) (fun b u z => by have z' : (none : Option HO) = some u := z; cases z') (fun b z => absurd rfl z) fun z => absurd rfl z
  | none =>
    refine core (fun b => if b = a then some (.frz { cls := .type "list", data := .seq vs.toArray } (.lst (ns.map V.int))) else none) (fun b => ?_) (.inl (.inr ⟨{ cls := .type "list", data := .seq vs.toArray }, if_pos rfl⟩)) (fun b u z => ?_) (fun b z => ?_) fun _ => hk
    · by_cases hb : b = a
      · exact .inr ⟨_, _, if_pos hb⟩
      · exact .inl (if_neg hb)
    · by_cases hb : b = a
      · have z' := (if_pos hb).symm.trans z
        cases z'
        subst hb
        exact ⟨ha, by rw [List.length_map]; exact hl, vs, _, rv, ha⟩
      · have z' := (if_neg hb).symm.trans z
        cases z'
    · by_cases hb : b = a
      · exact hb
      · exact absurd (if_neg hb) z
end
theorem walk_ofG {l : PySem.W.OpenLaw} {n k : Nat} {q : Program} {loose : List Str} {XP : (Str → Option Value) → Heap → Prop} {YP : World → Heap → Prop} {d : DefRec} {K : Params → PySem.W.Frag} {x : Str}
    (hn : l.most = some n) (hn2 : n ≤ sizeLine) (hdf : d.params.defaults = []) (hr : Room k callerA)
    (hY : ∀ (w : World) (h : Heap), YP w h → (K w.params).In h)
    (F : ∀ (w : World) (mg : Str → Option Value) (fa : Addr) (h : Heap), (K w.params).In h → h.Ns mainGlobals mg → mg d.name = some (.ref fa) →
      ∃ fd : FuncData, (∀ (s : Shared) (u : Value), BindsTo s fd ⟨[u], []⟩ [(x, u)]) ∧
        ∀ base : Heap, (K w.params).In base → base.Ns mainGlobals mg → FnG l.prog w (K w.params) mg base CX0 k fa fd [x] (spLaw (K w.params) n)) :
    PySem.W.WalkO q loose XP YP l.row.toRowW d [] (fun f vs => PySem.call f vs) := by
  refine Att.attach_call hn hdf fun w s₀ s₁ mg mb fa o pm cd doc a vs ns G Y ho hd hcd hmg hobj hints hlen hg => ?_
  have KX := hY w _ Y
  obtain ⟨fd, hb, hF⟩ := F w mg fa _ KX G.T.g hmg
  exact law_callG KX G.T.g G.T.b G.T.builtins G.T.nolimit hg hobj hints (Nat.le_trans hlen hn2) hr hF hb fun H hO hS => ⟨a, ns, rfl, hS, hlen, fun _ => rfl⟩
end PV

set_option Elab.async false
set_option linter.all false
set_option maxRecDepth 100000
set_option maxHeartbeats 8000000
namespace K73
open PySem PySem.Spec L2 PV
open PyProof.Rows hiding St
def b_is_whole : Ss := .cons (.ret (.and (.isi (.ov 0) [.int]) (.not (.isi (.ov 0) [.bool]))))
  .nil
def N_is_whole : List Str := ["value"]
def P_is_whole : List Str := ["value"]
def d_is_whole : Df := ⟨false, 1, 1, b_is_whole⟩
def b_is_count : Ss := .cons (.ret (.and (.call 0 (.cons (.var 0) .nil) .nil) (.cmp .ge (.ov 0) (.app .max2 (.cons (.ov 1) (.cons (.k (.int 0)) .nil))))))
  .nil
def N_is_count : List Str := ["value", "least"]
def P_is_count : List Str := ["value", "least"]
def d_is_count : Df := ⟨false, 2, 2, b_is_count⟩
def b_check_many : Ss := .cons (.ite [] (.not (.tst (.call 1 (.cons (.var 0) (.cons (.k (.int 1)) .nil)) .nil))) (.cons .bad
  .nil) .nil)
  .nil
def N_check_many : List Str := ["many"]
def P_check_many : List Str := ["many"]
def d_check_many : Df := ⟨false, 1, 1, b_check_many⟩
def b_are_counts_below : Ss := .cons (.ite [] (.or (.not (.tst (.isi (.ov 1) [.list]))) (.cmp .ne (.app .len (.cons (.ov 1) .nil)) (.bin .div (.bin .mul (.ov 0) (.bin .sub (.ov 0) (.k (.int 1)))) (.k (.int 2))))) (.cons (.ret (.k (.bool false)))
  .nil) .nil)
  (.cons (.ret (.app .all (.cons (.comp (.nm 2) [2] (.seq (.ov 1)) (.and (.call 2 (.cons (.var 2) .nil) .nil) (.cmp .lt (.ov 2) (.bin .sub (.ov 0) (.k (.int 1)))))) .nil)))
  .nil)
def N_are_counts_below : List Str := ["many", "value", "at"]
def P_are_counts_below : List Str := ["many", "value"]
def d_are_counts_below : Df := ⟨false, 2, 3, b_are_counts_below⟩
def b_exchanged : Ss := .cons (.ret (.lst (.star (.cutH (.ov 0) (.ov 1)) (.cons (.ix (.ov 0) (.bin .add (.ov 1) (.k (.int 1)))) (.cons (.ix (.ov 0) (.ov 1)) (.star (.cutL (.ov 0) (.bin .add (.ov 1) (.k (.int 2)))) .nil))))))
  .nil
def N_exchanged : List Str := ["order", "at"]
def P_exchanged : List Str := ["order", "at"]
def d_exchanged : Df := ⟨false, 2, 2, b_exchanged⟩
def b_is_row_there : Ss := .cons (.ite [] (.not (.tst (.call 3 (.cons (.var 0) (.cons (.var 1) .nil)) .nil))) (.cons (.ret (.k (.bool false)))
  .nil) .nil)
  (.cons (.set 2 (.lrg1 (.ov 0)))
  (.cons (.for (.nm 3) (.seq (.var 1)) (.cons (.ite [] (.cmp .gt (.ix (.ov 2) (.ov 3)) (.ix (.ov 2) (.bin .add (.ov 3) (.k (.int 1))))) (.cons (.ret (.k (.bool false)))
  .nil) .nil)
  (.cons (.set 2 (.call 4 (.cons (.var 2) (.cons (.var 3) .nil)) .nil))
  .nil)))
  (.cons (.ret (.k (.bool true)))
  .nil)))
def N_is_row_there : List Str := ["many", "value", "order", "at"]
def P_is_row_there : List Str := ["many", "value"]
def d_is_row_there : Df := ⟨false, 2, 4, b_is_row_there⟩
def b_is_exchange_row : Ss := .cons (.exp (.call 5 (.cons (.var 0) .nil) .nil))
  (.cons (.ret (.call 6 (.cons (.var 0) (.cons (.var 1) .nil)) .nil))
  .nil)
def N_is_exchange_row : List Str := ["many", "value"]
def P_is_exchange_row : List Str := ["many", "value"]
def d_is_exchange_row : Df := ⟨false, 2, 2, b_is_exchange_row⟩
def b_check_row : Ss := .cons (.exp (.call 5 (.cons (.var 0) .nil) .nil))
  (.cons (.ite [] (.not (.tst (.call 6 (.cons (.var 0) (.cons (.var 1) .nil)) .nil))) (.cons .bad
  .nil) .nil)
  .nil)
def N_check_row : List Str := ["many", "row"]
def P_check_row : List Str := ["many", "row"]
def d_check_row : Df := ⟨false, 2, 2, b_check_row⟩
def b_order_there : Ss := .cons (.setX 2 (.lrg1 (.ov 0)))
  (.cons (.for (.nm 3) (.seq (.var 1)) (.cons (.frz 2 (.setX 2 (.call 4 (.cons (.var 2) (.cons (.var 3) .nil)) .nil)))
  .nil))
  (.cons (.retV 2)
  .nil))
def N_order_there : List Str := ["many", "row", "order", "at"]
def P_order_there : List Str := ["many", "row"]
def d_order_there : Df := ⟨false, 2, 4, b_order_there⟩
def b_order_behind : Ss := .cons (.exp (.call 7 (.cons (.var 0) (.cons (.var 1) .nil)) .nil))
  (.cons (.ite [] (.or (.not (.tst (.call 2 (.cons (.var 2) .nil) .nil))) (.cmp .gt (.ov 2) (.app .len (.cons (.ov 1) .nil)))) (.cons .bad
  .nil) .nil)
  (.cons (.ret (.call 8 (.cons (.var 0) (.cons (.cutH (.ov 1) (.ov 2)) .nil)) .nil))
  .nil))
def N_order_behind : List Str := ["many", "row", "steps"]
def P_order_behind : List Str := ["many", "row", "steps"]
def d_order_behind : Df := ⟨false, 3, 3, b_order_behind⟩
def b_how_many_rows : Ss := .cons (.exp (.call 5 (.cons (.var 0) .nil) .nil))
  (.cons (.asg (.tp [.nm 2, .nm 3]) (.tup (.cons (.k (.int 1)) (.cons (.k (.int 1)) .nil))))
  (.cons (.for (.nm 1) (.rng1 (.cons (.bin .div (.bin .mul (.ov 0) (.bin .sub (.ov 0) (.k (.int 1)))) (.k (.int 2))) .nil)) (.cons (.set 2 (.bin .mul (.ov 2) (.bin .add (.ov 1) (.k (.int 1)))))
  .nil))
  (.cons (.for (.nm 1) (.rng2 (.cons (.k (.int 1)) (.cons (.ov 0) .nil))) (.cons (.for (.nm 4) (.rng1 (.cons (.bin .sub (.ov 0) (.ov 1)) .nil)) (.cons (.set 3 (.bin .mul (.ov 3) (.bin .sub (.bin .mul (.k (.int 2)) (.ov 1)) (.k (.int 1)))))
  .nil))
  .nil))
  (.cons (.ret (.bin .div (.ov 2) (.ov 3)))
  .nil))))
def N_how_many_rows : List Str := ["many", "at", "above", "below", "spin"]
def P_how_many_rows : List Str := ["many"]
def d_how_many_rows : Df := ⟨false, 1, 5, b_how_many_rows⟩
def b__law_mixed : Ss := .cons (.set 3 (.bin .add (.bin .mul (.ov 0) (.k (.int 69069))) (.bin .mul (.bin .mul (.k (.int 104729)) (.ov 1)) (.ov 1))))
  (.cons (.set 3 (.bin .mod (.app .int (.cons (.bin .add (.bin .add (.ov 3) (.bin .mul (.k (.int 7919)) (.ov 2))) (.ov 1)) .nil)) (.k (.int 2147483647))))
  (.cons (.set 3 (.bin .mod (.app .int (.cons (.bin .add (.bin .mul (.ov 3) (.ov 3)) (.k (.int 40503))) .nil)) (.k (.int 2147483629))))
  (.cons (.ret (.bin .mod (.app .int (.cons (.bin .mul (.ov 3) (.k (.int 48271))) .nil)) (.k (.int 2147483587))))
  .nil)))
def N__law_mixed : List Str := ["seed", "spin", "at", "mixed"]
def P__law_mixed : List Str := ["seed", "spin", "at"]
def d__law_mixed : Df := ⟨false, 3, 4, b__law_mixed⟩
def b__law_draw : Ss := .cons (.ite [] (.cmp .gt (.purix 0 (.k (.int 0))) (.k (.int 0))) (.cons (.set 4 (.bin .mod (.app .int (.cons (.purix 0 (.k (.int 0))) .nil)) (.ov 1)))
  (.cons (.put 0 (.k (.int 0)) (.bin .div (.purix 0 (.k (.int 0))) (.ov 1)))
  (.cons (.ret (.var 4))
  .nil))) .nil)
  (.cons (.set 2 (.k (.int 0)))
  (.cons (.for (.nm 3) (.rng1 (.cons (.bin .add (.k (.int 1)) (.bin .div (.bits (.ov 1)) (.k (.int 28)))) .nil)) (.cons (.put 0 (.k (.int 2)) (.bin .add (.purix 0 (.k (.int 2))) (.k (.int 1))))
  (.cons (.set 2 (.bin .add (.bin .mul (.ov 2) (.k (.int 2147483587))) (.call 9 (.cons (.purix 0 (.k (.int 1))) (.cons (.purix 0 (.k (.int 2))) (.cons (.purix 0 (.k (.int 3))) .nil))) .nil)))
  .nil)))
  (.cons (.ret (.bin .mod (.app .int (.cons (.ov 2) .nil)) (.ov 1)))
  .nil)))
def N__law_draw : List Str := ["purse", "many", "found", "piece", "drawn"]
def P__law_draw : List Str := ["purse", "many"]
def d__law_draw : Df := ⟨true, 1, 5, b__law_draw⟩
def b__law_one_of : Ss := .cons (.ret (.ix (.ov 1) (.callP 0 0 (.cons (.app .len (.cons (.ov 1) .nil)) .nil))))
  .nil
def N__law_one_of : List Str := ["purse", "some"]
def P__law_one_of : List Str := ["purse", "some"]
def d__law_one_of : Df := ⟨true, 1, 2, b__law_one_of⟩
def b__law_exact : Ss := .cons (.ite [] (.tst (.isi (.ov 0) [.dict])) (.cons (.ite [] (.or (.not (.tst (.isi (.ov 1) [.dict]))) (.cmp .ne (.app .len (.cons (.ov 0) .nil)) (.app .len (.cons (.ov 1) .nil)))) (.cons (.ret (.k (.bool false)))
  .nil) .nil)
  (.cons (.ret (.app .all (.cons (.comp (.nm 4) [4] (.seq (.ov 0)) (.and (.cmp .isin (.ov 4) (.ov 1)) (.call 10 (.cons (.ix (.ov 0) (.ov 4)) (.cons (.ix (.ov 1) (.ov 4)) .nil)) .nil))) .nil)))
  .nil)) .nil)
  (.cons (.ite [] (.tst (.isi (.ov 0) [.list, .tuple])) (.cons (.set 3 (.cmp .eq (.isi (.ov 1) [.list]) (.isi (.ov 0) [.list])))
  (.cons (.set 2 (.and (.ov 3) (.cmp .eq (.isi (.ov 1) [.tuple]) (.isi (.ov 0) [.tuple]))))
  (.cons (.ret (.and (.ov 2) (.and (.cmp .eq (.app .len (.cons (.ov 0) .nil)) (.app .len (.cons (.ov 1) .nil))) (.app .all (.cons (.comp (.tp [.nm 5, .nm 6]) [5, 6] (.zip (.cons (.var 0) (.cons (.var 1) .nil))) (.call 10 (.cons (.var 5) (.cons (.var 6) .nil)) .nil)) .nil)))))
  .nil))) .nil)
  (.cons (.ite [] (.or (.tst (.isi (.ov 1) [.list, .tuple, .dict])) (.cmp .ne (.cmp .is (.ov 0) (.k .none)) (.cmp .is (.ov 1) (.k .none)))) (.cons (.ret (.k (.bool false)))
  .nil) .nil)
  (.cons (.set 2 (.and (.cmp .eq (.isi (.ov 0) [.int]) (.isi (.ov 1) [.int])) (.cmp .eq (.isi (.ov 0) [.str]) (.isi (.ov 1) [.str]))))
  (.cons (.ret (.and (.ov 2) (.and (.cmp .eq (.isi (.ov 0) [.bool]) (.isi (.ov 1) [.bool])) (.cmp .eq (.ov 0) (.ov 1)))))
  .nil))))
def N__law_exact : List Str := ["mine", "theirs", "is_like", "is_list", "key", "a", "b"]
def P__law_exact : List Str := ["mine", "theirs"]
def d__law_exact : Df := ⟨false, 2, 7, b__law_exact⟩
def b__law_exchanged : Ss := .cons (.ret (.cat (.bin .add (.cutH (.ov 0) (.ov 1)) (.lst (.cons (.ix (.ov 0) (.bin .add (.ov 1) (.k (.int 1)))) (.cons (.ix (.ov 0) (.ov 1)) .nil)))) (.cutL (.ov 0) (.bin .add (.ov 1) (.k (.int 2))))))
  .nil
def N__law_exchanged : List Str := ["order", "at"]
def P__law_exchanged : List Str := ["order", "at"]
def d__law_exchanged : Df := ⟨false, 2, 2, b__law_exchanged⟩
def b__law_is_row : Ss := .cons (.ite [] (.or (.not (.tst (.isi (.ov 1) [.list]))) (.or (.cmp .ne (.app .len (.cons (.ov 1) .nil)) (.bin .div (.bin .mul (.ov 0) (.bin .sub (.ov 0) (.k (.int 1)))) (.k (.int 2)))) (.cmp .ne (.compIf (.nm 3) [3] (.seq (.ov 1)) (.or (.not (.tst (.isi (.ov 3) [.int]))) (.tst (.isi (.ov 3) [.bool]))) (.var 3)) (.lst .nil)))) (.cons (.ret (.k (.bool false)))
  .nil) .nil)
  (.cons (.set 2 (.lrg1 (.ov 0)))
  (.cons (.for (.nm 3) (.seq (.var 1)) (.cons (.ite [] (.or (.cmp .lt (.ov 3) (.k (.int 0))) (.or (.cmp .gt (.ov 3) (.bin .sub (.ov 0) (.k (.int 2)))) (.cmp .gt (.ix (.ov 2) (.ov 3)) (.ix (.ov 2) (.bin .add (.ov 3) (.k (.int 1))))))) (.cons (.ret (.k (.bool false)))
  .nil) .nil)
  (.cons (.set 2 (.call 11 (.cons (.var 2) (.cons (.var 3) .nil)) .nil))
  .nil)))
  (.cons (.ret (.k (.bool true)))
  .nil)))
def N__law_is_row : List Str := ["many", "value", "order", "at"]
def P__law_is_row : List Str := ["many", "value"]
def d__law_is_row : Df := ⟨false, 2, 4, b__law_is_row⟩
def b__law_row : Ss := .cons (.asg (.tp [.nm 2, .nm 3]) (.tup (.cons (.lrg1 (.ov 1)) (.cons (.lst .nil) .nil))))
  (.cons (.while (.cmp .ne (.ov 2) (.rev (.lrg1 (.ov 1)))) (.cons (.set 4 (.callP 1 0 (.cons (.compIf (.nm 5) [5] (.rng1 (.cons (.bin .sub (.ov 1) (.k (.int 1))) .nil)) (.cmp .lt (.ix (.ov 2) (.ov 5)) (.ix (.ov 2) (.bin .add (.ov 5) (.k (.int 1))))) (.var 5)) .nil)))
  (.cons (.asg (.tp [.nm 3, .nm 2]) (.tup (.cons (.bin .add (.ov 3) (.lst (.cons (.var 4) .nil))) (.cons (.call 11 (.cons (.var 2) (.cons (.var 4) .nil)) .nil) .nil))))
  .nil)))
  (.cons (.ret (.var 3))
  .nil))
def N__law_row : List Str := ["purse", "many", "order", "found", "at", "spot"]
def P__law_row : List Str := ["purse", "many"]
def d__law_row : Df := ⟨true, 1, 6, b__law_row⟩
def b__law_all_rows : Ss := .cons (.setX2 1 2 (.lst (.cons (.tup (.cons (.lst .nil) (.cons (.lrg1 (.ov 0)) .nil))) .nil)) (.lst .nil))
  (.cons (.while (.cmp .ne (.ov 1) (.lst .nil)) (.cons (.pop (.tp [.nm 4, .nm 5]) 1)
  (.cons (.set 3 (.compIf (.nm 6) [6] (.rng1 (.cons (.bin .sub (.ov 0) (.k (.int 1))) .nil)) (.cmp .lt (.ix (.ov 5) (.ov 6)) (.ix (.ov 5) (.bin .add (.ov 6) (.k (.int 1))))) (.var 6)))
  (.cons (.ite [] (.cmp .eq (.ov 3) (.lst .nil)) (.cons (.apd 2 (.var 4))
  .nil) .nil)
  (.cons (.setX 1 (.cat (.ov 1) (.comp (.nm 6) [6] (.seq (.ov 3)) (.tup (.cons (.bin .add (.ov 4) (.lst (.cons (.var 6) .nil))) (.cons (.call 11 (.cons (.var 5) (.cons (.var 6) .nil)) .nil) .nil))))))
  .nil)))))
  (.cons (.ret (.app .sorted (.cons (.ov 2) .nil)))
  .nil))
def N__law_all_rows : List Str := ["many", "line", "found", "some", "row", "order", "at"]
def P__law_all_rows : List Str := ["many"]
def d__law_all_rows : Df := ⟨false, 1, 7, b__law_all_rows⟩
def b__law_no_rows : Ss := .cons (.set 1 (.lst .nil))
  (.cons (.for (.nm 2) (.rng3 (.cons (.bin .sub (.ov 0) (.k (.int 1))) (.cons (.k (.int 0)) (.cons (.neg (.k (.int 1))) .nil)))) (.cons (.set 1 (.bin .add (.ov 1) (.lrg1 (.ov 2))))
  .nil))
  (.cons (.set 3 (.lst (.cons (.k .none) (.cons (.tup .nil) (.cons .edict (.cons (.k (.str "row")) (.cons (.app .tuple (.cons (.ov 1) .nil)) (.cons (.bin .add (.ov 1) (.lst (.cons (.k (.int 0)) .nil))) (.cons (.cutL (.ov 1) (.k (.int 1))) (.cons (.cutH (.ov 1) (.neg (.k (.int 1)))) (.cons (.bin .add (.lst (.cons (.bin .sub (.ov 0) (.k (.int 1))) .nil)) (.cutL (.ov 1) (.k (.int 1)))) (.cons (.bin .add (.lst (.cons (.neg (.k (.int 1))) .nil)) (.cutL (.ov 1) (.k (.int 1)))) (.cons (.bin .add (.lst (.cons (.k (.bool true)) .nil)) (.cutL (.ov 1) (.k (.int 1)))) .nil)))))))))))))
  (.cons (.ret (.cat (.ov 3) (.lst (.cons (.bin .add (.cutH (.ov 1) (.neg (.k (.int 1)))) (.lst (.cons (.k .none) .nil))) (.cons (.bin .add (.cutH (.ov 1) (.neg (.k (.int 1)))) (.lst (.cons (.k (.str "0")) .nil))) (.cons (.bin .mul (.lst (.cons (.k (.int 0)) .nil)) (.app .len (.cons (.ov 1) .nil))) (.cons (.bin .add (.bin .add (.cutH (.ov 1) (.k (.int 1))) (.cutH (.ov 1) (.k (.int 1)))) (.cutL (.ov 1) (.k (.int 2)))) (.cons (.bin .add (.lst (.cons (.lst (.cons (.k (.int 0)) .nil)) .nil)) (.cutL (.ov 1) (.k (.int 1)))) (.cons (.lst .nil) .nil)))))))))
  .nil)))
def N__law_no_rows : List Str := ["many", "row", "last", "found"]
def P__law_no_rows : List Str := ["many"]
def d__law_no_rows : Df := ⟨false, 1, 4, b__law_no_rows⟩
def b__law_bent : Ss := .cons (.set 3 (.ite (.cmp .gt (.ov 1) (.k (.int 2))) (.call 12 (.cons (.var 1) .nil) .nil) (.lst (.cons (.k .none) (.cons (.tup .nil) (.cons .edict (.cons (.lst (.cons (.k (.int 0)) (.cons (.k (.int 0)) .nil))) (.cons (.lst (.cons (.k (.int 1)) .nil)) (.cons (.k (.str "row")) .nil)))))))))
  (.cons (.ite [] (.cmp .ne (.ov 2) (.lst .nil)) (.cons (.set 4 (.callP 0 0 (.cons (.app .len (.cons (.ov 2) .nil)) .nil)))
  (.cons (.set 5 (.callP 0 0 (.cons (.app .len (.cons (.ov 2) .nil)) .nil)))
  (.cons (.setX 6 (.lof (.ov 2)))
  (.cons (.put2 6 (.var 4) (.var 5) (.tup (.cons (.ix (.ov 2) (.ov 5)) (.cons (.ix (.ov 2) (.ov 4)) .nil))))
  (.cons (.frz 6 (.set 3 (.bin .add (.ov 3) (.lst (.cons (.var 6) (.cons (.rev (.ov 2)) (.cons (.bin .add (.cutL (.ov 2) (.k (.int 1))) (.cutH (.ov 2) (.k (.int 1)))) (.cons (.comp (.nm 8) [8] (.seq (.ov 2)) (.bin .sub (.bin .sub (.ov 1) (.k (.int 2))) (.ov 8))) .nil))))))))
  (.cons (.set 3 (.bin .add (.ov 3) (.comp (.nm 7) [7] (.seq (.lst (.cons (.callP 0 0 (.cons (.bin .sub (.ov 1) (.k (.int 1))) .nil)) (.cons (.bin .sub (.ov 1) (.k (.int 1))) (.cons (.bin .add (.ix (.ov 2) (.ov 4)) (.k (.int 1))) (.cons (.bin .sub (.ix (.ov 2) (.ov 4)) (.k (.int 1))) (.cons (.k .none) (.cons (.app .str (.cons (.ix (.ov 2) (.ov 4)) .nil)) (.cons (.cmp .eq (.ix (.ov 2) (.ov 4)) (.k (.int 1))) .nil))))))))) (.bin .add (.bin .add (.cutH (.ov 2) (.ov 4)) (.lst (.cons (.var 7) .nil))) (.cutL (.ov 2) (.bin .add (.ov 4) (.k (.int 1))))))))
  .nil)))))) .nil)
  (.cons (.ret (.var 3))
  .nil))
def N__law_bent : List Str := ["purse", "many", "row", "found", "at", "late", "turned", "odd", "one"]
def P__law_bent : List Str := ["purse", "many", "row"]
def d__law_bent : Df := ⟨true, 2, 9, b__law_bent⟩
def b__law_right : Ss := .cons (.set 1 (.bin .add (.k (.int 1)) (.callP 0 0 (.cons (.k (.int 8)) .nil))))
  (.cons (.set 2 (.callP 2 0 (.cons (.var 1) .nil)))
  (.cons (.for (.nm 3) (.seq (.bin .add (.lst (.cons (.var 2) .nil)) (.callP 3 0 (.cons (.var 1) (.cons (.var 2) .nil))))) (.cons (.set2 9 10 (.call 13 (.cons (.var 1) (.cons (.var 3) .nil)) .nil) (.app .repr (.cons (.ov 3) .nil)))
  (.cons (.ite [] (.or (.not (.tst (.call 10 (.cons (.lst (.cons (.var 9) (.cons (.var 9) .nil))) (.cons (.lst (.cons (.call 15 (.cons (.var 1) (.cons (.var 3) .nil)) .nil) (.cons (.call 14 .nil (.cons (.var 3) (.cons (.var 1) .nil))) .nil))) .nil)) .nil))) (.cmp .ne (.app .repr (.cons (.ov 3) .nil)) (.ov 10))) (.cons (.ret (.k (.bool false)))
  .nil) .nil)
  .nil)))
  (.cons (.set2 4 5 (.lrg1 (.ov 1)) (.app .repr (.cons (.ov 2) .nil)))
  (.cons (.for (.tp [.nm 6, .nm 7]) (.enum (.cons (.bin .add (.ov 2) (.lst (.cons (.k (.int 0)) .nil))) .nil)) (.cons (.setX 8 (.call 16 (.cons (.var 1) (.cons (.var 2) (.cons (.var 6) .nil))) .nil))
  (.cons (.ite [8] (.not (.tst (.call 10 (.cons (.lst (.cons (.var 4) (.cons (.var 4) .nil))) (.cons (.lst (.cons (.var 8) (.cons (.call 17 .nil (.cons (.var 6) (.cons (.var 2) (.cons (.var 1) .nil)))) .nil))) .nil)) .nil))) (.cons (.ret (.k (.bool false)))
  .nil) .nil)
  (.cons (.apd 8 (.k (.str "more")))
  (.cons (.set 4 (.ite (.cmp .lt (.ov 6) (.app .len (.cons (.ov 2) .nil))) (.call 11 (.cons (.var 4) (.cons (.var 7) .nil)) .nil) (.var 4)))
  .nil)))))
  (.cons (.ret (.and (.cmp .eq (.ov 4) (.rev (.lrg1 (.ov 1)))) (.cmp .eq (.app .repr (.cons (.ov 2) .nil)) (.ov 5))))
  .nil)))))
def N__law_right : List Str := ["purse", "many", "row", "value", "order", "noted", "step", "at", "told", "due", "shown"]
def P__law_right : List Str := ["purse"]
def d__law_right : Df := ⟨true, 0, 11, b__law_right⟩
def b_law1 : Ss := .cons (.for (.nm 3) (.rng1 (.cons (.k (.int 3)) .nil)) (.cons (.ite [] (.not (.tst (.callP 4 1 .nil))) (.cons (.ret (.k (.bool false)))
  .nil) .nil)
  .nil))
  .nil
def b_law2 : Ss := .cons (.set 2 (.comp (.nm 4) [4] (.seq (.tup (.cons (.k (.int 1)) (.cons (.k (.int 2)) (.cons (.k (.int 3)) (.cons (.k (.int 4)) (.cons (.k (.int 5)) .nil))))))) (.app .len (.cons (.call 18 (.cons (.var 4) .nil) .nil) .nil))))
  (.cons (.ite [] (.or (.not (.tst (.call 10 (.cons (.var 2) (.cons (.comp (.nm 4) [4] (.seq (.tup (.cons (.k (.int 1)) (.cons (.k (.int 2)) (.cons (.k (.int 3)) (.cons (.k (.int 4)) (.cons (.k (.int 5)) .nil))))))) (.call 20 (.cons (.var 4) .nil) .nil)) .nil)) .nil))) (.cmp .ne (.call 19 .nil (.cons (.k (.int 4)) .nil)) (.k (.int 16)))) (.cons (.ret (.k (.bool false)))
  .nil) .nil)
  (.cons (.ret (.call 10 (.cons (.lst (.cons (.k (.int 768)) (.cons (.k (.int 292864)) (.cons (.k (.int 1100742656)) (.cons (.k (.int 48608795688960)) .nil))))) (.cons (.comp (.nm 4) [4] (.seq (.tup (.cons (.k (.int 5)) (.cons (.k (.int 6)) (.cons (.k (.int 7)) (.cons (.k (.int 8)) .nil)))))) (.call 20 (.cons (.var 4) .nil) .nil)) .nil)) .nil))
  .nil))
def N_law : List Str := ["script", "purse", "counts", "spin", "many"]
def gm : Gm := ⟨[
  ⟨"is_whole", 0, 1, 1, [], [0], []⟩,
  ⟨"is_count", 1, 2, 2, [], [0, 1], [.int 0]⟩,
  ⟨"is_count", 1, 2, 1, [], [0, 1], [.int 0]⟩,
  ⟨"are_counts_below", 3, 2, 2, [], [0, 1], []⟩,
  ⟨"exchanged", 4, 2, 2, [], [0, 1], []⟩,
  ⟨"check_many", 2, 1, 1, [], [0], []⟩,
  ⟨"is_row_there", 5, 2, 2, [], [0, 1], []⟩,
  ⟨"check_row", 7, 2, 2, [], [0, 1], []⟩,
  ⟨"order_there", 8, 2, 2, [], [0, 1], []⟩,
  ⟨"_law_mixed", 11, 3, 3, [], [0, 1, 2], []⟩,
  ⟨"_law_exact", 14, 2, 2, [], [0, 1], []⟩,
  ⟨"_law_exchanged", 15, 2, 2, [], [0, 1], []⟩,
  ⟨"_law_no_rows", 19, 1, 1, [], [0], []⟩,
  ⟨"_law_is_row", 16, 2, 2, [], [0, 1], []⟩,
  ⟨"is_exchange_row", 6, 2, 0, ["value", "many"], [1, 0], []⟩,
  ⟨"is_exchange_row", 6, 2, 2, [], [0, 1], []⟩,
  ⟨"order_behind", 9, 3, 3, [], [0, 1, 2], []⟩,
  ⟨"order_behind", 9, 3, 0, ["steps", "row", "many"], [2, 1, 0], []⟩,
  ⟨"_law_all_rows", 18, 1, 1, [], [0], []⟩,
  ⟨"how_many_rows", 10, 1, 0, ["many"], [0], []⟩,
  ⟨"how_many_rows", 10, 1, 1, [], [0], []⟩], [⟨"_law_draw", 12, 1⟩, ⟨"_law_one_of", 13, 1⟩, ⟨"_law_row", 17, 1⟩, ⟨"_law_bent", 20, 2⟩, ⟨"_law_right", 21, 0⟩], ["all", "bool", "dict", "enumerate", "int", "isinstance", "len", "list", "max", "range", "repr", "sorted", "str", "tuple", "zip"], false⟩
def tbl : List Df := [d_is_whole, d_is_count, d_check_many, d_are_counts_below, d_exchanged, d_is_row_there, d_is_exchange_row, d_check_row, d_order_there, d_order_behind, d_how_many_rows, d__law_mixed, d__law_draw, d__law_one_of, d__law_exact, d__law_exchanged, d__law_is_row, d__law_row, d__law_all_rows, d__law_no_rows, d__law_bent, d__law_right]
theorem shp_0 : gm.shps[0]? = some ⟨"is_whole", 0, 1, 1, [], [0], []⟩ := rfl
theorem shp_1 : gm.shps[1]? = some ⟨"is_count", 1, 2, 2, [], [0, 1], [.int 0]⟩ := rfl
theorem shp_2 : gm.shps[2]? = some ⟨"is_count", 1, 2, 1, [], [0, 1], [.int 0]⟩ := rfl
theorem shp_3 : gm.shps[3]? = some ⟨"are_counts_below", 3, 2, 2, [], [0, 1], []⟩ := rfl
theorem shp_4 : gm.shps[4]? = some ⟨"exchanged", 4, 2, 2, [], [0, 1], []⟩ := rfl
theorem shp_5 : gm.shps[5]? = some ⟨"check_many", 2, 1, 1, [], [0], []⟩ := rfl
theorem shp_6 : gm.shps[6]? = some ⟨"is_row_there", 5, 2, 2, [], [0, 1], []⟩ := rfl
theorem shp_7 : gm.shps[7]? = some ⟨"check_row", 7, 2, 2, [], [0, 1], []⟩ := rfl
theorem shp_8 : gm.shps[8]? = some ⟨"order_there", 8, 2, 2, [], [0, 1], []⟩ := rfl
theorem shp_9 : gm.shps[9]? = some ⟨"_law_mixed", 11, 3, 3, [], [0, 1, 2], []⟩ := rfl
theorem shp_10 : gm.shps[10]? = some ⟨"_law_exact", 14, 2, 2, [], [0, 1], []⟩ := rfl
theorem shp_11 : gm.shps[11]? = some ⟨"_law_exchanged", 15, 2, 2, [], [0, 1], []⟩ := rfl
theorem shp_12 : gm.shps[12]? = some ⟨"_law_no_rows", 19, 1, 1, [], [0], []⟩ := rfl
theorem shp_13 : gm.shps[13]? = some ⟨"_law_is_row", 16, 2, 2, [], [0, 1], []⟩ := rfl
theorem shp_14 : gm.shps[14]? = some ⟨"is_exchange_row", 6, 2, 0, ["value", "many"], [1, 0], []⟩ := rfl
theorem shp_15 : gm.shps[15]? = some ⟨"is_exchange_row", 6, 2, 2, [], [0, 1], []⟩ := rfl
theorem shp_16 : gm.shps[16]? = some ⟨"order_behind", 9, 3, 3, [], [0, 1, 2], []⟩ := rfl
theorem shp_17 : gm.shps[17]? = some ⟨"order_behind", 9, 3, 0, ["steps", "row", "many"], [2, 1, 0], []⟩ := rfl
theorem shp_18 : gm.shps[18]? = some ⟨"_law_all_rows", 18, 1, 1, [], [0], []⟩ := rfl
theorem shp_19 : gm.shps[19]? = some ⟨"how_many_rows", 10, 1, 0, ["many"], [0], []⟩ := rfl
theorem shp_20 : gm.shps[20]? = some ⟨"how_many_rows", 10, 1, 1, [], [0], []⟩ := rfl
theorem pshp_0 : gm.pshps[0]? = some ⟨"_law_draw", 12, 1⟩ := rfl
theorem pshp_1 : gm.pshps[1]? = some ⟨"_law_one_of", 13, 1⟩ := rfl
theorem pshp_2 : gm.pshps[2]? = some ⟨"_law_row", 17, 1⟩ := rfl
theorem pshp_3 : gm.pshps[3]? = some ⟨"_law_bent", 20, 2⟩ := rfl
theorem pshp_4 : gm.pshps[4]? = some ⟨"_law_right", 21, 0⟩ := rfl
def top (i : Nat) : Stmt := PySem.Challenge.pw_straightcuts_k73_whole_rows_of_exchanges.main.body.getD i (.Pass ⟨0, 0, 0, 0⟩)
def okD (N ps : List Str) (df : Df) (st : Stmt) : Bool := scC N ps (defScope st) && chkSs gm df.body ⟨defScope st, fun _ => true, N⟩ (defBody st) && decide (ps.length = (if df.pur then 1 else 0) + df.np)
theorem ok_is_whole : okD N_is_whole P_is_whole d_is_whole (top 1) = true := by decide +kernel
theorem ok_is_count : okD N_is_count P_is_count d_is_count (top 2) = true := by decide +kernel
theorem ok_check_many : okD N_check_many P_check_many d_check_many (top 10) = true := by decide +kernel
theorem ok_are_counts_below : okD N_are_counts_below P_are_counts_below d_are_counts_below (top 11) = true := by decide +kernel
theorem ok_exchanged : okD N_exchanged P_exchanged d_exchanged (top 12) = true := by decide +kernel
theorem ok_is_row_there : okD N_is_row_there P_is_row_there d_is_row_there (top 13) = true := by decide +kernel
theorem ok_is_exchange_row : okD N_is_exchange_row P_is_exchange_row d_is_exchange_row (top 14) = true := by decide +kernel
theorem ok_check_row : okD N_check_row P_check_row d_check_row (top 15) = true := by decide +kernel
theorem ok_order_there : okD N_order_there P_order_there d_order_there (top 16) = true := by decide +kernel
theorem ok_order_behind : okD N_order_behind P_order_behind d_order_behind (top 17) = true := by decide +kernel
theorem ok_how_many_rows : okD N_how_many_rows P_how_many_rows d_how_many_rows (top 18) = true := by decide +kernel
theorem ok__law_mixed : okD N__law_mixed P__law_mixed d__law_mixed (top 21) = true := by decide +kernel
theorem ok__law_draw : okD N__law_draw P__law_draw d__law_draw (top 22) = true := by decide +kernel
theorem ok__law_one_of : okD N__law_one_of P__law_one_of d__law_one_of (top 24) = true := by decide +kernel
theorem ok__law_exact : okD N__law_exact P__law_exact d__law_exact (top 25) = true := by decide +kernel
theorem ok__law_exchanged : okD N__law_exchanged P__law_exchanged d__law_exchanged (top 26) = true := by decide +kernel
theorem ok__law_is_row : okD N__law_is_row P__law_is_row d__law_is_row (top 27) = true := by decide +kernel
theorem ok__law_row : okD N__law_row P__law_row d__law_row (top 28) = true := by decide +kernel
theorem ok__law_all_rows : okD N__law_all_rows P__law_all_rows d__law_all_rows (top 29) = true := by decide +kernel
theorem ok__law_no_rows : okD N__law_no_rows P__law_no_rows d__law_no_rows (top 30) = true := by decide +kernel
theorem ok__law_bent : okD N__law_bent P__law_bent d__law_bent (top 31) = true := by decide +kernel
theorem ok__law_right : okD N__law_right P__law_right d__law_right (top 32) = true := by decide +kernel
end K73

set_option Elab.async false
set_option linter.all false
set_option maxRecDepth 100000
set_option maxHeartbeats 8000000
namespace K73
open PySem PySem.Spec L2 PV
open PyProof.Rows hiding St cutD

theorem bT_nm (i : Nat) (d : D) (env : PV.Env) : bindT (.nm i) d env = some (List.set env i (some (.fro d))) := by rw [bindT]
theorem bT_tp (ts : List Tg) (ds : List D) (env : PV.Env) : bindT (.tp ts) (.tuple ds) env = PV.bindAll ts ds env := by rw [bindT]
theorem bA_nil (env : PV.Env) : PV.bindAll [] [] env = some env := by rw [PV.bindAll]
theorem bA_cons (t : Tg) (ts : List Tg) (d : D) (ds : List D) (env : PV.Env) : PV.bindAll (t :: ts) (d :: ds) env = (bindT t d env).bind fun env' => PV.bindAll ts ds env' := by rw [PV.bindAll]
/-! ### plain facts -/
def exch (l : List Int) (i : Nat) : List Int := l.take i ++ (l.getD (i + 1) 0 :: l.getD i 0 :: l.drop (i + 2))
theorem exch_len (l : List Int) (i : Nat) (h : i + 1 < l.length) : (exch l i).length = l.length := by
  unfold exch
  simp only [List.length_append, List.length_take, List.length_cons, List.length_drop]; omega
abbrev iL (l : List Int) : D := .list (l.map PyData.int)
theorem sIx_nat' (n d k : Nat) (h : k ≤ n) : HT.sIx n d (some (k : Int)) = k := by rw [HT.sIx_nat]; omega
theorem atI_nat {α : Type} (l : List α) (i : Nat) (a : α) (h : l[i]? = some a) : atI l (i : Int) = some a := by
  have hi : i < l.length := (List.getElem?_eq_some_iff.mp h).1
  unfold atI ixN
  rw [if_pos (by omega), if_pos (by omega)]
  simpa using h
theorem gIx_nat (l : List Int) (i : Nat) (h : i < l.length) : gIx (iL l) (.int (i : Int)) = some (.int (l.getD i 0)) := by
  have : (l.map PyData.int)[i]? = some (.int (l.getD i 0)) := by
    rw [List.getElem?_map, List.getElem?_eq_getElem h]
    simp [List.getD, h]
  exact atI_nat _ _ _ this
theorem cutD_hi (l : List D) (i : Nat) (h : i ≤ l.length) : cutD l none (some (i : Int)) = l.take i := by
  unfold cutD; rw [HT.sIx_none, sIx_nat' _ _ _ h]; simp
theorem cutD_lo (l : List D) (i : Nat) (h : i ≤ l.length) : cutD l (some (i : Int)) none = l.drop i := by
  unfold cutD; rw [HT.sIx_none, sIx_nat' _ _ _ h]; rw [List.take_of_length_le]; rw [List.length_drop]; omega
theorem exch_D (l : List Int) (i : Nat) : (exch l i).map PyData.int = (l.map PyData.int).take i ++ (.int (l.getD (i + 1) 0) :: .int (l.getD i 0) :: (l.map PyData.int).drop (i + 2)) := by
  unfold exch
  simp only [List.map_append, List.map_cons, List.map_take, List.map_drop]
theorem small (n : Nat) (h : n ≤ 1000) : n ≤ sizeMax := Nat.le_trans h (by decide)

/-! ### the defs' values -/
def isInt : D → Bool
  | .int _ => true
  | _ => false
theorem sem_is_whole (W k : Nat) (hk : 1 ≤ k) (v : D) (p : List D) : sem gm W tbl k 0 [v] p = some (.fro (.bool (isInt v)), p) := by
  obtain ⟨j, rfl⟩ : ∃ j, k = j + 1 := ⟨k - 1, by omega⟩
  show runD gm (sem gm W tbl j) W d_is_whole [v] p = _
  cases v <;> simp only [d_is_whole, b_is_whole, isD, isK, kd, isInt, runD, startE, exs, ex, evX, ev, evs, evI, mThen, mDone, mSet, mSet2, mAsg, mRet, mRetN, mRetV, mFrz, mIf, mExp, mB, mB_not, mB_and, mB_or, mNotB, mAndB, mOrB, mNotV, mAndV, mOrV, mNeg, mIfB, m2, gBop, gCop, gBlt, mK, mVar, mOv, mCons, mNil, mStar, mSz, mApp, mTup, mList, mFro, mOpn, mSl, toD, mCat, mCutL, mPart, mRev, mIsi, mIt, mEnum, mZip, mComp, mFor, mYes, mCallS, mCall, mCallT, mCallP, mPurIx, mPut, mApd, mPop, mPut2, mBits, permL, gAdd, PV.gSub, gLt, gLe, gGt, gGe, gLen, gInt, gMax2, gMin2, bT_nm, bT_tp, bA_nil, bA_cons, wipeE, shp_0, shp_1, shp_2, shp_3, shp_4, shp_5, shp_6, shp_7, shp_8, shp_9, shp_10, shp_11, shp_12, shp_13, shp_14, shp_15, shp_16, shp_17, shp_18, shp_19, shp_20, pshp_0, pshp_1, pshp_2, pshp_3, pshp_4, Bool.false_eq_true, if_false, if_true, ↓reduceIte, reduceCtorEq, List.map_cons, List.map_nil, List.nil_append, List.cons_append, List.append_nil, List.length_cons, List.length_nil, List.getElem?_cons_zero, List.getElem?_cons_succ, List.getElem?_nil, List.set_cons_zero, List.set_cons_succ, List.isEmpty_nil, List.isEmpty_cons, List.any_cons, List.any_nil, List.filterMap_cons, List.filterMap_nil, List.replicate_succ, List.replicate_zero, Option.bind_some, Option.bind_none, Option.map_some, Option.map_none, Nat.reduceAdd, Nat.reduceSub, Nat.reduceLeDiff, Nat.zero_add, Nat.add_zero, and_self, and_true, true_and, Bool.not_true, Bool.not_false, Bool.or_false, Bool.false_or, Bool.or_true, Bool.true_or, List.length_map]
def cntB (m : Int) : D → Bool
  | .int i => decide (max m 0 ≤ i)
  | _ => false
theorem sem_is_count (W k : Nat) (hk : 2 ≤ k) (v : D) (m : Int) (p : List D) : sem gm W tbl k 1 [v, .int m] p = some (.fro (.bool (cntB m v)), p) := by
  obtain ⟨j, rfl⟩ : ∃ j, k = j + 1 := ⟨k - 1, by omega⟩
  show runD gm (sem gm W tbl j) W d_is_count [v, .int m] p = _
  cases v with
  | int i =>
    simp only [d_is_count, b_is_count, sem_is_whole W j (by omega), isInt, cntB, runD, startE, exs, ex, evX, ev, evs, evI, mThen, mDone, mSet, mSet2, mAsg, mRet, mRetN, mRetV, mFrz, mIf, mExp, mB, mB_not, mB_and, mB_or, mNotB, mAndB, mOrB, mNotV, mAndV, mOrV, mNeg, mIfB, m2, gBop, gCop, gBlt, mK, mVar, mOv, mCons, mNil, mStar, mSz, mApp, mTup, mList, mFro, mOpn, mSl, toD, mCat, mCutL, mPart, mRev, mIsi, mIt, mEnum, mZip, mComp, mFor, mYes, mCallS, mCall, mCallT, mCallP, mPurIx, mPut, mApd, mPop, mPut2, mBits, permL, gAdd, PV.gSub, gLt, gLe, gGt, gGe, gLen, gInt, gMax2, gMin2, bT_nm, bT_tp, bA_nil, bA_cons, wipeE, shp_0, shp_1, shp_2, shp_3, shp_4, shp_5, shp_6, shp_7, shp_8, shp_9, shp_10, shp_11, shp_12, shp_13, shp_14, shp_15, shp_16, shp_17, shp_18, shp_19, shp_20, pshp_0, pshp_1, pshp_2, pshp_3, pshp_4, Bool.false_eq_true, if_false, if_true, ↓reduceIte, reduceCtorEq, List.map_cons, List.map_nil, List.nil_append, List.cons_append, List.append_nil, List.length_cons, List.length_nil, List.getElem?_cons_zero, List.getElem?_cons_succ, List.getElem?_nil, List.set_cons_zero, List.set_cons_succ, List.isEmpty_nil, List.isEmpty_cons, List.any_cons, List.any_nil, List.filterMap_cons, List.filterMap_nil, List.replicate_succ, List.replicate_zero, Option.bind_some, Option.bind_none, Option.map_some, Option.map_none, Nat.reduceAdd, Nat.reduceSub, Nat.reduceLeDiff, Nat.zero_add, Nat.add_zero, and_self, and_true, true_and, Bool.not_true, Bool.not_false, Bool.or_false, Bool.false_or, Bool.or_true, Bool.true_or, List.length_map]
    by_cases h : (0 : Int) > m
    · simp only [if_pos h]; rw [Int.max_eq_right (by omega)]
    · simp only [if_neg h]; rw [Int.max_eq_left (by omega)]
  | _ => simp only [d_is_count, b_is_count, sem_is_whole W j (by omega), isInt, cntB, runD, startE, exs, ex, evX, ev, evs, evI, mThen, mDone, mSet, mSet2, mAsg, mRet, mRetN, mRetV, mFrz, mIf, mExp, mB, mB_not, mB_and, mB_or, mNotB, mAndB, mOrB, mNotV, mAndV, mOrV, mNeg, mIfB, m2, gBop, gCop, gBlt, mK, mVar, mOv, mCons, mNil, mStar, mSz, mApp, mTup, mList, mFro, mOpn, mSl, toD, mCat, mCutL, mPart, mRev, mIsi, mIt, mEnum, mZip, mComp, mFor, mYes, mCallS, mCall, mCallT, mCallP, mPurIx, mPut, mApd, mPop, mPut2, mBits, permL, gAdd, PV.gSub, gLt, gLe, gGt, gGe, gLen, gInt, gMax2, gMin2, bT_nm, bT_tp, bA_nil, bA_cons, wipeE, shp_0, shp_1, shp_2, shp_3, shp_4, shp_5, shp_6, shp_7, shp_8, shp_9, shp_10, shp_11, shp_12, shp_13, shp_14, shp_15, shp_16, shp_17, shp_18, shp_19, shp_20, pshp_0, pshp_1, pshp_2, pshp_3, pshp_4, Bool.false_eq_true, if_false, if_true, ↓reduceIte, reduceCtorEq, List.map_cons, List.map_nil, List.nil_append, List.cons_append, List.append_nil, List.length_cons, List.length_nil, List.getElem?_cons_zero, List.getElem?_cons_succ, List.getElem?_nil, List.set_cons_zero, List.set_cons_succ, List.isEmpty_nil, List.isEmpty_cons, List.any_cons, List.any_nil, List.filterMap_cons, List.filterMap_nil, List.replicate_succ, List.replicate_zero, Option.bind_some, Option.bind_none, Option.map_some, Option.map_none, Nat.reduceAdd, Nat.reduceSub, Nat.reduceLeDiff, Nat.zero_add, Nat.add_zero, and_self, and_true, true_and, Bool.not_true, Bool.not_false, Bool.or_false, Bool.false_or, Bool.or_true, Bool.true_or, List.length_map]
theorem sem_check_many (W k : Nat) (hk : 3 ≤ k) (m : Int) (hm : 1 ≤ m) (p : List D) : sem gm W tbl k 2 [.int m] p = some (.fro .none, p) := by
  obtain ⟨j, rfl⟩ : ∃ j, k = j + 1 := ⟨k - 1, by omega⟩
  show runD gm (sem gm W tbl j) W d_check_many [.int m] p = _
  have h : decide (max (1 : Int) 0 ≤ m) = true := by simp; omega
  simp only [d_check_many, b_check_many, sem_is_count W j (by omega), cntB, h, runD, startE, exs, ex, evX, ev, evs, evI, mThen, mDone, mSet, mSet2, mAsg, mRet, mRetN, mRetV, mFrz, mIf, mExp, mB, mB_not, mB_and, mB_or, mNotB, mAndB, mOrB, mNotV, mAndV, mOrV, mNeg, mIfB, m2, gBop, gCop, gBlt, mK, mVar, mOv, mCons, mNil, mStar, mSz, mApp, mTup, mList, mFro, mOpn, mSl, toD, mCat, mCutL, mPart, mRev, mIsi, mIt, mEnum, mZip, mComp, mFor, mYes, mCallS, mCall, mCallT, mCallP, mPurIx, mPut, mApd, mPop, mPut2, mBits, permL, gAdd, PV.gSub, gLt, gLe, gGt, gGe, gLen, gInt, gMax2, gMin2, bT_nm, bT_tp, bA_nil, bA_cons, wipeE, shp_0, shp_1, shp_2, shp_3, shp_4, shp_5, shp_6, shp_7, shp_8, shp_9, shp_10, shp_11, shp_12, shp_13, shp_14, shp_15, shp_16, shp_17, shp_18, shp_19, shp_20, pshp_0, pshp_1, pshp_2, pshp_3, pshp_4, Bool.false_eq_true, if_false, if_true, ↓reduceIte, reduceCtorEq, List.map_cons, List.map_nil, List.nil_append, List.cons_append, List.append_nil, List.length_cons, List.length_nil, List.getElem?_cons_zero, List.getElem?_cons_succ, List.getElem?_nil, List.set_cons_zero, List.set_cons_succ, List.isEmpty_nil, List.isEmpty_cons, List.any_cons, List.any_nil, List.filterMap_cons, List.filterMap_nil, List.replicate_succ, List.replicate_zero, Option.bind_some, Option.bind_none, Option.map_some, Option.map_none, Nat.reduceAdd, Nat.reduceSub, Nat.reduceLeDiff, Nat.zero_add, Nat.add_zero, and_self, and_true, true_and, Bool.not_true, Bool.not_false, Bool.or_false, Bool.false_or, Bool.or_true, Bool.true_or, List.length_map]
theorem sem_exchanged (W k : Nat) (hk : 1 ≤ k) (l : List Int) (i : Nat) (hi : i + 1 < l.length) (hl : l.length ≤ 100) (p : List D) : sem gm W tbl k 4 [iL l, .int (i : Int)] p = some (.opn ((exch l i).map PyData.int), p) := by
  obtain ⟨j, rfl⟩ : ∃ j, k = j + 1 := ⟨k - 1, by omega⟩
  show runD gm (sem gm W tbl j) W d_exchanged [iL l, .int (i : Int)] p = _
  have e1 := gIx_nat l (i + 1) hi
  have e2 := gIx_nat l i (by omega)
  have e3 := cutD_hi (l.map PyData.int) i (by rw [List.length_map]; omega)
  have e4 := cutD_lo (l.map PyData.int) (i + 2) (by rw [List.length_map]; omega)
  have e5 := small (exch l i).length (by rw [exch_len l i hi]; omega)
  rw [← List.length_map (f := PyData.int), exch_D] at e5
  simp only [Int.natCast_add, Int.natCast_one, Int.cast_ofNat_Int] at e1 e4
  rw [exch_D]
  simp only [d_exchanged, b_exchanged, e1, e2, e3, e4, runD, startE, exs, ex, evX, ev, evs, evI, mThen, mDone, mSet, mSet2, mAsg, mRet, mRetN, mRetV, mFrz, mIf, mExp, mB, mB_not, mB_and, mB_or, mNotB, mAndB, mOrB, mNotV, mAndV, mOrV, mNeg, mIfB, m2, gBop, gCop, gBlt, mK, mVar, mOv, mCons, mNil, mStar, mSz, mApp, mTup, mList, mFro, mOpn, mSl, toD, mCat, mCutL, mPart, mRev, mIsi, mIt, mEnum, mZip, mComp, mFor, mYes, mCallS, mCall, mCallT, mCallP, mPurIx, mPut, mApd, mPop, mPut2, mBits, permL, gAdd, PV.gSub, gLt, gLe, gGt, gGe, gLen, gInt, gMax2, gMin2, bT_nm, bT_tp, bA_nil, bA_cons, wipeE, shp_0, shp_1, shp_2, shp_3, shp_4, shp_5, shp_6, shp_7, shp_8, shp_9, shp_10, shp_11, shp_12, shp_13, shp_14, shp_15, shp_16, shp_17, shp_18, shp_19, shp_20, pshp_0, pshp_1, pshp_2, pshp_3, pshp_4, Bool.false_eq_true, if_false, if_true, ↓reduceIte, reduceCtorEq, List.map_cons, List.map_nil, List.nil_append, List.cons_append, List.append_nil, List.length_cons, List.length_nil, List.getElem?_cons_zero, List.getElem?_cons_succ, List.getElem?_nil, List.set_cons_zero, List.set_cons_succ, List.isEmpty_nil, List.isEmpty_cons, List.any_cons, List.any_nil, List.filterMap_cons, List.filterMap_nil, List.replicate_succ, List.replicate_zero, Option.bind_some, Option.bind_none, Option.map_some, Option.map_none, Nat.reduceAdd, Nat.reduceSub, Nat.reduceLeDiff, Nat.zero_add, Nat.add_zero, and_self, and_true, true_and, Bool.not_true, Bool.not_false, Bool.or_false, Bool.false_or, Bool.or_true, Bool.true_or, List.length_map]
  simp only [if_pos e5, runD, startE, exs, ex, evX, ev, evs, evI, mThen, mDone, mSet, mSet2, mAsg, mRet, mRetN, mRetV, mFrz, mIf, mExp, mB, mB_not, mB_and, mB_or, mNotB, mAndB, mOrB, mNotV, mAndV, mOrV, mNeg, mIfB, m2, gBop, gCop, gBlt, mK, mVar, mOv, mCons, mNil, mStar, mSz, mApp, mTup, mList, mFro, mOpn, mSl, toD, mCat, mCutL, mPart, mRev, mIsi, mIt, mEnum, mZip, mComp, mFor, mYes, mCallS, mCall, mCallT, mCallP, mPurIx, mPut, mApd, mPop, mPut2, mBits, permL, gAdd, PV.gSub, gLt, gLe, gGt, gGe, gLen, gInt, gMax2, gMin2, bT_nm, bT_tp, bA_nil, bA_cons, wipeE, shp_0, shp_1, shp_2, shp_3, shp_4, shp_5, shp_6, shp_7, shp_8, shp_9, shp_10, shp_11, shp_12, shp_13, shp_14, shp_15, shp_16, shp_17, shp_18, shp_19, shp_20, pshp_0, pshp_1, pshp_2, pshp_3, pshp_4, Bool.false_eq_true, if_false, if_true, ↓reduceIte, reduceCtorEq, List.map_cons, List.map_nil, List.nil_append, List.cons_append, List.append_nil, List.length_cons, List.length_nil, List.getElem?_cons_zero, List.getElem?_cons_succ, List.getElem?_nil, List.set_cons_zero, List.set_cons_succ, List.isEmpty_nil, List.isEmpty_cons, List.any_cons, List.any_nil, List.filterMap_cons, List.filterMap_nil, List.replicate_succ, List.replicate_zero, Option.bind_some, Option.bind_none, Option.map_some, Option.map_none, Nat.reduceAdd, Nat.reduceSub, Nat.reduceLeDiff, Nat.zero_add, Nat.add_zero, and_self, and_true, true_and, Bool.not_true, Bool.not_false, Bool.or_false, Bool.false_or, Bool.or_true, Bool.true_or, List.length_map]
theorem sem_lexchanged (W k : Nat) (hk : 1 ≤ k) (l : List Int) (i : Nat) (hi : i + 1 < l.length) (hl : l.length ≤ 100) (p : List D) : sem gm W tbl k 15 [iL l, .int (i : Int)] p = some (.opn ((exch l i).map PyData.int), p) := by
  obtain ⟨j, rfl⟩ : ∃ j, k = j + 1 := ⟨k - 1, by omega⟩
  show runD gm (sem gm W tbl j) W d__law_exchanged [iL l, .int (i : Int)] p = _
  have e1 := gIx_nat l (i + 1) hi
  have e2 := gIx_nat l i (by omega)
  have e3 := cutD_hi (l.map PyData.int) i (by rw [List.length_map]; omega)
  have e4 := cutD_lo (l.map PyData.int) (i + 2) (by rw [List.length_map]; omega)
  have e5 := small (exch l i).length (by rw [exch_len l i hi]; omega)
  rw [← List.length_map (f := PyData.int), exch_D] at e5
  simp only [Int.natCast_add, Int.natCast_one, Int.cast_ofNat_Int] at e1 e4
  rw [exch_D]
  have e6 : ((l.map PyData.int).take i).length + 2 ≤ sizeMax := small _ (by rw [List.length_take, List.length_map]; omega)
  have e7 : ((l.map PyData.int).take i ++ [PyData.int (l.getD (i + 1) 0), PyData.int (l.getD i 0)]).length + ((l.map PyData.int).drop (i + 2)).length ≤ sizeMax := by
    rw [← List.length_append, List.append_assoc]; exact e5
  have e8 : 0 + 1 + 1 ≤ sizeMax := by decide
  simp only [d__law_exchanged, b__law_exchanged, e1, e2, e3, e4, if_pos e8, runD, startE, exs, ex, evX, ev, evs, evI, mThen, mDone, mSet, mSet2, mAsg, mRet, mRetN, mRetV, mFrz, mIf, mExp, mB, mB_not, mB_and, mB_or, mNotB, mAndB, mOrB, mNotV, mAndV, mOrV, mNeg, mIfB, m2, gBop, gCop, gBlt, mK, mVar, mOv, mCons, mNil, mStar, mSz, mApp, mTup, mList, mFro, mOpn, mSl, toD, mCat, mCutL, mPart, mRev, mIsi, mIt, mEnum, mZip, mComp, mFor, mYes, mCallS, mCall, mCallT, mCallP, mPurIx, mPut, mApd, mPop, mPut2, mBits, permL, gAdd, PV.gSub, gLt, gLe, gGt, gGe, gLen, gInt, gMax2, gMin2, bT_nm, bT_tp, bA_nil, bA_cons, wipeE, shp_0, shp_1, shp_2, shp_3, shp_4, shp_5, shp_6, shp_7, shp_8, shp_9, shp_10, shp_11, shp_12, shp_13, shp_14, shp_15, shp_16, shp_17, shp_18, shp_19, shp_20, pshp_0, pshp_1, pshp_2, pshp_3, pshp_4, Bool.false_eq_true, if_false, if_true, ↓reduceIte, reduceCtorEq, List.map_cons, List.map_nil, List.nil_append, List.cons_append, List.append_nil, List.length_cons, List.length_nil, List.getElem?_cons_zero, List.getElem?_cons_succ, List.getElem?_nil, List.set_cons_zero, List.set_cons_succ, List.isEmpty_nil, List.isEmpty_cons, List.any_cons, List.any_nil, List.filterMap_cons, List.filterMap_nil, List.replicate_succ, List.replicate_zero, Option.bind_some, Option.bind_none, Option.map_some, Option.map_none, Nat.reduceAdd, Nat.reduceSub, Nat.reduceLeDiff, Nat.zero_add, Nat.add_zero, and_self, and_true, true_and, Bool.not_true, Bool.not_false, Bool.or_false, Bool.false_or, Bool.or_true, Bool.true_or, List.length_map]
  simp only [if_pos e6, if_pos e7, runD, startE, exs, ex, evX, ev, evs, evI, mThen, mDone, mSet, mSet2, mAsg, mRet, mRetN, mRetV, mFrz, mIf, mExp, mB, mB_not, mB_and, mB_or, mNotB, mAndB, mOrB, mNotV, mAndV, mOrV, mNeg, mIfB, m2, gBop, gCop, gBlt, mK, mVar, mOv, mCons, mNil, mStar, mSz, mApp, mTup, mList, mFro, mOpn, mSl, toD, mCat, mCutL, mPart, mRev, mIsi, mIt, mEnum, mZip, mComp, mFor, mYes, mCallS, mCall, mCallT, mCallP, mPurIx, mPut, mApd, mPop, mPut2, mBits, permL, gAdd, PV.gSub, gLt, gLe, gGt, gGe, gLen, gInt, gMax2, gMin2, bT_nm, bT_tp, bA_nil, bA_cons, wipeE, shp_0, shp_1, shp_2, shp_3, shp_4, shp_5, shp_6, shp_7, shp_8, shp_9, shp_10, shp_11, shp_12, shp_13, shp_14, shp_15, shp_16, shp_17, shp_18, shp_19, shp_20, pshp_0, pshp_1, pshp_2, pshp_3, pshp_4, Bool.false_eq_true, if_false, if_true, ↓reduceIte, reduceCtorEq, List.map_cons, List.map_nil, List.nil_append, List.cons_append, List.append_nil, List.length_cons, List.length_nil, List.getElem?_cons_zero, List.getElem?_cons_succ, List.getElem?_nil, List.set_cons_zero, List.set_cons_succ, List.isEmpty_nil, List.isEmpty_cons, List.any_cons, List.any_nil, List.filterMap_cons, List.filterMap_nil, List.replicate_succ, List.replicate_zero, Option.bind_some, Option.bind_none, Option.map_some, Option.map_none, Nat.reduceAdd, Nat.reduceSub, Nat.reduceLeDiff, Nat.zero_add, Nat.add_zero, and_self, and_true, true_and, Bool.not_true, Bool.not_false, Bool.or_false, Bool.false_or, Bool.or_true, Bool.true_or, List.length_map]
  rw [List.append_assoc]; rfl
end K73

set_option Elab.async false
set_option linter.all false
set_option maxRecDepth 100000
set_option maxHeartbeats 8000000
namespace K73
open PySem PySem.Spec L2 PV
open PyProof.Rows hiding St cutD

theorem goC_map {T : Tg} {env : PV.Env} {me : Ms D} (f : D → D) : ∀ (ds : List D) (p : List D), (∀ d ∈ ds, ∃ e1, bindT T d env = some e1 ∧ me e1 p = some (f d, p)) → goC T env mYes me ds p = some (ds.map f, p)
  | [], p, _ => rfl
  | d :: ds, p, h => by
    obtain ⟨e1, h1, h2⟩ := h d (List.mem_cons_self ..)
    rw [goC, h1]
    simp only [Option.bind_some, mYes, if_true, h2, goC_map f ds p fun d hd => h d (List.mem_cons_of_mem _ hd)]
    rfl
theorem goC_filter {T : Tg} {env : PV.Env} {mt : Ms Bool} {me : Ms D} (c : D → Bool) (f : D → D) : ∀ (ds : List D) (p : List D), (∀ d ∈ ds, ∃ e1, bindT T d env = some e1 ∧ mt e1 p = some (c d, p) ∧ me e1 p = some (f d, p)) → goC T env mt me ds p = some ((ds.filter c).map f, p)
  | [], p, _ => rfl
  | d :: ds, p, h => by
    obtain ⟨e1, h1, h2, h3⟩ := h d (List.mem_cons_self ..)
    have ih := goC_filter c f ds p fun d hd => h d (List.mem_cons_of_mem _ hd)
    rw [goC, h1]
    simp only [Option.bind_some, h2]
    cases hc : c d with
    | true => simp only [if_true, h3, Option.bind_some, ih, List.filter_cons, hc, List.map_cons]; rfl
    | false => simp only [Bool.false_eq_true, if_false, ih, List.filter_cons, hc]
theorem boolsOf_map (f : D → Bool) : ∀ ds : List D, boolsOf (ds.map fun d => PyData.bool (f d)) = some (ds.map f)
  | [] => rfl
  | d :: ds => by rw [List.map_cons, boolsOf, boolsOf_map f ds]; rfl
theorem gAll_map (f : D → Bool) (ds : List D) : gAll [.list (ds.map fun d => PyData.bool (f d))] = some (.bool (ds.all f)) := by
  show (boolsOf (ds.map fun d => PyData.bool (f d))).map (fun bs => PyData.bool (bs.all _root_.id)) = _
  rw [boolsOf_map]
  simp [List.all_map, Function.comp_def]
def tri (m : Nat) : Nat := m * (m - 1) / 2
theorem tri_eq {m : Nat} (h1 : 1 ≤ m) (h8 : m ≤ 8) : ((m : Int) * ((m : Int) - 1)).fdiv 2 = ((tri m : Nat) : Int) := by
  have : m = 1 ∨ m = 2 ∨ m = 3 ∨ m = 4 ∨ m = 5 ∨ m = 6 ∨ m = 7 ∨ m = 8 := by omega
  rcases this with rfl | rfl | rfl | rfl | rfl | rfl | rfl | rfl <;> decide
theorem mul_tri {m : Nat} (h1 : 1 ≤ m) (h8 : m ≤ 8) : gMul (.int (m : Int)) (.int ((m : Int) - 1)) = some (.int ((m : Int) * ((m : Int) - 1))) := by
  have : m = 1 ∨ m = 2 ∨ m = 3 ∨ m = 4 ∨ m = 5 ∨ m = 6 ∨ m = 7 ∨ m = 8 := by omega
  rcases this with rfl | rfl | rfl | rfl | rfl | rfl | rfl | rfl <;> rfl
theorem div_two (a : Int) : gDiv (.int a) (.int 2) = some (.int (a.fdiv 2)) := if_pos (c := ((2 : Int) ≠ 0 ∧ (2 : Int).natAbs.log2 < 9000)) (e := none) (by decide)
theorem gNe_int (a b : Int) : gNe (.int a) (.int b) = some (.bool (!(a == b))) := rfl
theorem gEq_int (a b : Int) : gEq (.int a) (.int b) = some (.bool (a == b)) := rfl
def inR (m : Nat) : D → Bool
  | .int a => decide (0 ≤ a) && decide (a < (m : Int) - 1)
  | _ => false
def below (m : Nat) : D → Bool
  | .list ds => decide (ds.length = tri m) && ds.all (inR m)
  | _ => false
theorem isL (v : D) : isD v .list = (match v with | .list _ => true | _ => false) := by cases v <;> rfl
theorem sem_below (W k : Nat) (hk : 4 ≤ k) (m : Nat) (h1 : 1 ≤ m) (h8 : m ≤ 8) (v : D) (p : List D) : sem gm W tbl k 3 [.int (m : Int), v] p = some (.fro (.bool (below m v)), p) := by
  obtain ⟨j, rfl⟩ : ∃ j, k = j + 1 := ⟨k - 1, by omega⟩
  show runD gm (sem gm W tbl j) W d_are_counts_below [.int (m : Int), v] p = _
  cases v with
  | list ds =>
    have e28 : tri m ≤ sizeMax := small _ (by
      have : m = 1 ∨ m = 2 ∨ m = 3 ∨ m = 4 ∨ m = 5 ∨ m = 6 ∨ m = 7 ∨ m = 8 := by omega
      rcases this with rfl | rfl | rfl | rfl | rfl | rfl | rfl | rfl <;> decide)
    by_cases hl : ds.length = tri m
    · have hc : goC (.nm 2) [some (Sl.fro (.int (m : Int))), some (Sl.fro (.list ds)), none] mYes (ev gm (sem gm W tbl j) (.and (.call 2 (.cons (.var 2) .nil) .nil) (.cmp .lt (.ov 2) (.bin .sub (.ov 0) (.k (.int 1)))))) ds p = some (ds.map fun d => .bool (inR m d), p) := by
        refine goC_map _ ds p fun d _ => ⟨_, rfl, ?_⟩
        cases d with
        | int a =>
          by_cases ha : (0 : Int) ≤ a
          · have : decide (max (0 : Int) 0 ≤ a) = true := by simp [ha]
            simp only [sem_is_count W j (by omega), cntB, inR, this, ha, decide_true, Bool.true_and, runD, startE, exs, ex, evX, ev, evs, evI, mThen, mDone, mSet, mSet2, mAsg, mRet, mRetN, mRetV, mFrz, mIf, mExp, mB, mB_not, mB_and, mB_or, mNotB, mAndB, mOrB, mNotV, mAndV, mOrV, mNeg, mIfB, m2, gBop, gCop, gBlt, mK, mVar, mOv, mCons, mNil, mStar, mSz, mApp, mTup, mList, mFro, mOpn, mSl, toD, mCat, mCutL, mPart, mRev, mIsi, mIt, mEnum, mZip, mComp, mFor, mYes, mCallS, mCall, mCallT, mCallP, mPurIx, mPut, mApd, mPop, mPut2, mBits, permL, gAdd, PV.gSub, gLt, gLe, gGt, gGe, gLen, gInt, gMax2, gMin2, bT_nm, bT_tp, bA_nil, bA_cons, wipeE, shp_0, shp_1, shp_2, shp_3, shp_4, shp_5, shp_6, shp_7, shp_8, shp_9, shp_10, shp_11, shp_12, shp_13, shp_14, shp_15, shp_16, shp_17, shp_18, shp_19, shp_20, pshp_0, pshp_1, pshp_2, pshp_3, pshp_4, Bool.false_eq_true, if_false, if_true, ↓reduceIte, reduceCtorEq, List.map_cons, List.map_nil, List.nil_append, List.cons_append, List.append_nil, List.length_cons, List.length_nil, List.getElem?_cons_zero, List.getElem?_cons_succ, List.getElem?_nil, List.set_cons_zero, List.set_cons_succ, List.isEmpty_nil, List.isEmpty_cons, List.any_cons, List.any_nil, List.filterMap_cons, List.filterMap_nil, List.replicate_succ, List.replicate_zero, Option.bind_some, Option.bind_none, Option.map_some, Option.map_none, Nat.reduceAdd, Nat.reduceSub, Nat.reduceLeDiff, Nat.zero_add, Nat.add_zero, and_self, and_true, true_and, Bool.not_true, Bool.not_false, Bool.or_false, Bool.false_or, Bool.or_true, Bool.true_or, List.length_map]
          · have : decide (max (0 : Int) 0 ≤ a) = false := by simp; omega
            simp only [sem_is_count W j (by omega), cntB, inR, this, ha, decide_false, Bool.false_and, runD, startE, exs, ex, evX, ev, evs, evI, mThen, mDone, mSet, mSet2, mAsg, mRet, mRetN, mRetV, mFrz, mIf, mExp, mB, mB_not, mB_and, mB_or, mNotB, mAndB, mOrB, mNotV, mAndV, mOrV, mNeg, mIfB, m2, gBop, gCop, gBlt, mK, mVar, mOv, mCons, mNil, mStar, mSz, mApp, mTup, mList, mFro, mOpn, mSl, toD, mCat, mCutL, mPart, mRev, mIsi, mIt, mEnum, mZip, mComp, mFor, mYes, mCallS, mCall, mCallT, mCallP, mPurIx, mPut, mApd, mPop, mPut2, mBits, permL, gAdd, PV.gSub, gLt, gLe, gGt, gGe, gLen, gInt, gMax2, gMin2, bT_nm, bT_tp, bA_nil, bA_cons, wipeE, shp_0, shp_1, shp_2, shp_3, shp_4, shp_5, shp_6, shp_7, shp_8, shp_9, shp_10, shp_11, shp_12, shp_13, shp_14, shp_15, shp_16, shp_17, shp_18, shp_19, shp_20, pshp_0, pshp_1, pshp_2, pshp_3, pshp_4, Bool.false_eq_true, if_false, if_true, ↓reduceIte, reduceCtorEq, List.map_cons, List.map_nil, List.nil_append, List.cons_append, List.append_nil, List.length_cons, List.length_nil, List.getElem?_cons_zero, List.getElem?_cons_succ, List.getElem?_nil, List.set_cons_zero, List.set_cons_succ, List.isEmpty_nil, List.isEmpty_cons, List.any_cons, List.any_nil, List.filterMap_cons, List.filterMap_nil, List.replicate_succ, List.replicate_zero, Option.bind_some, Option.bind_none, Option.map_some, Option.map_none, Nat.reduceAdd, Nat.reduceSub, Nat.reduceLeDiff, Nat.zero_add, Nat.add_zero, and_self, and_true, true_and, Bool.not_true, Bool.not_false, Bool.or_false, Bool.false_or, Bool.or_true, Bool.true_or, List.length_map]
        | _ => simp only [sem_is_count W j (by omega), cntB, inR, runD, startE, exs, ex, evX, ev, evs, evI, mThen, mDone, mSet, mSet2, mAsg, mRet, mRetN, mRetV, mFrz, mIf, mExp, mB, mB_not, mB_and, mB_or, mNotB, mAndB, mOrB, mNotV, mAndV, mOrV, mNeg, mIfB, m2, gBop, gCop, gBlt, mK, mVar, mOv, mCons, mNil, mStar, mSz, mApp, mTup, mList, mFro, mOpn, mSl, toD, mCat, mCutL, mPart, mRev, mIsi, mIt, mEnum, mZip, mComp, mFor, mYes, mCallS, mCall, mCallT, mCallP, mPurIx, mPut, mApd, mPop, mPut2, mBits, permL, gAdd, PV.gSub, gLt, gLe, gGt, gGe, gLen, gInt, gMax2, gMin2, bT_nm, bT_tp, bA_nil, bA_cons, wipeE, shp_0, shp_1, shp_2, shp_3, shp_4, shp_5, shp_6, shp_7, shp_8, shp_9, shp_10, shp_11, shp_12, shp_13, shp_14, shp_15, shp_16, shp_17, shp_18, shp_19, shp_20, pshp_0, pshp_1, pshp_2, pshp_3, pshp_4, Bool.false_eq_true, if_false, if_true, ↓reduceIte, reduceCtorEq, List.map_cons, List.map_nil, List.nil_append, List.cons_append, List.append_nil, List.length_cons, List.length_nil, List.getElem?_cons_zero, List.getElem?_cons_succ, List.getElem?_nil, List.set_cons_zero, List.set_cons_succ, List.isEmpty_nil, List.isEmpty_cons, List.any_cons, List.any_nil, List.filterMap_cons, List.filterMap_nil, List.replicate_succ, List.replicate_zero, Option.bind_some, Option.bind_none, Option.map_some, Option.map_none, Nat.reduceAdd, Nat.reduceSub, Nat.reduceLeDiff, Nat.zero_add, Nat.add_zero, and_self, and_true, true_and, Bool.not_true, Bool.not_false, Bool.or_false, Bool.false_or, Bool.or_true, Bool.true_or, List.length_map]
      simp only [ev, runD, startE, exs, ex, evX, ev, evs, evI, mThen, mDone, mSet, mSet2, mAsg, mRet, mRetN, mRetV, mFrz, mIf, mExp, mB, mB_not, mB_and, mB_or, mNotB, mAndB, mOrB, mNotV, mAndV, mOrV, mNeg, mIfB, m2, gBop, gCop, gBlt, mK, mVar, mOv, mCons, mNil, mStar, mSz, mApp, mTup, mList, mFro, mOpn, mSl, toD, mCat, mCutL, mPart, mRev, mIsi, mIt, mEnum, mZip, mComp, mFor, mYes, mCallS, mCall, mCallT, mCallP, mPurIx, mPut, mApd, mPop, mPut2, mBits, permL, gAdd, PV.gSub, gLt, gLe, gGt, gGe, gLen, gInt, gMax2, gMin2, bT_nm, bT_tp, bA_nil, bA_cons, wipeE, shp_0, shp_1, shp_2, shp_3, shp_4, shp_5, shp_6, shp_7, shp_8, shp_9, shp_10, shp_11, shp_12, shp_13, shp_14, shp_15, shp_16, shp_17, shp_18, shp_19, shp_20, pshp_0, pshp_1, pshp_2, pshp_3, pshp_4, Bool.false_eq_true, if_false, if_true, ↓reduceIte, reduceCtorEq, List.map_cons, List.map_nil, List.nil_append, List.cons_append, List.append_nil, List.length_cons, List.length_nil, List.getElem?_cons_zero, List.getElem?_cons_succ, List.getElem?_nil, List.set_cons_zero, List.set_cons_succ, List.isEmpty_nil, List.isEmpty_cons, List.any_cons, List.any_nil, List.filterMap_cons, List.filterMap_nil, List.replicate_succ, List.replicate_zero, Option.bind_some, Option.bind_none, Option.map_some, Option.map_none, Nat.reduceAdd, Nat.reduceSub, Nat.reduceLeDiff, Nat.zero_add, Nat.add_zero, and_self, and_true, true_and, Bool.not_true, Bool.not_false, Bool.or_false, Bool.false_or, Bool.or_true, Bool.true_or, List.length_map] at hc
      simp only [d_are_counts_below, b_are_counts_below, isL, below, gNe_int, mul_tri h1 h8, tri_eq h1 h8, div_two, hl, decide_true, beq_self_eq_true, hc, if_pos e28, gAll_map, runD, startE, exs, ex, evX, ev, evs, evI, mThen, mDone, mSet, mSet2, mAsg, mRet, mRetN, mRetV, mFrz, mIf, mExp, mB, mB_not, mB_and, mB_or, mNotB, mAndB, mOrB, mNotV, mAndV, mOrV, mNeg, mIfB, m2, gBop, gCop, gBlt, mK, mVar, mOv, mCons, mNil, mStar, mSz, mApp, mTup, mList, mFro, mOpn, mSl, toD, mCat, mCutL, mPart, mRev, mIsi, mIt, mEnum, mZip, mComp, mFor, mYes, mCallS, mCall, mCallT, mCallP, mPurIx, mPut, mApd, mPop, mPut2, mBits, permL, gAdd, PV.gSub, gLt, gLe, gGt, gGe, gLen, gInt, gMax2, gMin2, bT_nm, bT_tp, bA_nil, bA_cons, wipeE, shp_0, shp_1, shp_2, shp_3, shp_4, shp_5, shp_6, shp_7, shp_8, shp_9, shp_10, shp_11, shp_12, shp_13, shp_14, shp_15, shp_16, shp_17, shp_18, shp_19, shp_20, pshp_0, pshp_1, pshp_2, pshp_3, pshp_4, Bool.false_eq_true, if_false, if_true, ↓reduceIte, reduceCtorEq, List.map_cons, List.map_nil, List.nil_append, List.cons_append, List.append_nil, List.length_cons, List.length_nil, List.getElem?_cons_zero, List.getElem?_cons_succ, List.getElem?_nil, List.set_cons_zero, List.set_cons_succ, List.isEmpty_nil, List.isEmpty_cons, List.any_cons, List.any_nil, List.filterMap_cons, List.filterMap_nil, List.replicate_succ, List.replicate_zero, Option.bind_some, Option.bind_none, Option.map_some, Option.map_none, Nat.reduceAdd, Nat.reduceSub, Nat.reduceLeDiff, Nat.zero_add, Nat.add_zero, and_self, and_true, true_and, Bool.not_true, Bool.not_false, Bool.or_false, Bool.false_or, Bool.or_true, Bool.true_or, List.length_map]
      simp only [Bool.true_and]
    · have e : ((ds.length : Int) == ((tri m : Nat) : Int)) = false := by simp; omega
      simp only [d_are_counts_below, b_are_counts_below, isL, below, gNe_int, mul_tri h1 h8, tri_eq h1 h8, div_two, hl, e, decide_false, Bool.false_and, gLen, runD, startE, exs, ex, evX, ev, evs, evI, mThen, mDone, mSet, mSet2, mAsg, mRet, mRetN, mRetV, mFrz, mIf, mExp, mB, mB_not, mB_and, mB_or, mNotB, mAndB, mOrB, mNotV, mAndV, mOrV, mNeg, mIfB, m2, gBop, gCop, gBlt, mK, mVar, mOv, mCons, mNil, mStar, mSz, mApp, mTup, mList, mFro, mOpn, mSl, toD, mCat, mCutL, mPart, mRev, mIsi, mIt, mEnum, mZip, mComp, mFor, mYes, mCallS, mCall, mCallT, mCallP, mPurIx, mPut, mApd, mPop, mPut2, mBits, permL, gAdd, PV.gSub, gLt, gLe, gGt, gGe, gLen, gInt, gMax2, gMin2, bT_nm, bT_tp, bA_nil, bA_cons, wipeE, shp_0, shp_1, shp_2, shp_3, shp_4, shp_5, shp_6, shp_7, shp_8, shp_9, shp_10, shp_11, shp_12, shp_13, shp_14, shp_15, shp_16, shp_17, shp_18, shp_19, shp_20, pshp_0, pshp_1, pshp_2, pshp_3, pshp_4, Bool.false_eq_true, if_false, if_true, ↓reduceIte, reduceCtorEq, List.map_cons, List.map_nil, List.nil_append, List.cons_append, List.append_nil, List.length_cons, List.length_nil, List.getElem?_cons_zero, List.getElem?_cons_succ, List.getElem?_nil, List.set_cons_zero, List.set_cons_succ, List.isEmpty_nil, List.isEmpty_cons, List.any_cons, List.any_nil, List.filterMap_cons, List.filterMap_nil, List.replicate_succ, List.replicate_zero, Option.bind_some, Option.bind_none, Option.map_some, Option.map_none, Nat.reduceAdd, Nat.reduceSub, Nat.reduceLeDiff, Nat.zero_add, Nat.add_zero, and_self, and_true, true_and, Bool.not_true, Bool.not_false, Bool.or_false, Bool.false_or, Bool.or_true, Bool.true_or, List.length_map]
  | _ => simp only [d_are_counts_below, b_are_counts_below, isL, below, runD, startE, exs, ex, evX, ev, evs, evI, mThen, mDone, mSet, mSet2, mAsg, mRet, mRetN, mRetV, mFrz, mIf, mExp, mB, mB_not, mB_and, mB_or, mNotB, mAndB, mOrB, mNotV, mAndV, mOrV, mNeg, mIfB, m2, gBop, gCop, gBlt, mK, mVar, mOv, mCons, mNil, mStar, mSz, mApp, mTup, mList, mFro, mOpn, mSl, toD, mCat, mCutL, mPart, mRev, mIsi, mIt, mEnum, mZip, mComp, mFor, mYes, mCallS, mCall, mCallT, mCallP, mPurIx, mPut, mApd, mPop, mPut2, mBits, permL, gAdd, PV.gSub, gLt, gLe, gGt, gGe, gLen, gInt, gMax2, gMin2, bT_nm, bT_tp, bA_nil, bA_cons, wipeE, shp_0, shp_1, shp_2, shp_3, shp_4, shp_5, shp_6, shp_7, shp_8, shp_9, shp_10, shp_11, shp_12, shp_13, shp_14, shp_15, shp_16, shp_17, shp_18, shp_19, shp_20, pshp_0, pshp_1, pshp_2, pshp_3, pshp_4, Bool.false_eq_true, if_false, if_true, ↓reduceIte, reduceCtorEq, List.map_cons, List.map_nil, List.nil_append, List.cons_append, List.append_nil, List.length_cons, List.length_nil, List.getElem?_cons_zero, List.getElem?_cons_succ, List.getElem?_nil, List.set_cons_zero, List.set_cons_succ, List.isEmpty_nil, List.isEmpty_cons, List.any_cons, List.any_nil, List.filterMap_cons, List.filterMap_nil, List.replicate_succ, List.replicate_zero, Option.bind_some, Option.bind_none, Option.map_some, Option.map_none, Nat.reduceAdd, Nat.reduceSub, Nat.reduceLeDiff, Nat.zero_add, Nat.add_zero, and_self, and_true, true_and, Bool.not_true, Bool.not_false, Bool.or_false, Bool.false_or, Bool.or_true, Bool.true_or, List.length_map]
end K73

set_option Elab.async false
set_option linter.all false
set_option maxRecDepth 100000
set_option maxHeartbeats 8000000
namespace K73
open PySem PySem.Spec L2 PV
open PyProof.Rows hiding St cutD

def rng (m : Nat) : List Int := (List.range m).map fun (i : Nat) => (0 : Int) + (i : Nat)
theorem rng_len (m : Nat) : (rng m).length = m := by simp [rng]
theorem rgD_rng (m : Nat) : rgD 0 (m : Int) = (rng m).map PyData.int := by
  unfold rgD rng
  rw [List.map_map]
  simp [Function.comp_def]
theorem rgOk_small {m : Nat} (h8 : m ≤ 8) : rgOk 0 (m : Int) = true := by
  have : m = 0 ∨ m = 1 ∨ m = 2 ∨ m = 3 ∨ m = 4 ∨ m = 5 ∨ m = 6 ∨ m = 7 ∨ m = 8 := by omega
  rcases this with rfl | rfl | rfl | rfl | rfl | rfl | rfl | rfl | rfl <;> decide
theorem lrg1_ov {m : Nat} (h8 : m ≤ 8) {i : Nat} {env : PV.Env} {p : List D} (h : (env : List (Option Sl))[i]? = some (some (.fro (.int (m : Int))))) : mLRg1 (mOv i) env p = some ((rng m).map PyData.int, p) := by
  have e : mOv i env p = some (.int (m : Int), p) := by unfold mOv; rw [h]
  unfold mLRg1
  rw [e]
  show (if rgOk 0 (m : Int) then some (rgD 0 (m : Int), p) else none) = _
  rw [if_pos (rgOk_small h8), rgD_rng]
theorem exs_nx {G : Gm} {F : Nat → Sm} {W : Nat} {t : S} {r : Ss} {env e : PV.Env} {p p1 : List D} (h : ex G F W t env p = some (.nx e, p1)) : exs G F W (.cons t r) env p = exs G F W r e p1 := by
  rw [exs]; unfold mThen; rw [h]
theorem exs_rt {G : Gm} {F : Nat → Sm} {W : Nat} {t : S} {r : Ss} {env : PV.Env} {p p1 : List D} {v : Sl} (h : ex G F W t env p = some (.rt v, p1)) : exs G F W (.cons t r) env p = some (.rt v, p1) := by
  rw [exs]; unfold mThen; rw [h]
theorem run_rt {G : Gm} {F : Nat → Sm} {W : Nat} {f : Df} {ds p p1 : List D} {v : Sl} (h : exs G F W f.body (startE f.pur f.ns ds) p = some (.rt v, p1)) : runD G F W f ds p = some (v, p1) := by
  unfold runD; rw [h]
theorem run_nx {G : Gm} {F : Nat → Sm} {W : Nat} {f : Df} {ds p p1 : List D} {e : PV.Env} (h : exs G F W f.body (startE f.pur f.ns ds) p = some (.nx e, p1)) : runD G F W f ds p = some (.fro .none, p1) := by
  unfold runD; rw [h]
theorem set_lrg1 {G : Gm} {F : Nat → Sm} {W : Nat} {m : Nat} (h8 : m ≤ 8) {i j : Nat} {env : PV.Env} {p : List D} (h : (env : List (Option Sl))[j]? = some (some (.fro (.int (m : Int))))) : ex G F W (.set i (.lrg1 (.ov j))) env p = some (.nx (List.set env i (some (.fro (iL (rng m))))), p) := by
  rw [ex, ev, ev]
  unfold mSet mFro mList
  rw [lrg1_ov h8 h]
  rfl
theorem setX_lrg1 {G : Gm} {F : Nat → Sm} {W : Nat} {m : Nat} (h8 : m ≤ 8) {i j : Nat} {env : PV.Env} {p : List D} (h : (env : List (Option Sl))[j]? = some (some (.fro (.int (m : Int))))) : ex G F W (.setX i (.lrg1 (.ov j))) env p = some (.nx (List.set env i (some (.opn ((rng m).map PyData.int)))), p) := by
  rw [ex, evX, ev]
  unfold mSet mOpn
  rw [lrg1_ov h8 h]
  rfl
/-- the walk over positions that are all in range -/
def walk : List Int → List D → Bool
  | _, [] => true
  | l, .int a :: r => if l.getD (a.toNat + 1) 0 < l.getD a.toNat 0 then false else walk (exch l a.toNat) r
  | _, _ :: _ => false
theorem inR_int {m : Nat} {d : D} (h : inR m d = true) : ∃ i : Nat, d = .int (i : Int) ∧ i + 1 < m := by
  cases d with
  | int a =>
    unfold inR at h
    simp only [Bool.and_eq_true, decide_eq_true_eq] at h
    exact ⟨a.toNat, by congr 1; omega, by omega⟩
  | _ => cases h
theorem walk_loop (W j : Nat) (hj : 1 ≤ j) (m : Nat) (h8 : m ≤ 8) (x0 x1 : Option Sl) (p : List D) : ∀ (ds : List D) (l : List Int) (y : Option Sl), ds.all (inR m) = true → l.length = m →
    ∃ e, goF (.nm 3) (exs gm (sem gm W tbl j) W (.cons (.ite [] (.cmp .gt (.ix (.ov 2) (.ov 3)) (.ix (.ov 2) (.bin .add (.ov 3) (.k (.int 1))))) (.cons (.ret (.k (.bool false))) .nil) .nil) (.cons (.set 2 (.call 4 (.cons (.var 2) (.cons (.var 3) .nil)) .nil)) .nil))) ds [x0, x1, some (.fro (iL l)), y] p
      = some (if walk l ds then .nx e else .rt (.fro (.bool false)), p)
  | [], l, y, _, _ => ⟨_, by rw [goF]; rfl⟩
  | d :: ds, l, y, hd, hl => by
    rw [List.all_cons, Bool.and_eq_true] at hd
    obtain ⟨i, rfl, hi⟩ := inR_int hd.1
    have e1 := gIx_nat l (i + 1) (by omega)
    have e2 := gIx_nat l i (by omega)
    simp only [Int.natCast_add, Int.natCast_one, Int.cast_ofNat_Int] at e1
    rw [goF]
    by_cases hw : l.getD (i + 1) 0 < l.getD i 0
    · refine ⟨[], ?_⟩
      simp only [walk, Int.toNat_natCast, e1, e2, hw, decide_true, runD, startE, exs, ex, evX, ev, evs, evI, mThen, mDone, mSet, mSet2, mAsg, mRet, mRetN, mRetV, mFrz, mIf, mExp, mB, mB_not, mB_and, mB_or, mNotB, mAndB, mOrB, mNotV, mAndV, mOrV, mNeg, mIfB, m2, gBop, gCop, gBlt, mK, mVar, mOv, mCons, mNil, mStar, mSz, mApp, mTup, mList, mFro, mOpn, mSl, toD, mCat, mCutL, mPart, mRev, mIsi, mIt, mEnum, mZip, mComp, mFor, mYes, mCallS, mCall, mCallT, mCallP, mPurIx, mPut, mApd, mPop, mPut2, mBits, permL, gAdd, PV.gSub, gLt, gLe, gGt, gGe, gLen, gInt, gMax2, gMin2, bT_nm, bT_tp, bA_nil, bA_cons, wipeE, shp_0, shp_1, shp_2, shp_3, shp_4, shp_5, shp_6, shp_7, shp_8, shp_9, shp_10, shp_11, shp_12, shp_13, shp_14, shp_15, shp_16, shp_17, shp_18, shp_19, shp_20, pshp_0, pshp_1, pshp_2, pshp_3, pshp_4, Bool.false_eq_true, if_false, if_true, ↓reduceIte, reduceCtorEq, List.map_cons, List.map_nil, List.nil_append, List.cons_append, List.append_nil, List.length_cons, List.length_nil, List.getElem?_cons_zero, List.getElem?_cons_succ, List.getElem?_nil, List.set_cons_zero, List.set_cons_succ, List.isEmpty_nil, List.isEmpty_cons, List.any_cons, List.any_nil, List.filterMap_cons, List.filterMap_nil, List.replicate_succ, List.replicate_zero, Option.bind_some, Option.bind_none, Option.map_some, Option.map_none, Nat.reduceAdd, Nat.reduceSub, Nat.reduceLeDiff, Nat.zero_add, Nat.add_zero, and_self, and_true, true_and, Bool.not_true, Bool.not_false, Bool.or_false, Bool.false_or, Bool.or_true, Bool.true_or, List.length_map]
    · obtain ⟨e, he⟩ := walk_loop W j hj m h8 x0 x1 p ds (exch l i) (some (.fro (.int (i : Int)))) hd.2 (by rw [exch_len l i (by omega)]; exact hl)
      refine ⟨e, ?_⟩
      simp only [runD, startE, exs, ex, evX, ev, evs, evI, mThen, mDone, mSet, mSet2, mAsg, mRet, mRetN, mRetV, mFrz, mIf, mExp, mB, mB_not, mB_and, mB_or, mNotB, mAndB, mOrB, mNotV, mAndV, mOrV, mNeg, mIfB, m2, gBop, gCop, gBlt, mK, mVar, mOv, mCons, mNil, mStar, mSz, mApp, mTup, mList, mFro, mOpn, mSl, toD, mCat, mCutL, mPart, mRev, mIsi, mIt, mEnum, mZip, mComp, mFor, mYes, mCallS, mCall, mCallT, mCallP, mPurIx, mPut, mApd, mPop, mPut2, mBits, permL, gAdd, PV.gSub, gLt, gLe, gGt, gGe, gLen, gInt, gMax2, gMin2, bT_nm, bT_tp, bA_nil, bA_cons, wipeE, shp_0, shp_1, shp_2, shp_3, shp_4, shp_5, shp_6, shp_7, shp_8, shp_9, shp_10, shp_11, shp_12, shp_13, shp_14, shp_15, shp_16, shp_17, shp_18, shp_19, shp_20, pshp_0, pshp_1, pshp_2, pshp_3, pshp_4, Bool.false_eq_true, if_false, if_true, ↓reduceIte, reduceCtorEq, List.map_cons, List.map_nil, List.nil_append, List.cons_append, List.append_nil, List.length_cons, List.length_nil, List.getElem?_cons_zero, List.getElem?_cons_succ, List.getElem?_nil, List.set_cons_zero, List.set_cons_succ, List.isEmpty_nil, List.isEmpty_cons, List.any_cons, List.any_nil, List.filterMap_cons, List.filterMap_nil, List.replicate_succ, List.replicate_zero, Option.bind_some, Option.bind_none, Option.map_some, Option.map_none, Nat.reduceAdd, Nat.reduceSub, Nat.reduceLeDiff, Nat.zero_add, Nat.add_zero, and_self, and_true, true_and, Bool.not_true, Bool.not_false, Bool.or_false, Bool.false_or, Bool.or_true, Bool.true_or, List.length_map] at he
      simp only [walk, Int.toNat_natCast, e1, e2, hw, decide_false, sem_exchanged W j hj l i (by omega) (by omega), he, runD, startE, exs, ex, evX, ev, evs, evI, mThen, mDone, mSet, mSet2, mAsg, mRet, mRetN, mRetV, mFrz, mIf, mExp, mB, mB_not, mB_and, mB_or, mNotB, mAndB, mOrB, mNotV, mAndV, mOrV, mNeg, mIfB, m2, gBop, gCop, gBlt, mK, mVar, mOv, mCons, mNil, mStar, mSz, mApp, mTup, mList, mFro, mOpn, mSl, toD, mCat, mCutL, mPart, mRev, mIsi, mIt, mEnum, mZip, mComp, mFor, mYes, mCallS, mCall, mCallT, mCallP, mPurIx, mPut, mApd, mPop, mPut2, mBits, permL, gAdd, PV.gSub, gLt, gLe, gGt, gGe, gLen, gInt, gMax2, gMin2, bT_nm, bT_tp, bA_nil, bA_cons, wipeE, shp_0, shp_1, shp_2, shp_3, shp_4, shp_5, shp_6, shp_7, shp_8, shp_9, shp_10, shp_11, shp_12, shp_13, shp_14, shp_15, shp_16, shp_17, shp_18, shp_19, shp_20, pshp_0, pshp_1, pshp_2, pshp_3, pshp_4, Bool.false_eq_true, if_false, if_true, ↓reduceIte, reduceCtorEq, List.map_cons, List.map_nil, List.nil_append, List.cons_append, List.append_nil, List.length_cons, List.length_nil, List.getElem?_cons_zero, List.getElem?_cons_succ, List.getElem?_nil, List.set_cons_zero, List.set_cons_succ, List.isEmpty_nil, List.isEmpty_cons, List.any_cons, List.any_nil, List.filterMap_cons, List.filterMap_nil, List.replicate_succ, List.replicate_zero, Option.bind_some, Option.bind_none, Option.map_some, Option.map_none, Nat.reduceAdd, Nat.reduceSub, Nat.reduceLeDiff, Nat.zero_add, Nat.add_zero, and_self, and_true, true_and, Bool.not_true, Bool.not_false, Bool.or_false, Bool.false_or, Bool.or_true, Bool.true_or, List.length_map]
def rowP (m : Nat) (v : D) : Bool := match v with
  | .list ds => below m v && walk (rng m) ds
  | _ => false
theorem sem_row_there (W k : Nat) (hk : 5 ≤ k) (m : Nat) (h1 : 1 ≤ m) (h8 : m ≤ 8) (v : D) (p : List D) : sem gm W tbl k 5 [.int (m : Int), v] p = some (.fro (.bool (rowP m v)), p) := by
  obtain ⟨j, rfl⟩ : ∃ j, k = j + 1 := ⟨k - 1, by omega⟩
  show runD gm (sem gm W tbl j) W d_is_row_there [.int (m : Int), v] p = _
  cases v with
  | list ds =>
    cases hb : below m (.list ds) with
    | false => simp only [d_is_row_there, b_is_row_there, sem_below W j (by omega) m h1 h8, hb, rowP, Bool.false_and, runD, startE, exs, ex, evX, ev, evs, evI, mThen, mDone, mSet, mSet2, mAsg, mRet, mRetN, mRetV, mFrz, mIf, mExp, mB, mB_not, mB_and, mB_or, mNotB, mAndB, mOrB, mNotV, mAndV, mOrV, mNeg, mIfB, m2, gBop, gCop, gBlt, mK, mVar, mOv, mCons, mNil, mStar, mSz, mApp, mTup, mList, mFro, mOpn, mSl, toD, mCat, mCutL, mPart, mRev, mIsi, mIt, mEnum, mZip, mComp, mFor, mYes, mCallS, mCall, mCallT, mCallP, mPurIx, mPut, mApd, mPop, mPut2, mBits, permL, gAdd, PV.gSub, gLt, gLe, gGt, gGe, gLen, gInt, gMax2, gMin2, bT_nm, bT_tp, bA_nil, bA_cons, wipeE, shp_0, shp_1, shp_2, shp_3, shp_4, shp_5, shp_6, shp_7, shp_8, shp_9, shp_10, shp_11, shp_12, shp_13, shp_14, shp_15, shp_16, shp_17, shp_18, shp_19, shp_20, pshp_0, pshp_1, pshp_2, pshp_3, pshp_4, Bool.false_eq_true, if_false, if_true, ↓reduceIte, reduceCtorEq, List.map_cons, List.map_nil, List.nil_append, List.cons_append, List.append_nil, List.length_cons, List.length_nil, List.getElem?_cons_zero, List.getElem?_cons_succ, List.getElem?_nil, List.set_cons_zero, List.set_cons_succ, List.isEmpty_nil, List.isEmpty_cons, List.any_cons, List.any_nil, List.filterMap_cons, List.filterMap_nil, List.replicate_succ, List.replicate_zero, Option.bind_some, Option.bind_none, Option.map_some, Option.map_none, Nat.reduceAdd, Nat.reduceSub, Nat.reduceLeDiff, Nat.zero_add, Nat.add_zero, and_self, and_true, true_and, Bool.not_true, Bool.not_false, Bool.or_false, Bool.false_or, Bool.or_true, Bool.true_or, List.length_map]
    | true =>
      have hb' := hb
      unfold below at hb'
      rw [Bool.and_eq_true] at hb'
      obtain ⟨e, he⟩ := walk_loop W j (by omega) m h8 (some (.fro (.int (m : Int)))) (some (.fro (.list ds))) p ds (rng m) none hb'.2 (rng_len m)
      refine run_rt (f := d_is_row_there) ?_
      rw [d_is_row_there, b_is_row_there]
      rw [exs_nx (e := [some (.fro (.int (m : Int))), some (.fro (.list ds)), none, none]) (p1 := p) (by simp only [sem_below W j (by omega) m h1 h8, hb, runD, startE, exs, ex, evX, ev, evs, evI, mThen, mDone, mSet, mSet2, mAsg, mRet, mRetN, mRetV, mFrz, mIf, mExp, mB, mB_not, mB_and, mB_or, mNotB, mAndB, mOrB, mNotV, mAndV, mOrV, mNeg, mIfB, m2, gBop, gCop, gBlt, mK, mVar, mOv, mCons, mNil, mStar, mSz, mApp, mTup, mList, mFro, mOpn, mSl, toD, mCat, mCutL, mPart, mRev, mIsi, mIt, mEnum, mZip, mComp, mFor, mYes, mCallS, mCall, mCallT, mCallP, mPurIx, mPut, mApd, mPop, mPut2, mBits, permL, gAdd, PV.gSub, gLt, gLe, gGt, gGe, gLen, gInt, gMax2, gMin2, bT_nm, bT_tp, bA_nil, bA_cons, wipeE, shp_0, shp_1, shp_2, shp_3, shp_4, shp_5, shp_6, shp_7, shp_8, shp_9, shp_10, shp_11, shp_12, shp_13, shp_14, shp_15, shp_16, shp_17, shp_18, shp_19, shp_20, pshp_0, pshp_1, pshp_2, pshp_3, pshp_4, Bool.false_eq_true, if_false, if_true, ↓reduceIte, reduceCtorEq, List.map_cons, List.map_nil, List.nil_append, List.cons_append, List.append_nil, List.length_cons, List.length_nil, List.getElem?_cons_zero, List.getElem?_cons_succ, List.getElem?_nil, List.set_cons_zero, List.set_cons_succ, List.isEmpty_nil, List.isEmpty_cons, List.any_cons, List.any_nil, List.filterMap_cons, List.filterMap_nil, List.replicate_succ, List.replicate_zero, Option.bind_some, Option.bind_none, Option.map_some, Option.map_none, Nat.reduceAdd, Nat.reduceSub, Nat.reduceLeDiff, Nat.zero_add, Nat.add_zero, and_self, and_true, true_and, Bool.not_true, Bool.not_false, Bool.or_false, Bool.false_or, Bool.or_true, Bool.true_or, List.length_map])]
      rw [exs_nx (set_lrg1 h8 rfl)]
      have hf : ex gm (sem gm W tbl j) W (.for (.nm 3) (.seq (.var 1)) (.cons (.ite [] (.cmp .gt (.ix (.ov 2) (.ov 3)) (.ix (.ov 2) (.bin .add (.ov 3) (.k (.int 1))))) (.cons (.ret (.k (.bool false))) .nil) .nil) (.cons (.set 2 (.call 4 (.cons (.var 2) (.cons (.var 3) .nil)) .nil)) .nil))) [some (.fro (.int (m : Int))), some (.fro (.list ds)), some (.fro (iL (rng m))), none] p
        = some (if walk (rng m) ds then .nx e else .rt (.fro (.bool false)), p) := by
        rw [ex, evI, ev]
        exact he
      have hr : rowP m (.list ds) = walk (rng m) ds := by
        show (below m (.list ds) && walk (rng m) ds) = _
        rw [hb, Bool.true_and]
      rw [hr]
      cases hw : walk (rng m) ds with
      | true =>
        rw [hw, if_pos rfl] at hf
        refine (exs_nx hf).trans ?_
        rw [exs, ex, evX, ev]
        · rfl
        all_goals (intros; contradiction)
      | false =>
        rw [hw, if_neg Bool.false_ne_true] at hf
        exact exs_rt hf
  | _ => simp only [d_is_row_there, b_is_row_there, sem_below W j (by omega) m h1 h8, below, rowP, runD, startE, exs, ex, evX, ev, evs, evI, mThen, mDone, mSet, mSet2, mAsg, mRet, mRetN, mRetV, mFrz, mIf, mExp, mB, mB_not, mB_and, mB_or, mNotB, mAndB, mOrB, mNotV, mAndV, mOrV, mNeg, mIfB, m2, gBop, gCop, gBlt, mK, mVar, mOv, mCons, mNil, mStar, mSz, mApp, mTup, mList, mFro, mOpn, mSl, toD, mCat, mCutL, mPart, mRev, mIsi, mIt, mEnum, mZip, mComp, mFor, mYes, mCallS, mCall, mCallT, mCallP, mPurIx, mPut, mApd, mPop, mPut2, mBits, permL, gAdd, PV.gSub, gLt, gLe, gGt, gGe, gLen, gInt, gMax2, gMin2, bT_nm, bT_tp, bA_nil, bA_cons, wipeE, shp_0, shp_1, shp_2, shp_3, shp_4, shp_5, shp_6, shp_7, shp_8, shp_9, shp_10, shp_11, shp_12, shp_13, shp_14, shp_15, shp_16, shp_17, shp_18, shp_19, shp_20, pshp_0, pshp_1, pshp_2, pshp_3, pshp_4, Bool.false_eq_true, if_false, if_true, ↓reduceIte, reduceCtorEq, List.map_cons, List.map_nil, List.nil_append, List.cons_append, List.append_nil, List.length_cons, List.length_nil, List.getElem?_cons_zero, List.getElem?_cons_succ, List.getElem?_nil, List.set_cons_zero, List.set_cons_succ, List.isEmpty_nil, List.isEmpty_cons, List.any_cons, List.any_nil, List.filterMap_cons, List.filterMap_nil, List.replicate_succ, List.replicate_zero, Option.bind_some, Option.bind_none, Option.map_some, Option.map_none, Nat.reduceAdd, Nat.reduceSub, Nat.reduceLeDiff, Nat.zero_add, Nat.add_zero, and_self, and_true, true_and, Bool.not_true, Bool.not_false, Bool.or_false, Bool.false_or, Bool.or_true, Bool.true_or, List.length_map]
theorem sem_is_exchange_row (W k : Nat) (hk : 6 ≤ k) (m : Nat) (h1 : 1 ≤ m) (h8 : m ≤ 8) (v : D) (p : List D) : sem gm W tbl k 6 [.int (m : Int), v] p = some (.fro (.bool (rowP m v)), p) := by
  obtain ⟨j, rfl⟩ : ∃ j, k = j + 1 := ⟨k - 1, by omega⟩
  show runD gm (sem gm W tbl j) W d_is_exchange_row [.int (m : Int), v] p = _
  simp only [d_is_exchange_row, b_is_exchange_row, sem_row_there W j (by omega) m h1 h8, sem_check_many W j (by omega) m (by omega), runD, startE, exs, ex, evX, ev, evs, evI, mThen, mDone, mSet, mSet2, mAsg, mRet, mRetN, mRetV, mFrz, mIf, mExp, mB, mB_not, mB_and, mB_or, mNotB, mAndB, mOrB, mNotV, mAndV, mOrV, mNeg, mIfB, m2, gBop, gCop, gBlt, mK, mVar, mOv, mCons, mNil, mStar, mSz, mApp, mTup, mList, mFro, mOpn, mSl, toD, mCat, mCutL, mPart, mRev, mIsi, mIt, mEnum, mZip, mComp, mFor, mYes, mCallS, mCall, mCallT, mCallP, mPurIx, mPut, mApd, mPop, mPut2, mBits, permL, gAdd, PV.gSub, gLt, gLe, gGt, gGe, gLen, gInt, gMax2, gMin2, bT_nm, bT_tp, bA_nil, bA_cons, wipeE, shp_0, shp_1, shp_2, shp_3, shp_4, shp_5, shp_6, shp_7, shp_8, shp_9, shp_10, shp_11, shp_12, shp_13, shp_14, shp_15, shp_16, shp_17, shp_18, shp_19, shp_20, pshp_0, pshp_1, pshp_2, pshp_3, pshp_4, Bool.false_eq_true, if_false, if_true, ↓reduceIte, reduceCtorEq, List.map_cons, List.map_nil, List.nil_append, List.cons_append, List.append_nil, List.length_cons, List.length_nil, List.getElem?_cons_zero, List.getElem?_cons_succ, List.getElem?_nil, List.set_cons_zero, List.set_cons_succ, List.isEmpty_nil, List.isEmpty_cons, List.any_cons, List.any_nil, List.filterMap_cons, List.filterMap_nil, List.replicate_succ, List.replicate_zero, Option.bind_some, Option.bind_none, Option.map_some, Option.map_none, Nat.reduceAdd, Nat.reduceSub, Nat.reduceLeDiff, Nat.zero_add, Nat.add_zero, and_self, and_true, true_and, Bool.not_true, Bool.not_false, Bool.or_false, Bool.false_or, Bool.or_true, Bool.true_or, List.length_map]
theorem sem_check_row (W k : Nat) (hk : 6 ≤ k) (m : Nat) (h1 : 1 ≤ m) (h8 : m ≤ 8) (v : D) (hv : rowP m v = true) (p : List D) : sem gm W tbl k 7 [.int (m : Int), v] p = some (.fro .none, p) := by
  obtain ⟨j, rfl⟩ : ∃ j, k = j + 1 := ⟨k - 1, by omega⟩
  show runD gm (sem gm W tbl j) W d_check_row [.int (m : Int), v] p = _
  simp only [d_check_row, b_check_row, sem_row_there W j (by omega) m h1 h8, sem_check_many W j (by omega) m (by omega), hv, runD, startE, exs, ex, evX, ev, evs, evI, mThen, mDone, mSet, mSet2, mAsg, mRet, mRetN, mRetV, mFrz, mIf, mExp, mB, mB_not, mB_and, mB_or, mNotB, mAndB, mOrB, mNotV, mAndV, mOrV, mNeg, mIfB, m2, gBop, gCop, gBlt, mK, mVar, mOv, mCons, mNil, mStar, mSz, mApp, mTup, mList, mFro, mOpn, mSl, toD, mCat, mCutL, mPart, mRev, mIsi, mIt, mEnum, mZip, mComp, mFor, mYes, mCallS, mCall, mCallT, mCallP, mPurIx, mPut, mApd, mPop, mPut2, mBits, permL, gAdd, PV.gSub, gLt, gLe, gGt, gGe, gLen, gInt, gMax2, gMin2, bT_nm, bT_tp, bA_nil, bA_cons, wipeE, shp_0, shp_1, shp_2, shp_3, shp_4, shp_5, shp_6, shp_7, shp_8, shp_9, shp_10, shp_11, shp_12, shp_13, shp_14, shp_15, shp_16, shp_17, shp_18, shp_19, shp_20, pshp_0, pshp_1, pshp_2, pshp_3, pshp_4, Bool.false_eq_true, if_false, if_true, ↓reduceIte, reduceCtorEq, List.map_cons, List.map_nil, List.nil_append, List.cons_append, List.append_nil, List.length_cons, List.length_nil, List.getElem?_cons_zero, List.getElem?_cons_succ, List.getElem?_nil, List.set_cons_zero, List.set_cons_succ, List.isEmpty_nil, List.isEmpty_cons, List.any_cons, List.any_nil, List.filterMap_cons, List.filterMap_nil, List.replicate_succ, List.replicate_zero, Option.bind_some, Option.bind_none, Option.map_some, Option.map_none, Nat.reduceAdd, Nat.reduceSub, Nat.reduceLeDiff, Nat.zero_add, Nat.add_zero, and_self, and_true, true_and, Bool.not_true, Bool.not_false, Bool.or_false, Bool.false_or, Bool.or_true, Bool.true_or, List.length_map]
def after : List Int → List D → List Int
  | l, [] => l
  | l, .int a :: r => after (exch l a.toNat) r
  | l, _ :: r => after l r
theorem after_loop (W j : Nat) (hj : 1 ≤ j) (m : Nat) (h8 : m ≤ 8) (x0 x1 : Option Sl) (p : List D) : ∀ (ds : List D) (l : List Int) (y : Option Sl), ds.all (inR m) = true → l.length = m →
    ∃ z, goF (.nm 3) (exs gm (sem gm W tbl j) W (.cons (.frz 2 (.setX 2 (.call 4 (.cons (.var 2) (.cons (.var 3) .nil)) .nil))) .nil)) ds [x0, x1, some (.opn (l.map PyData.int)), y] p
      = some (.nx [x0, x1, some (.opn ((after l ds).map PyData.int)), z], p)
  | [], l, y, _, _ => ⟨y, by rw [goF]; rfl⟩
  | d :: ds, l, y, hd, hl => by
    rw [List.all_cons, Bool.and_eq_true] at hd
    obtain ⟨i, rfl, hi⟩ := inR_int hd.1
    obtain ⟨z, hz⟩ := after_loop W j hj m h8 x0 x1 p ds (exch l i) (some (.fro (.int (i : Int)))) hd.2 (by rw [exch_len l i (by omega)]; exact hl)
    refine ⟨z, ?_⟩
    rw [goF]
    simp only [runD, startE, exs, ex, evX, ev, evs, evI, mThen, mDone, mSet, mSet2, mAsg, mRet, mRetN, mRetV, mFrz, mIf, mExp, mB, mB_not, mB_and, mB_or, mNotB, mAndB, mOrB, mNotV, mAndV, mOrV, mNeg, mIfB, m2, gBop, gCop, gBlt, mK, mVar, mOv, mCons, mNil, mStar, mSz, mApp, mTup, mList, mFro, mOpn, mSl, toD, mCat, mCutL, mPart, mRev, mIsi, mIt, mEnum, mZip, mComp, mFor, mYes, mCallS, mCall, mCallT, mCallP, mPurIx, mPut, mApd, mPop, mPut2, mBits, permL, gAdd, PV.gSub, gLt, gLe, gGt, gGe, gLen, gInt, gMax2, gMin2, bT_nm, bT_tp, bA_nil, bA_cons, wipeE, shp_0, shp_1, shp_2, shp_3, shp_4, shp_5, shp_6, shp_7, shp_8, shp_9, shp_10, shp_11, shp_12, shp_13, shp_14, shp_15, shp_16, shp_17, shp_18, shp_19, shp_20, pshp_0, pshp_1, pshp_2, pshp_3, pshp_4, Bool.false_eq_true, if_false, if_true, ↓reduceIte, reduceCtorEq, List.map_cons, List.map_nil, List.nil_append, List.cons_append, List.append_nil, List.length_cons, List.length_nil, List.getElem?_cons_zero, List.getElem?_cons_succ, List.getElem?_nil, List.set_cons_zero, List.set_cons_succ, List.isEmpty_nil, List.isEmpty_cons, List.any_cons, List.any_nil, List.filterMap_cons, List.filterMap_nil, List.replicate_succ, List.replicate_zero, Option.bind_some, Option.bind_none, Option.map_some, Option.map_none, Nat.reduceAdd, Nat.reduceSub, Nat.reduceLeDiff, Nat.zero_add, Nat.add_zero, and_self, and_true, true_and, Bool.not_true, Bool.not_false, Bool.or_false, Bool.false_or, Bool.or_true, Bool.true_or, List.length_map] at hz
    simp only [after, Int.toNat_natCast, sem_exchanged W j hj l i (by omega) (by omega), hz, runD, startE, exs, ex, evX, ev, evs, evI, mThen, mDone, mSet, mSet2, mAsg, mRet, mRetN, mRetV, mFrz, mIf, mExp, mB, mB_not, mB_and, mB_or, mNotB, mAndB, mOrB, mNotV, mAndV, mOrV, mNeg, mIfB, m2, gBop, gCop, gBlt, mK, mVar, mOv, mCons, mNil, mStar, mSz, mApp, mTup, mList, mFro, mOpn, mSl, toD, mCat, mCutL, mPart, mRev, mIsi, mIt, mEnum, mZip, mComp, mFor, mYes, mCallS, mCall, mCallT, mCallP, mPurIx, mPut, mApd, mPop, mPut2, mBits, permL, gAdd, PV.gSub, gLt, gLe, gGt, gGe, gLen, gInt, gMax2, gMin2, bT_nm, bT_tp, bA_nil, bA_cons, wipeE, shp_0, shp_1, shp_2, shp_3, shp_4, shp_5, shp_6, shp_7, shp_8, shp_9, shp_10, shp_11, shp_12, shp_13, shp_14, shp_15, shp_16, shp_17, shp_18, shp_19, shp_20, pshp_0, pshp_1, pshp_2, pshp_3, pshp_4, Bool.false_eq_true, if_false, if_true, ↓reduceIte, reduceCtorEq, List.map_cons, List.map_nil, List.nil_append, List.cons_append, List.append_nil, List.length_cons, List.length_nil, List.getElem?_cons_zero, List.getElem?_cons_succ, List.getElem?_nil, List.set_cons_zero, List.set_cons_succ, List.isEmpty_nil, List.isEmpty_cons, List.any_cons, List.any_nil, List.filterMap_cons, List.filterMap_nil, List.replicate_succ, List.replicate_zero, Option.bind_some, Option.bind_none, Option.map_some, Option.map_none, Nat.reduceAdd, Nat.reduceSub, Nat.reduceLeDiff, Nat.zero_add, Nat.add_zero, and_self, and_true, true_and, Bool.not_true, Bool.not_false, Bool.or_false, Bool.false_or, Bool.or_true, Bool.true_or, List.length_map]
theorem sem_order_there (W k : Nat) (hk : 2 ≤ k) (m : Nat) (h8 : m ≤ 8) (ds : List D) (hd : ds.all (inR m) = true) (p : List D) : sem gm W tbl k 8 [.int (m : Int), .list ds] p = some (.opn ((after (rng m) ds).map PyData.int), p) := by
  obtain ⟨j, rfl⟩ : ∃ j, k = j + 1 := ⟨k - 1, by omega⟩
  show runD gm (sem gm W tbl j) W d_order_there [.int (m : Int), .list ds] p = _
  obtain ⟨z, hz⟩ := after_loop W j (by omega) m h8 (some (.fro (.int (m : Int)))) (some (.fro (.list ds))) p ds (rng m) none hd (rng_len m)
  refine run_rt (f := d_order_there) ?_
  rw [d_order_there, b_order_there]
  rw [exs_nx (setX_lrg1 h8 rfl)]
  refine (exs_nx (e := [some (.fro (.int (m : Int))), some (.fro (.list ds)), some (.opn ((after (rng m) ds).map PyData.int)), z]) (p1 := p) ?_).trans ?_
  · rw [ex, evI, ev]
    exact hz
  · simp only [runD, startE, exs, ex, evX, ev, evs, evI, mThen, mDone, mSet, mSet2, mAsg, mRet, mRetN, mRetV, mFrz, mIf, mExp, mB, mB_not, mB_and, mB_or, mNotB, mAndB, mOrB, mNotV, mAndV, mOrV, mNeg, mIfB, m2, gBop, gCop, gBlt, mK, mVar, mOv, mCons, mNil, mStar, mSz, mApp, mTup, mList, mFro, mOpn, mSl, toD, mCat, mCutL, mPart, mRev, mIsi, mIt, mEnum, mZip, mComp, mFor, mYes, mCallS, mCall, mCallT, mCallP, mPurIx, mPut, mApd, mPop, mPut2, mBits, permL, gAdd, PV.gSub, gLt, gLe, gGt, gGe, gLen, gInt, gMax2, gMin2, bT_nm, bT_tp, bA_nil, bA_cons, wipeE, shp_0, shp_1, shp_2, shp_3, shp_4, shp_5, shp_6, shp_7, shp_8, shp_9, shp_10, shp_11, shp_12, shp_13, shp_14, shp_15, shp_16, shp_17, shp_18, shp_19, shp_20, pshp_0, pshp_1, pshp_2, pshp_3, pshp_4, Bool.false_eq_true, if_false, if_true, ↓reduceIte, reduceCtorEq, List.map_cons, List.map_nil, List.nil_append, List.cons_append, List.append_nil, List.length_cons, List.length_nil, List.getElem?_cons_zero, List.getElem?_cons_succ, List.getElem?_nil, List.set_cons_zero, List.set_cons_succ, List.isEmpty_nil, List.isEmpty_cons, List.any_cons, List.any_nil, List.filterMap_cons, List.filterMap_nil, List.replicate_succ, List.replicate_zero, Option.bind_some, Option.bind_none, Option.map_some, Option.map_none, Nat.reduceAdd, Nat.reduceSub, Nat.reduceLeDiff, Nat.zero_add, Nat.add_zero, and_self, and_true, true_and, Bool.not_true, Bool.not_false, Bool.or_false, Bool.false_or, Bool.or_true, Bool.true_or, List.length_map]
theorem sem_order_behind (W k : Nat) (hk : 7 ≤ k) (m : Nat) (h1 : 1 ≤ m) (h8 : m ≤ 8) (ds : List D) (hv : rowP m (.list ds) = true) (s : Nat) (hs : s ≤ ds.length) (p : List D) : sem gm W tbl k 9 [.int (m : Int), .list ds, .int (s : Int)] p = some (.opn ((after (rng m) (ds.take s)).map PyData.int), p) := by
  obtain ⟨j, rfl⟩ : ∃ j, k = j + 1 := ⟨k - 1, by omega⟩
  show runD gm (sem gm W tbl j) W d_order_behind [.int (m : Int), .list ds, .int (s : Int)] p = _
  have hall : (ds.take s).all (inR m) = true := by
    have : below m (.list ds) = true := by
      unfold rowP at hv
      rw [Bool.and_eq_true] at hv
      exact hv.1
    unfold below at this
    rw [Bool.and_eq_true, List.all_eq_true] at this
    rw [List.all_eq_true]
    exact fun x hx => this.2 x (List.mem_of_mem_take hx)
  have e1 : decide (max (0 : Int) 0 ≤ (s : Int)) = true := by simp
  have e2 : decide ((ds.length : Int) < (s : Int)) = false := by simp; omega
  simp only [d_order_behind, b_order_behind, sem_check_row W j (by omega) m h1 h8 _ hv, sem_is_count W j (by omega), cntB, e1, e2, gLen, cutD_hi ds s hs, sem_order_there W j (by omega) m h8 _ hall, runD, startE, exs, ex, evX, ev, evs, evI, mThen, mDone, mSet, mSet2, mAsg, mRet, mRetN, mRetV, mFrz, mIf, mExp, mB, mB_not, mB_and, mB_or, mNotB, mAndB, mOrB, mNotV, mAndV, mOrV, mNeg, mIfB, m2, gBop, gCop, gBlt, mK, mVar, mOv, mCons, mNil, mStar, mSz, mApp, mTup, mList, mFro, mOpn, mSl, toD, mCat, mCutL, mPart, mRev, mIsi, mIt, mEnum, mZip, mComp, mFor, mYes, mCallS, mCall, mCallT, mCallP, mPurIx, mPut, mApd, mPop, mPut2, mBits, permL, gAdd, PV.gSub, gLt, gLe, gGt, gGe, gLen, gInt, gMax2, gMin2, bT_nm, bT_tp, bA_nil, bA_cons, wipeE, shp_0, shp_1, shp_2, shp_3, shp_4, shp_5, shp_6, shp_7, shp_8, shp_9, shp_10, shp_11, shp_12, shp_13, shp_14, shp_15, shp_16, shp_17, shp_18, shp_19, shp_20, pshp_0, pshp_1, pshp_2, pshp_3, pshp_4, Bool.false_eq_true, if_false, if_true, ↓reduceIte, reduceCtorEq, List.map_cons, List.map_nil, List.nil_append, List.cons_append, List.append_nil, List.length_cons, List.length_nil, List.getElem?_cons_zero, List.getElem?_cons_succ, List.getElem?_nil, List.set_cons_zero, List.set_cons_succ, List.isEmpty_nil, List.isEmpty_cons, List.any_cons, List.any_nil, List.filterMap_cons, List.filterMap_nil, List.replicate_succ, List.replicate_zero, Option.bind_some, Option.bind_none, Option.map_some, Option.map_none, Nat.reduceAdd, Nat.reduceSub, Nat.reduceLeDiff, Nat.zero_add, Nat.add_zero, and_self, and_true, true_and, Bool.not_true, Bool.not_false, Bool.or_false, Bool.false_or, Bool.or_true, Bool.true_or, List.length_map]
end K73

set_option Elab.async false
set_option linter.all false
set_option maxRecDepth 100000
set_option maxHeartbeats 8000000
namespace K73
open PySem PySem.Spec L2 PV
open PyProof.Rows hiding St cutD

theorem gNe_nil (ds : List D) (h : SeqAt.shaped (.list ds) = true) : gNe (.list ds) (.list []) = some (.bool (!ds.isEmpty)) := by
  have e : gNe (.list ds) (.list []) = if SeqAt.shaped (.list ds) && SeqAt.shaped (.list []) then some (.bool (!PyData.eqv (.list ds) (.list []))) else none := rfl
  have h2 : SeqAt.shaped (.list []) = true := by decide
  rw [e, h, h2]
  cases ds with
  | nil => rfl
  | cons d ds => rfl
theorem inR_isInt {m : Nat} {d : D} (h : inR m d = true) : isInt d = true := by
  obtain ⟨i, rfl, _⟩ := inR_int h
  rfl
theorem lwalk_loop (W j : Nat) (hj : 1 ≤ j) (m : Nat) (h1 : 1 ≤ m) (h8 : m ≤ 8) (x1 : Option Sl) (p : List D) : ∀ (ds : List D) (l : List Int) (y : Option Sl), ds.all isInt = true → l.length = m →
    ∃ e, goF (.nm 3) (exs gm (sem gm W tbl j) W (.cons (.ite [] (.or (.cmp .lt (.ov 3) (.k (.int 0))) (.or (.cmp .gt (.ov 3) (.bin .sub (.ov 0) (.k (.int 2)))) (.cmp .gt (.ix (.ov 2) (.ov 3)) (.ix (.ov 2) (.bin .add (.ov 3) (.k (.int 1))))))) (.cons (.ret (.k (.bool false))) .nil) .nil) (.cons (.set 2 (.call 11 (.cons (.var 2) (.cons (.var 3) .nil)) .nil)) .nil))) ds [some (.fro (.int (m : Int))), x1, some (.fro (iL l)), y] p
      = some (if ds.all (inR m) && walk l ds then .nx e else .rt (.fro (.bool false)), p)
  | [], l, y, _, _ => ⟨_, by rw [goF]; rfl⟩
  | d :: ds, l, y, hd, hl => by
    rw [List.all_cons, Bool.and_eq_true] at hd
    cases d with
    | int a =>
      rw [goF]
      by_cases ha : a < 0
      · refine ⟨[], ?_⟩
        have hr : inR m (.int a) = false := by unfold inR; simp; omega
        simp only [List.all_cons, hr, ha, decide_true, Bool.false_and, runD, startE, exs, ex, evX, ev, evs, evI, mThen, mDone, mSet, mSet2, mAsg, mRet, mRetN, mRetV, mFrz, mIf, mExp, mB, mB_not, mB_and, mB_or, mNotB, mAndB, mOrB, mNotV, mAndV, mOrV, mNeg, mIfB, m2, gBop, gCop, gBlt, mK, mVar, mOv, mCons, mNil, mStar, mSz, mApp, mTup, mList, mFro, mOpn, mSl, toD, mCat, mCutL, mPart, mRev, mIsi, mIt, mEnum, mZip, mComp, mFor, mYes, mCallS, mCall, mCallT, mCallP, mPurIx, mPut, mApd, mPop, mPut2, mBits, permL, gAdd, PV.gSub, gLt, gLe, gGt, gGe, gLen, gInt, gMax2, gMin2, bT_nm, bT_tp, bA_nil, bA_cons, wipeE, shp_0, shp_1, shp_2, shp_3, shp_4, shp_5, shp_6, shp_7, shp_8, shp_9, shp_10, shp_11, shp_12, shp_13, shp_14, shp_15, shp_16, shp_17, shp_18, shp_19, shp_20, pshp_0, pshp_1, pshp_2, pshp_3, pshp_4, Bool.false_eq_true, if_false, if_true, ↓reduceIte, reduceCtorEq, List.map_cons, List.map_nil, List.nil_append, List.cons_append, List.append_nil, List.length_cons, List.length_nil, List.getElem?_cons_zero, List.getElem?_cons_succ, List.getElem?_nil, List.set_cons_zero, List.set_cons_succ, List.isEmpty_nil, List.isEmpty_cons, List.any_cons, List.any_nil, List.filterMap_cons, List.filterMap_nil, List.replicate_succ, List.replicate_zero, Option.bind_some, Option.bind_none, Option.map_some, Option.map_none, Nat.reduceAdd, Nat.reduceSub, Nat.reduceLeDiff, Nat.zero_add, Nat.add_zero, and_self, and_true, true_and, Bool.not_true, Bool.not_false, Bool.or_false, Bool.false_or, Bool.or_true, Bool.true_or, List.length_map]
      · by_cases hb : (m : Int) - 2 < a
        · refine ⟨[], ?_⟩
          have hr : inR m (.int a) = false := by unfold inR; simp; omega
          simp only [List.all_cons, hr, ha, hb, decide_true, decide_false, Bool.false_and, runD, startE, exs, ex, evX, ev, evs, evI, mThen, mDone, mSet, mSet2, mAsg, mRet, mRetN, mRetV, mFrz, mIf, mExp, mB, mB_not, mB_and, mB_or, mNotB, mAndB, mOrB, mNotV, mAndV, mOrV, mNeg, mIfB, m2, gBop, gCop, gBlt, mK, mVar, mOv, mCons, mNil, mStar, mSz, mApp, mTup, mList, mFro, mOpn, mSl, toD, mCat, mCutL, mPart, mRev, mIsi, mIt, mEnum, mZip, mComp, mFor, mYes, mCallS, mCall, mCallT, mCallP, mPurIx, mPut, mApd, mPop, mPut2, mBits, permL, gAdd, PV.gSub, gLt, gLe, gGt, gGe, gLen, gInt, gMax2, gMin2, bT_nm, bT_tp, bA_nil, bA_cons, wipeE, shp_0, shp_1, shp_2, shp_3, shp_4, shp_5, shp_6, shp_7, shp_8, shp_9, shp_10, shp_11, shp_12, shp_13, shp_14, shp_15, shp_16, shp_17, shp_18, shp_19, shp_20, pshp_0, pshp_1, pshp_2, pshp_3, pshp_4, Bool.false_eq_true, if_false, if_true, ↓reduceIte, reduceCtorEq, List.map_cons, List.map_nil, List.nil_append, List.cons_append, List.append_nil, List.length_cons, List.length_nil, List.getElem?_cons_zero, List.getElem?_cons_succ, List.getElem?_nil, List.set_cons_zero, List.set_cons_succ, List.isEmpty_nil, List.isEmpty_cons, List.any_cons, List.any_nil, List.filterMap_cons, List.filterMap_nil, List.replicate_succ, List.replicate_zero, Option.bind_some, Option.bind_none, Option.map_some, Option.map_none, Nat.reduceAdd, Nat.reduceSub, Nat.reduceLeDiff, Nat.zero_add, Nat.add_zero, and_self, and_true, true_and, Bool.not_true, Bool.not_false, Bool.or_false, Bool.false_or, Bool.or_true, Bool.true_or, List.length_map]
        · obtain ⟨i, rfl⟩ : ∃ i : Nat, a = (i : Int) := ⟨a.toNat, by omega⟩
          have hr : inR m (.int (i : Int)) = true := by unfold inR; simp; omega
          have e1 := gIx_nat l (i + 1) (by omega)
          have e2 := gIx_nat l i (by omega)
          simp only [Int.natCast_add, Int.natCast_one, Int.cast_ofNat_Int] at e1
          by_cases hw : l.getD (i + 1) 0 < l.getD i 0
          · refine ⟨[], ?_⟩
            simp only [List.all_cons, hr, ha, hb, walk, Int.toNat_natCast, e1, e2, hw, decide_true, decide_false, Bool.and_false, runD, startE, exs, ex, evX, ev, evs, evI, mThen, mDone, mSet, mSet2, mAsg, mRet, mRetN, mRetV, mFrz, mIf, mExp, mB, mB_not, mB_and, mB_or, mNotB, mAndB, mOrB, mNotV, mAndV, mOrV, mNeg, mIfB, m2, gBop, gCop, gBlt, mK, mVar, mOv, mCons, mNil, mStar, mSz, mApp, mTup, mList, mFro, mOpn, mSl, toD, mCat, mCutL, mPart, mRev, mIsi, mIt, mEnum, mZip, mComp, mFor, mYes, mCallS, mCall, mCallT, mCallP, mPurIx, mPut, mApd, mPop, mPut2, mBits, permL, gAdd, PV.gSub, gLt, gLe, gGt, gGe, gLen, gInt, gMax2, gMin2, bT_nm, bT_tp, bA_nil, bA_cons, wipeE, shp_0, shp_1, shp_2, shp_3, shp_4, shp_5, shp_6, shp_7, shp_8, shp_9, shp_10, shp_11, shp_12, shp_13, shp_14, shp_15, shp_16, shp_17, shp_18, shp_19, shp_20, pshp_0, pshp_1, pshp_2, pshp_3, pshp_4, Bool.false_eq_true, if_false, if_true, ↓reduceIte, reduceCtorEq, List.map_cons, List.map_nil, List.nil_append, List.cons_append, List.append_nil, List.length_cons, List.length_nil, List.getElem?_cons_zero, List.getElem?_cons_succ, List.getElem?_nil, List.set_cons_zero, List.set_cons_succ, List.isEmpty_nil, List.isEmpty_cons, List.any_cons, List.any_nil, List.filterMap_cons, List.filterMap_nil, List.replicate_succ, List.replicate_zero, Option.bind_some, Option.bind_none, Option.map_some, Option.map_none, Nat.reduceAdd, Nat.reduceSub, Nat.reduceLeDiff, Nat.zero_add, Nat.add_zero, and_self, and_true, true_and, Bool.not_true, Bool.not_false, Bool.or_false, Bool.false_or, Bool.or_true, Bool.true_or, List.length_map]
          · obtain ⟨e, he⟩ := lwalk_loop W j hj m h1 h8 x1 p ds (exch l i) (some (.fro (.int (i : Int)))) hd.2 (by rw [exch_len l i (by omega)]; exact hl)
            refine ⟨e, ?_⟩
            simp only [runD, startE, exs, ex, evX, ev, evs, evI, mThen, mDone, mSet, mSet2, mAsg, mRet, mRetN, mRetV, mFrz, mIf, mExp, mB, mB_not, mB_and, mB_or, mNotB, mAndB, mOrB, mNotV, mAndV, mOrV, mNeg, mIfB, m2, gBop, gCop, gBlt, mK, mVar, mOv, mCons, mNil, mStar, mSz, mApp, mTup, mList, mFro, mOpn, mSl, toD, mCat, mCutL, mPart, mRev, mIsi, mIt, mEnum, mZip, mComp, mFor, mYes, mCallS, mCall, mCallT, mCallP, mPurIx, mPut, mApd, mPop, mPut2, mBits, permL, gAdd, PV.gSub, gLt, gLe, gGt, gGe, gLen, gInt, gMax2, gMin2, bT_nm, bT_tp, bA_nil, bA_cons, wipeE, shp_0, shp_1, shp_2, shp_3, shp_4, shp_5, shp_6, shp_7, shp_8, shp_9, shp_10, shp_11, shp_12, shp_13, shp_14, shp_15, shp_16, shp_17, shp_18, shp_19, shp_20, pshp_0, pshp_1, pshp_2, pshp_3, pshp_4, Bool.false_eq_true, if_false, if_true, ↓reduceIte, reduceCtorEq, List.map_cons, List.map_nil, List.nil_append, List.cons_append, List.append_nil, List.length_cons, List.length_nil, List.getElem?_cons_zero, List.getElem?_cons_succ, List.getElem?_nil, List.set_cons_zero, List.set_cons_succ, List.isEmpty_nil, List.isEmpty_cons, List.any_cons, List.any_nil, List.filterMap_cons, List.filterMap_nil, List.replicate_succ, List.replicate_zero, Option.bind_some, Option.bind_none, Option.map_some, Option.map_none, Nat.reduceAdd, Nat.reduceSub, Nat.reduceLeDiff, Nat.zero_add, Nat.add_zero, and_self, and_true, true_and, Bool.not_true, Bool.not_false, Bool.or_false, Bool.false_or, Bool.or_true, Bool.true_or, List.length_map] at he
            simp only [List.all_cons, hr, ha, hb, walk, Int.toNat_natCast, e1, e2, hw, decide_true, decide_false, Bool.true_and, sem_lexchanged W j hj l i (by omega) (by omega), he, runD, startE, exs, ex, evX, ev, evs, evI, mThen, mDone, mSet, mSet2, mAsg, mRet, mRetN, mRetV, mFrz, mIf, mExp, mB, mB_not, mB_and, mB_or, mNotB, mAndB, mOrB, mNotV, mAndV, mOrV, mNeg, mIfB, m2, gBop, gCop, gBlt, mK, mVar, mOv, mCons, mNil, mStar, mSz, mApp, mTup, mList, mFro, mOpn, mSl, toD, mCat, mCutL, mPart, mRev, mIsi, mIt, mEnum, mZip, mComp, mFor, mYes, mCallS, mCall, mCallT, mCallP, mPurIx, mPut, mApd, mPop, mPut2, mBits, permL, gAdd, PV.gSub, gLt, gLe, gGt, gGe, gLen, gInt, gMax2, gMin2, bT_nm, bT_tp, bA_nil, bA_cons, wipeE, shp_0, shp_1, shp_2, shp_3, shp_4, shp_5, shp_6, shp_7, shp_8, shp_9, shp_10, shp_11, shp_12, shp_13, shp_14, shp_15, shp_16, shp_17, shp_18, shp_19, shp_20, pshp_0, pshp_1, pshp_2, pshp_3, pshp_4, Bool.false_eq_true, if_false, if_true, ↓reduceIte, reduceCtorEq, List.map_cons, List.map_nil, List.nil_append, List.cons_append, List.append_nil, List.length_cons, List.length_nil, List.getElem?_cons_zero, List.getElem?_cons_succ, List.getElem?_nil, List.set_cons_zero, List.set_cons_succ, List.isEmpty_nil, List.isEmpty_cons, List.any_cons, List.any_nil, List.filterMap_cons, List.filterMap_nil, List.replicate_succ, List.replicate_zero, Option.bind_some, Option.bind_none, Option.map_some, Option.map_none, Nat.reduceAdd, Nat.reduceSub, Nat.reduceLeDiff, Nat.zero_add, Nat.add_zero, and_self, and_true, true_and, Bool.not_true, Bool.not_false, Bool.or_false, Bool.false_or, Bool.or_true, Bool.true_or, List.length_map]
    | _ => cases hd.1
theorem sem_law_is_row (W k : Nat) (hk : 2 ≤ k) (m : Nat) (h1 : 1 ≤ m) (h8 : m ≤ 8) (v : D) (hsh : ∀ ds, v = .list ds → SeqAt.shaped (.list (ds.filter fun d => !isInt d)) = true) (p : List D) : sem gm W tbl k 16 [.int (m : Int), v] p = some (.fro (.bool (rowP m v)), p) := by
  obtain ⟨j, rfl⟩ : ∃ j, k = j + 1 := ⟨k - 1, by omega⟩
  show runD gm (sem gm W tbl j) W d__law_is_row [.int (m : Int), v] p = _
  refine run_rt (f := d__law_is_row) ?_
  rw [d__law_is_row, b__law_is_row]
  cases v with
  | list ds =>
    have e28 : tri m ≤ sizeMax := small _ (by
      have : m = 1 ∨ m = 2 ∨ m = 3 ∨ m = 4 ∨ m = 5 ∨ m = 6 ∨ m = 7 ∨ m = 8 := by omega
      rcases this with rfl | rfl | rfl | rfl | rfl | rfl | rfl | rfl <;> decide)
    by_cases hl : ds.length = tri m
    · have hgn := gNe_nil _ (hsh ds rfl)
      have hc : goC (.nm 3) [some (Sl.fro (.int (m : Int))), some (Sl.fro (.list ds)), none, none] (mB (ev gm (sem gm W tbl j) (.or (.not (.tst (.isi (.ov 3) [.int]))) (.tst (.isi (.ov 3) [.bool]))))) (ev gm (sem gm W tbl j) (.var 3)) ds p = some ((ds.filter fun d => !isInt d), p) := by
        have := goC_filter (T := .nm 3) (env := [some (Sl.fro (.int (m : Int))), some (Sl.fro (.list ds)), none, none]) (mt := mB (ev gm (sem gm W tbl j) (.or (.not (.tst (.isi (.ov 3) [.int]))) (.tst (.isi (.ov 3) [.bool]))))) (me := ev gm (sem gm W tbl j) (.var 3)) (fun d => !isInt d) _root_.id ds p fun d _ => ⟨_, rfl, ?_, ?_⟩
        · rw [List.map_id] at this
          exact this
        · cases d <;> simp only [isD, isK, kd, isInt, runD, startE, exs, ex, evX, ev, evs, evI, mThen, mDone, mSet, mSet2, mAsg, mRet, mRetN, mRetV, mFrz, mIf, mExp, mB, mB_not, mB_and, mB_or, mNotB, mAndB, mOrB, mNotV, mAndV, mOrV, mNeg, mIfB, m2, gBop, gCop, gBlt, mK, mVar, mOv, mCons, mNil, mStar, mSz, mApp, mTup, mList, mFro, mOpn, mSl, toD, mCat, mCutL, mPart, mRev, mIsi, mIt, mEnum, mZip, mComp, mFor, mYes, mCallS, mCall, mCallT, mCallP, mPurIx, mPut, mApd, mPop, mPut2, mBits, permL, gAdd, PV.gSub, gLt, gLe, gGt, gGe, gLen, gInt, gMax2, gMin2, bT_nm, bT_tp, bA_nil, bA_cons, wipeE, shp_0, shp_1, shp_2, shp_3, shp_4, shp_5, shp_6, shp_7, shp_8, shp_9, shp_10, shp_11, shp_12, shp_13, shp_14, shp_15, shp_16, shp_17, shp_18, shp_19, shp_20, pshp_0, pshp_1, pshp_2, pshp_3, pshp_4, Bool.false_eq_true, if_false, if_true, ↓reduceIte, reduceCtorEq, List.map_cons, List.map_nil, List.nil_append, List.cons_append, List.append_nil, List.length_cons, List.length_nil, List.getElem?_cons_zero, List.getElem?_cons_succ, List.getElem?_nil, List.set_cons_zero, List.set_cons_succ, List.isEmpty_nil, List.isEmpty_cons, List.any_cons, List.any_nil, List.filterMap_cons, List.filterMap_nil, List.replicate_succ, List.replicate_zero, Option.bind_some, Option.bind_none, Option.map_some, Option.map_none, Nat.reduceAdd, Nat.reduceSub, Nat.reduceLeDiff, Nat.zero_add, Nat.add_zero, and_self, and_true, true_and, Bool.not_true, Bool.not_false, Bool.or_false, Bool.false_or, Bool.or_true, Bool.true_or, List.length_map]
        · rfl
      simp only [runD, startE, exs, ex, evX, ev, evs, evI, mThen, mDone, mSet, mSet2, mAsg, mRet, mRetN, mRetV, mFrz, mIf, mExp, mB, mB_not, mB_and, mB_or, mNotB, mAndB, mOrB, mNotV, mAndV, mOrV, mNeg, mIfB, m2, gBop, gCop, gBlt, mK, mVar, mOv, mCons, mNil, mStar, mSz, mApp, mTup, mList, mFro, mOpn, mSl, toD, mCat, mCutL, mPart, mRev, mIsi, mIt, mEnum, mZip, mComp, mFor, mYes, mCallS, mCall, mCallT, mCallP, mPurIx, mPut, mApd, mPop, mPut2, mBits, permL, gAdd, PV.gSub, gLt, gLe, gGt, gGe, gLen, gInt, gMax2, gMin2, bT_nm, bT_tp, bA_nil, bA_cons, wipeE, shp_0, shp_1, shp_2, shp_3, shp_4, shp_5, shp_6, shp_7, shp_8, shp_9, shp_10, shp_11, shp_12, shp_13, shp_14, shp_15, shp_16, shp_17, shp_18, shp_19, shp_20, pshp_0, pshp_1, pshp_2, pshp_3, pshp_4, Bool.false_eq_true, if_false, if_true, ↓reduceIte, reduceCtorEq, List.map_cons, List.map_nil, List.nil_append, List.cons_append, List.append_nil, List.length_cons, List.length_nil, List.getElem?_cons_zero, List.getElem?_cons_succ, List.getElem?_nil, List.set_cons_zero, List.set_cons_succ, List.isEmpty_nil, List.isEmpty_cons, List.any_cons, List.any_nil, List.filterMap_cons, List.filterMap_nil, List.replicate_succ, List.replicate_zero, Option.bind_some, Option.bind_none, Option.map_some, Option.map_none, Nat.reduceAdd, Nat.reduceSub, Nat.reduceLeDiff, Nat.zero_add, Nat.add_zero, and_self, and_true, true_and, Bool.not_true, Bool.not_false, Bool.or_false, Bool.false_or, Bool.or_true, Bool.true_or, List.length_map] at hc
      by_cases hi : ds.all isInt = true
      · have hf0 : (ds.filter fun d => !isInt d) = [] := by
          rw [List.filter_eq_nil_iff]
          intro d hd
          rw [List.all_eq_true] at hi
          simp [hi d hd]
        obtain ⟨e, he⟩ := lwalk_loop W j (by omega) m h1 h8 (some (.fro (.list ds))) p ds (rng m) none hi (rng_len m)
        rw [hf0] at hc hgn
        rw [exs_nx (e := [some (.fro (.int (m : Int))), some (.fro (.list ds)), none, none]) (p1 := p) (by
          simp only [isL, gNe_int, mul_tri h1 h8, tri_eq h1 h8, div_two, hl, beq_self_eq_true, hc, hgn, if_pos e28, gLen, List.isEmpty_nil, if_pos (Nat.zero_le sizeMax), runD, startE, exs, ex, evX, ev, evs, evI, mThen, mDone, mSet, mSet2, mAsg, mRet, mRetN, mRetV, mFrz, mIf, mExp, mB, mB_not, mB_and, mB_or, mNotB, mAndB, mOrB, mNotV, mAndV, mOrV, mNeg, mIfB, m2, gBop, gCop, gBlt, mK, mVar, mOv, mCons, mNil, mStar, mSz, mApp, mTup, mList, mFro, mOpn, mSl, toD, mCat, mCutL, mPart, mRev, mIsi, mIt, mEnum, mZip, mComp, mFor, mYes, mCallS, mCall, mCallT, mCallP, mPurIx, mPut, mApd, mPop, mPut2, mBits, permL, gAdd, PV.gSub, gLt, gLe, gGt, gGe, gLen, gInt, gMax2, gMin2, bT_nm, bT_tp, bA_nil, bA_cons, wipeE, shp_0, shp_1, shp_2, shp_3, shp_4, shp_5, shp_6, shp_7, shp_8, shp_9, shp_10, shp_11, shp_12, shp_13, shp_14, shp_15, shp_16, shp_17, shp_18, shp_19, shp_20, pshp_0, pshp_1, pshp_2, pshp_3, pshp_4, Bool.false_eq_true, if_false, if_true, ↓reduceIte, reduceCtorEq, List.map_cons, List.map_nil, List.nil_append, List.cons_append, List.append_nil, List.length_cons, List.length_nil, List.getElem?_cons_zero, List.getElem?_cons_succ, List.getElem?_nil, List.set_cons_zero, List.set_cons_succ, List.isEmpty_nil, List.isEmpty_cons, List.any_cons, List.any_nil, List.filterMap_cons, List.filterMap_nil, List.replicate_succ, List.replicate_zero, Option.bind_some, Option.bind_none, Option.map_some, Option.map_none, Nat.reduceAdd, Nat.reduceSub, Nat.reduceLeDiff, Nat.zero_add, Nat.add_zero, and_self, and_true, true_and, Bool.not_true, Bool.not_false, Bool.or_false, Bool.false_or, Bool.or_true, Bool.true_or, List.length_map])]
        rw [exs_nx (set_lrg1 h8 rfl)]
        have hf : ex gm (sem gm W tbl j) W (.for (.nm 3) (.seq (.var 1)) (.cons (.ite [] (.or (.cmp .lt (.ov 3) (.k (.int 0))) (.or (.cmp .gt (.ov 3) (.bin .sub (.ov 0) (.k (.int 2)))) (.cmp .gt (.ix (.ov 2) (.ov 3)) (.ix (.ov 2) (.bin .add (.ov 3) (.k (.int 1))))))) (.cons (.ret (.k (.bool false))) .nil) .nil) (.cons (.set 2 (.call 11 (.cons (.var 2) (.cons (.var 3) .nil)) .nil)) .nil))) [some (.fro (.int (m : Int))), some (.fro (.list ds)), some (.fro (iL (rng m))), none] p
          = some (if ds.all (inR m) && walk (rng m) ds then .nx e else .rt (.fro (.bool false)), p) := by
          rw [ex, evI, ev]
          exact he
        have hr : rowP m (.list ds) = (ds.all (inR m) && walk (rng m) ds) := by
          show (decide (ds.length = tri m) && ds.all (inR m) && walk (rng m) ds) = _
          rw [decide_eq_true hl, Bool.true_and]
        rw [hr]
        cases hw : (ds.all (inR m) && walk (rng m) ds) with
        | true =>
          rw [hw, if_pos rfl] at hf
          refine (exs_nx hf).trans ?_
          rw [exs, ex, evX, ev]
          · rfl
          all_goals (intros; contradiction)
        | false =>
          rw [hw, if_neg Bool.false_ne_true] at hf
          exact exs_rt hf
      · have hne : (ds.filter fun d => !isInt d).isEmpty = false := by
          cases hz : (ds.filter fun d => !isInt d) with
          | nil =>
            rw [List.filter_eq_nil_iff] at hz
            refine absurd (List.all_eq_true.mpr fun d hd => ?_) hi
            have := hz d hd
            simpa using this
          | cons _ _ => rfl
        have hr : rowP m (.list ds) = false := by
          show (decide (ds.length = tri m) && ds.all (inR m) && walk (rng m) ds) = _
          have : ds.all (inR m) = false := by
            cases hz : ds.all (inR m) with
            | false => rfl
            | true =>
              rw [List.all_eq_true] at hz
              exact absurd (List.all_eq_true.mpr fun d hd => inR_isInt (hz d hd)) hi
          rw [this, Bool.and_false, Bool.false_and]
        rw [hr]
        refine exs_rt ?_
        simp only [isL, gNe_int, mul_tri h1 h8, tri_eq h1 h8, div_two, hl, beq_self_eq_true, hc, hgn, hne, if_pos e28, gLen, if_pos (Nat.zero_le sizeMax), runD, startE, exs, ex, evX, ev, evs, evI, mThen, mDone, mSet, mSet2, mAsg, mRet, mRetN, mRetV, mFrz, mIf, mExp, mB, mB_not, mB_and, mB_or, mNotB, mAndB, mOrB, mNotV, mAndV, mOrV, mNeg, mIfB, m2, gBop, gCop, gBlt, mK, mVar, mOv, mCons, mNil, mStar, mSz, mApp, mTup, mList, mFro, mOpn, mSl, toD, mCat, mCutL, mPart, mRev, mIsi, mIt, mEnum, mZip, mComp, mFor, mYes, mCallS, mCall, mCallT, mCallP, mPurIx, mPut, mApd, mPop, mPut2, mBits, permL, gAdd, PV.gSub, gLt, gLe, gGt, gGe, gLen, gInt, gMax2, gMin2, bT_nm, bT_tp, bA_nil, bA_cons, wipeE, shp_0, shp_1, shp_2, shp_3, shp_4, shp_5, shp_6, shp_7, shp_8, shp_9, shp_10, shp_11, shp_12, shp_13, shp_14, shp_15, shp_16, shp_17, shp_18, shp_19, shp_20, pshp_0, pshp_1, pshp_2, pshp_3, pshp_4, Bool.false_eq_true, if_false, if_true, ↓reduceIte, reduceCtorEq, List.map_cons, List.map_nil, List.nil_append, List.cons_append, List.append_nil, List.length_cons, List.length_nil, List.getElem?_cons_zero, List.getElem?_cons_succ, List.getElem?_nil, List.set_cons_zero, List.set_cons_succ, List.isEmpty_nil, List.isEmpty_cons, List.any_cons, List.any_nil, List.filterMap_cons, List.filterMap_nil, List.replicate_succ, List.replicate_zero, Option.bind_some, Option.bind_none, Option.map_some, Option.map_none, Nat.reduceAdd, Nat.reduceSub, Nat.reduceLeDiff, Nat.zero_add, Nat.add_zero, and_self, and_true, true_and, Bool.not_true, Bool.not_false, Bool.or_false, Bool.false_or, Bool.or_true, Bool.true_or, List.length_map]
    · have e : ((ds.length : Int) == ((tri m : Nat) : Int)) = false := by simp; omega
      have hr : rowP m (.list ds) = false := by
        show (decide (ds.length = tri m) && ds.all (inR m) && walk (rng m) ds) = _
        rw [decide_eq_false hl, Bool.false_and, Bool.false_and]
      rw [hr]
      refine exs_rt ?_
      simp only [isL, gNe_int, mul_tri h1 h8, tri_eq h1 h8, div_two, e, gLen, runD, startE, exs, ex, evX, ev, evs, evI, mThen, mDone, mSet, mSet2, mAsg, mRet, mRetN, mRetV, mFrz, mIf, mExp, mB, mB_not, mB_and, mB_or, mNotB, mAndB, mOrB, mNotV, mAndV, mOrV, mNeg, mIfB, m2, gBop, gCop, gBlt, mK, mVar, mOv, mCons, mNil, mStar, mSz, mApp, mTup, mList, mFro, mOpn, mSl, toD, mCat, mCutL, mPart, mRev, mIsi, mIt, mEnum, mZip, mComp, mFor, mYes, mCallS, mCall, mCallT, mCallP, mPurIx, mPut, mApd, mPop, mPut2, mBits, permL, gAdd, PV.gSub, gLt, gLe, gGt, gGe, gLen, gInt, gMax2, gMin2, bT_nm, bT_tp, bA_nil, bA_cons, wipeE, shp_0, shp_1, shp_2, shp_3, shp_4, shp_5, shp_6, shp_7, shp_8, shp_9, shp_10, shp_11, shp_12, shp_13, shp_14, shp_15, shp_16, shp_17, shp_18, shp_19, shp_20, pshp_0, pshp_1, pshp_2, pshp_3, pshp_4, Bool.false_eq_true, if_false, if_true, ↓reduceIte, reduceCtorEq, List.map_cons, List.map_nil, List.nil_append, List.cons_append, List.append_nil, List.length_cons, List.length_nil, List.getElem?_cons_zero, List.getElem?_cons_succ, List.getElem?_nil, List.set_cons_zero, List.set_cons_succ, List.isEmpty_nil, List.isEmpty_cons, List.any_cons, List.any_nil, List.filterMap_cons, List.filterMap_nil, List.replicate_succ, List.replicate_zero, Option.bind_some, Option.bind_none, Option.map_some, Option.map_none, Nat.reduceAdd, Nat.reduceSub, Nat.reduceLeDiff, Nat.zero_add, Nat.add_zero, and_self, and_true, true_and, Bool.not_true, Bool.not_false, Bool.or_false, Bool.false_or, Bool.or_true, Bool.true_or, List.length_map]
  | _ =>
    refine exs_rt ?_
    simp only [isL, rowP, runD, startE, exs, ex, evX, ev, evs, evI, mThen, mDone, mSet, mSet2, mAsg, mRet, mRetN, mRetV, mFrz, mIf, mExp, mB, mB_not, mB_and, mB_or, mNotB, mAndB, mOrB, mNotV, mAndV, mOrV, mNeg, mIfB, m2, gBop, gCop, gBlt, mK, mVar, mOv, mCons, mNil, mStar, mSz, mApp, mTup, mList, mFro, mOpn, mSl, toD, mCat, mCutL, mPart, mRev, mIsi, mIt, mEnum, mZip, mComp, mFor, mYes, mCallS, mCall, mCallT, mCallP, mPurIx, mPut, mApd, mPop, mPut2, mBits, permL, gAdd, PV.gSub, gLt, gLe, gGt, gGe, gLen, gInt, gMax2, gMin2, bT_nm, bT_tp, bA_nil, bA_cons, wipeE, shp_0, shp_1, shp_2, shp_3, shp_4, shp_5, shp_6, shp_7, shp_8, shp_9, shp_10, shp_11, shp_12, shp_13, shp_14, shp_15, shp_16, shp_17, shp_18, shp_19, shp_20, pshp_0, pshp_1, pshp_2, pshp_3, pshp_4, Bool.false_eq_true, if_false, if_true, ↓reduceIte, reduceCtorEq, List.map_cons, List.map_nil, List.nil_append, List.cons_append, List.append_nil, List.length_cons, List.length_nil, List.getElem?_cons_zero, List.getElem?_cons_succ, List.getElem?_nil, List.set_cons_zero, List.set_cons_succ, List.isEmpty_nil, List.isEmpty_cons, List.any_cons, List.any_nil, List.filterMap_cons, List.filterMap_nil, List.replicate_succ, List.replicate_zero, Option.bind_some, Option.bind_none, Option.map_some, Option.map_none, Nat.reduceAdd, Nat.reduceSub, Nat.reduceLeDiff, Nat.zero_add, Nat.add_zero, and_self, and_true, true_and, Bool.not_true, Bool.not_false, Bool.or_false, Bool.false_or, Bool.or_true, Bool.true_or, List.length_map]
/-! ### _law_exact of alike data -/
mutual
def exO : Nat → D → Bool
  | 0, _ => false
  | _ + 1, .int _ => true
  | _ + 1, .bool _ => true
  | n + 1, .list ds => decide (ds.length ≤ 1000) && exOs n ds
  | _ + 1, _ => false
def exOs : Nat → List D → Bool
  | _, [] => true
  | n, d :: ds => exO n d && exOs n ds
end
theorem exOs_at {n : Nat} : ∀ {ds : List D}, exOs n ds = true → ∀ d ∈ ds, exO n d = true
  | [], _, d, h => by cases h
  | x :: ds, h, d, hd => by
    rw [exOs, Bool.and_eq_true] at h
    rcases List.mem_cons.mp hd with rfl | hd
    · exact h.1
    · exact exOs_at h.2 d hd
theorem zipD_self : ∀ ds : List D, zipD ds ds = ds.map fun d => PyData.tuple [d, d]
  | [] => rfl
  | d :: ds => by rw [List.map_cons, ← zipD_self ds]; rfl
theorem gNe_bool (a b : Bool) : gNe (.bool a) (.bool b) = some (.bool (!(a == b))) := by cases a <;> cases b <;> rfl
theorem gEq_bool (a b : Bool) : gEq (.bool a) (.bool b) = some (.bool (a == b)) := by cases a <;> cases b <;> rfl
theorem sem_exact (W : Nat) : ∀ (n k : Nat), n + 1 ≤ k → ∀ (d : D), exO n d = true → ∀ p : List D, sem gm W tbl k 14 [d, d] p = some (.fro (.bool true), p)
  | 0, _, _, d, h, _ => by rw [exO] at h; cases h
  | n + 1, k, hk, d, h, p => by
    obtain ⟨j, rfl⟩ : ∃ j, k = j + 1 := ⟨k - 1, by omega⟩
    show runD gm (sem gm W tbl j) W d__law_exact [d, d] p = _
    cases d with
    | int a => simp only [d__law_exact, b__law_exact, isD, isK, kd, gIs, isNone, gNe_bool, gEq_bool, gEq_int, beq_self_eq_true, runD, startE, exs, ex, evX, ev, evs, evI, mThen, mDone, mSet, mSet2, mAsg, mRet, mRetN, mRetV, mFrz, mIf, mExp, mB, mB_not, mB_and, mB_or, mNotB, mAndB, mOrB, mNotV, mAndV, mOrV, mNeg, mIfB, m2, gBop, gCop, gBlt, mK, mVar, mOv, mCons, mNil, mStar, mSz, mApp, mTup, mList, mFro, mOpn, mSl, toD, mCat, mCutL, mPart, mRev, mIsi, mIt, mEnum, mZip, mComp, mFor, mYes, mCallS, mCall, mCallT, mCallP, mPurIx, mPut, mApd, mPop, mPut2, mBits, permL, gAdd, PV.gSub, gLt, gLe, gGt, gGe, gLen, gInt, gMax2, gMin2, bT_nm, bT_tp, bA_nil, bA_cons, wipeE, shp_0, shp_1, shp_2, shp_3, shp_4, shp_5, shp_6, shp_7, shp_8, shp_9, shp_10, shp_11, shp_12, shp_13, shp_14, shp_15, shp_16, shp_17, shp_18, shp_19, shp_20, pshp_0, pshp_1, pshp_2, pshp_3, pshp_4, Bool.false_eq_true, if_false, if_true, ↓reduceIte, reduceCtorEq, List.map_cons, List.map_nil, List.nil_append, List.cons_append, List.append_nil, List.length_cons, List.length_nil, List.getElem?_cons_zero, List.getElem?_cons_succ, List.getElem?_nil, List.set_cons_zero, List.set_cons_succ, List.isEmpty_nil, List.isEmpty_cons, List.any_cons, List.any_nil, List.filterMap_cons, List.filterMap_nil, List.replicate_succ, List.replicate_zero, Option.bind_some, Option.bind_none, Option.map_some, Option.map_none, Nat.reduceAdd, Nat.reduceSub, Nat.reduceLeDiff, Nat.zero_add, Nat.add_zero, and_self, and_true, true_and, Bool.not_true, Bool.not_false, Bool.or_false, Bool.false_or, Bool.or_true, Bool.true_or, List.length_map]
    | bool b => cases b <;> simp only [d__law_exact, b__law_exact, isD, isK, kd, gIs, isNone, gNe_bool, gEq_bool, beq_self_eq_true, runD, startE, exs, ex, evX, ev, evs, evI, mThen, mDone, mSet, mSet2, mAsg, mRet, mRetN, mRetV, mFrz, mIf, mExp, mB, mB_not, mB_and, mB_or, mNotB, mAndB, mOrB, mNotV, mAndV, mOrV, mNeg, mIfB, m2, gBop, gCop, gBlt, mK, mVar, mOv, mCons, mNil, mStar, mSz, mApp, mTup, mList, mFro, mOpn, mSl, toD, mCat, mCutL, mPart, mRev, mIsi, mIt, mEnum, mZip, mComp, mFor, mYes, mCallS, mCall, mCallT, mCallP, mPurIx, mPut, mApd, mPop, mPut2, mBits, permL, gAdd, PV.gSub, gLt, gLe, gGt, gGe, gLen, gInt, gMax2, gMin2, bT_nm, bT_tp, bA_nil, bA_cons, wipeE, shp_0, shp_1, shp_2, shp_3, shp_4, shp_5, shp_6, shp_7, shp_8, shp_9, shp_10, shp_11, shp_12, shp_13, shp_14, shp_15, shp_16, shp_17, shp_18, shp_19, shp_20, pshp_0, pshp_1, pshp_2, pshp_3, pshp_4, Bool.false_eq_true, if_false, if_true, ↓reduceIte, reduceCtorEq, List.map_cons, List.map_nil, List.nil_append, List.cons_append, List.append_nil, List.length_cons, List.length_nil, List.getElem?_cons_zero, List.getElem?_cons_succ, List.getElem?_nil, List.set_cons_zero, List.set_cons_succ, List.isEmpty_nil, List.isEmpty_cons, List.any_cons, List.any_nil, List.filterMap_cons, List.filterMap_nil, List.replicate_succ, List.replicate_zero, Option.bind_some, Option.bind_none, Option.map_some, Option.map_none, Nat.reduceAdd, Nat.reduceSub, Nat.reduceLeDiff, Nat.zero_add, Nat.add_zero, and_self, and_true, true_and, Bool.not_true, Bool.not_false, Bool.or_false, Bool.false_or, Bool.or_true, Bool.true_or, List.length_map]
    | list ds =>
      rw [exO, Bool.and_eq_true, decide_eq_true_eq] at h
      have hz : ds.length ≤ sizeMax := small _ h.1
      have hc : goC (.tp [.nm 5, .nm 6]) [some (Sl.fro (.list ds)), some (Sl.fro (.list ds)), some (Sl.fro (.bool true)), some (Sl.fro (.bool true)), none, none, none] mYes (ev gm (sem gm W tbl j) (.call 10 (.cons (.var 5) (.cons (.var 6) .nil)) .nil)) (ds.map fun d => PyData.tuple [d, d]) p = some ((ds.map fun d => PyData.tuple [d, d]).map fun _ => PyData.bool true, p) := by
        refine goC_map (fun _ => PyData.bool true) _ p fun t ht => ?_
        obtain ⟨x, hx, rfl⟩ := List.mem_map.mp ht
        refine ⟨_, rfl, ?_⟩
        simp only [sem_exact W n j (by omega) x (exOs_at h.2 x hx), runD, startE, exs, ex, evX, ev, evs, evI, mThen, mDone, mSet, mSet2, mAsg, mRet, mRetN, mRetV, mFrz, mIf, mExp, mB, mB_not, mB_and, mB_or, mNotB, mAndB, mOrB, mNotV, mAndV, mOrV, mNeg, mIfB, m2, gBop, gCop, gBlt, mK, mVar, mOv, mCons, mNil, mStar, mSz, mApp, mTup, mList, mFro, mOpn, mSl, toD, mCat, mCutL, mPart, mRev, mIsi, mIt, mEnum, mZip, mComp, mFor, mYes, mCallS, mCall, mCallT, mCallP, mPurIx, mPut, mApd, mPop, mPut2, mBits, permL, gAdd, PV.gSub, gLt, gLe, gGt, gGe, gLen, gInt, gMax2, gMin2, bT_nm, bT_tp, bA_nil, bA_cons, wipeE, shp_0, shp_1, shp_2, shp_3, shp_4, shp_5, shp_6, shp_7, shp_8, shp_9, shp_10, shp_11, shp_12, shp_13, shp_14, shp_15, shp_16, shp_17, shp_18, shp_19, shp_20, pshp_0, pshp_1, pshp_2, pshp_3, pshp_4, Bool.false_eq_true, if_false, if_true, ↓reduceIte, reduceCtorEq, List.map_cons, List.map_nil, List.nil_append, List.cons_append, List.append_nil, List.length_cons, List.length_nil, List.getElem?_cons_zero, List.getElem?_cons_succ, List.getElem?_nil, List.set_cons_zero, List.set_cons_succ, List.isEmpty_nil, List.isEmpty_cons, List.any_cons, List.any_nil, List.filterMap_cons, List.filterMap_nil, List.replicate_succ, List.replicate_zero, Option.bind_some, Option.bind_none, Option.map_some, Option.map_none, Nat.reduceAdd, Nat.reduceSub, Nat.reduceLeDiff, Nat.zero_add, Nat.add_zero, and_self, and_true, true_and, Bool.not_true, Bool.not_false, Bool.or_false, Bool.false_or, Bool.or_true, Bool.true_or, List.length_map]
      simp only [runD, startE, exs, ex, evX, ev, evs, evI, mThen, mDone, mSet, mSet2, mAsg, mRet, mRetN, mRetV, mFrz, mIf, mExp, mB, mB_not, mB_and, mB_or, mNotB, mAndB, mOrB, mNotV, mAndV, mOrV, mNeg, mIfB, m2, gBop, gCop, gBlt, mK, mVar, mOv, mCons, mNil, mStar, mSz, mApp, mTup, mList, mFro, mOpn, mSl, toD, mCat, mCutL, mPart, mRev, mIsi, mIt, mEnum, mZip, mComp, mFor, mYes, mCallS, mCall, mCallT, mCallP, mPurIx, mPut, mApd, mPop, mPut2, mBits, permL, gAdd, PV.gSub, gLt, gLe, gGt, gGe, gLen, gInt, gMax2, gMin2, bT_nm, bT_tp, bA_nil, bA_cons, wipeE, shp_0, shp_1, shp_2, shp_3, shp_4, shp_5, shp_6, shp_7, shp_8, shp_9, shp_10, shp_11, shp_12, shp_13, shp_14, shp_15, shp_16, shp_17, shp_18, shp_19, shp_20, pshp_0, pshp_1, pshp_2, pshp_3, pshp_4, Bool.false_eq_true, if_false, if_true, ↓reduceIte, reduceCtorEq, List.map_cons, List.map_nil, List.nil_append, List.cons_append, List.append_nil, List.length_cons, List.length_nil, List.getElem?_cons_zero, List.getElem?_cons_succ, List.getElem?_nil, List.set_cons_zero, List.set_cons_succ, List.isEmpty_nil, List.isEmpty_cons, List.any_cons, List.any_nil, List.filterMap_cons, List.filterMap_nil, List.replicate_succ, List.replicate_zero, Option.bind_some, Option.bind_none, Option.map_some, Option.map_none, Nat.reduceAdd, Nat.reduceSub, Nat.reduceLeDiff, Nat.zero_add, Nat.add_zero, and_self, and_true, true_and, Bool.not_true, Bool.not_false, Bool.or_false, Bool.false_or, Bool.or_true, Bool.true_or, List.length_map] at hc
      have hz' : (ds.map fun d => PyData.tuple [d, d]).length ≤ sizeMax := by rw [List.length_map]; exact hz
      have hg : gAll [.list ((ds.map fun d => PyData.tuple [d, d]).map fun _ => PyData.bool true)] = some (.bool true) := by
        have := gAll_map (fun _ => true) (ds.map fun d => PyData.tuple [d, d])
        rw [this]
        simp
      simp only [d__law_exact, b__law_exact, isD, isK, kd, gIs, isNone, gNe_bool, gEq_bool, gEq_int, beq_self_eq_true, gLen, zipD_self, if_pos hz, hc, hg, runD, startE, exs, ex, evX, ev, evs, evI, mThen, mDone, mSet, mSet2, mAsg, mRet, mRetN, mRetV, mFrz, mIf, mExp, mB, mB_not, mB_and, mB_or, mNotB, mAndB, mOrB, mNotV, mAndV, mOrV, mNeg, mIfB, m2, gBop, gCop, gBlt, mK, mVar, mOv, mCons, mNil, mStar, mSz, mApp, mTup, mList, mFro, mOpn, mSl, toD, mCat, mCutL, mPart, mRev, mIsi, mIt, mEnum, mZip, mComp, mFor, mYes, mCallS, mCall, mCallT, mCallP, mPurIx, mPut, mApd, mPop, mPut2, mBits, permL, gAdd, PV.gSub, gLt, gLe, gGt, gGe, gLen, gInt, gMax2, gMin2, bT_nm, bT_tp, bA_nil, bA_cons, wipeE, shp_0, shp_1, shp_2, shp_3, shp_4, shp_5, shp_6, shp_7, shp_8, shp_9, shp_10, shp_11, shp_12, shp_13, shp_14, shp_15, shp_16, shp_17, shp_18, shp_19, shp_20, pshp_0, pshp_1, pshp_2, pshp_3, pshp_4, Bool.false_eq_true, if_false, if_true, ↓reduceIte, reduceCtorEq, List.map_cons, List.map_nil, List.nil_append, List.cons_append, List.append_nil, List.length_cons, List.length_nil, List.getElem?_cons_zero, List.getElem?_cons_succ, List.getElem?_nil, List.set_cons_zero, List.set_cons_succ, List.isEmpty_nil, List.isEmpty_cons, List.any_cons, List.any_nil, List.filterMap_cons, List.filterMap_nil, List.replicate_succ, List.replicate_zero, Option.bind_some, Option.bind_none, Option.map_some, Option.map_none, Nat.reduceAdd, Nat.reduceSub, Nat.reduceLeDiff, Nat.zero_add, Nat.add_zero, and_self, and_true, true_and, Bool.not_true, Bool.not_false, Bool.or_false, Bool.false_or, Bool.or_true, Bool.true_or, List.length_map]
    | _ => rw [exO] at h <;> first | (cases h; done) | (intros; contradiction)
end K73

set_option Elab.async false
set_option linter.all false
set_option maxRecDepth 100000
set_option maxHeartbeats 8000000
namespace K73
open PySem PySem.Spec L2 PV
open PyProof.Rows hiding St cutD

theorem log_lt {n k : Nat} (h : n < 2 ^ k) (hk : 0 < k) : n.log2 < k := by
  by_cases h0 : n = 0
  · subst h0; simpa using hk
  · exact (Nat.log2_lt h0).mpr h
theorem mul_ok (a b : Int) (ha : -1000000000000000000000000000000 < a ∧ a < 1000000000000000000000000000000) (hb : -1000000000000000000000000000000 < b ∧ b < 1000000000000000000000000000000) : gMul (.int a) (.int b) = some (.int (a * b)) := by
  have h1 : a.natAbs.log2 < 100 := log_lt (Nat.lt_of_lt_of_le (show a.natAbs < 1000000000000000000000000000000 by omega) (by decide)) (by decide)
  have h2 : b.natAbs.log2 < 100 := log_lt (Nat.lt_of_lt_of_le (show b.natAbs < 1000000000000000000000000000000 by omega) (by decide)) (by decide)
  exact if_pos (e := none) (by omega)
theorem mod_ok (a b : Int) (hb : b ≠ 0) : gMod (.int a) (.int b) = some (.int (a.fmod b)) := if_pos (e := none) hb
theorem div_ok (a : Int) (m : Nat) (h1 : 1 ≤ m) (h2 : m ≤ 30) : gDiv (.int a) (.int (m : Int)) = some (.int (a.fdiv (m : Int))) := by
  have h : ((m : Int)).natAbs.log2 < 100 := log_lt (Nat.lt_of_lt_of_le (show ((m : Int)).natAbs < 31 by omega) (by decide)) (by decide)
  exact if_pos (e := none) ⟨by omega, by omega⟩
theorem rng1_eq {ms : Ms (List D)} {env : PV.Env} {p p1 : List D} {b : Int} (h : ms env p = some ([.int b], p1)) (hb : -1000 ≤ b ∧ b ≤ 1000) : mRng1 ms env p = some (rgD 0 b, p1) := by
  unfold mRng1
  rw [h]
  exact if_pos (e := none) ⟨by omega, by omega⟩
theorem sem_mixed (W k : Nat) (hk : 1 ≤ k) (s t a : Int) (hs : 0 ≤ s ∧ s < 2147483629) (ht : 0 ≤ t ∧ t < 1000000) (ha : 0 ≤ a ∧ a < 1000) (p : List D) : ∃ z : Int, 0 ≤ z ∧ z < 2147483587 ∧ sem gm W tbl k 11 [.int s, .int t, .int a] p = some (.fro (.int z), p) := by
  obtain ⟨j, rfl⟩ : ∃ j, k = j + 1 := ⟨k - 1, by omega⟩
  let m1 : Int := s * 69069 + 104729 * t * t
  let m2' : Int := (m1 + 7919 * a + t).fmod 2147483647
  have b2 : 0 ≤ m2' ∧ m2' < 2147483647 := ⟨Int.fmod_nonneg_of_pos _ (by decide), Int.fmod_lt_of_pos _ (by decide)⟩
  let m3 : Int := (m2' * m2' + 40503).fmod 2147483629
  have b3 : 0 ≤ m3 ∧ m3 < 2147483629 := ⟨Int.fmod_nonneg_of_pos _ (by decide), Int.fmod_lt_of_pos _ (by decide)⟩
  refine ⟨(m3 * 48271).fmod 2147483587, Int.fmod_nonneg_of_pos _ (by decide), Int.fmod_lt_of_pos _ (by decide), ?_⟩
  show runD gm (sem gm W tbl j) W d__law_mixed [.int s, .int t, .int a] p = _
  have e1 := mul_ok s 69069 (by omega) (by omega)
  have e2 := mul_ok 104729 t (by omega) (by omega)
  have e3 := mul_ok (104729 * t) t (by omega) (by omega)
  have e4 := mul_ok 7919 a (by omega) (by omega)
  have e5 := mul_ok m2' m2' (by omega) (by omega)
  have e6 := mul_ok m3 48271 (by omega) (by omega)
  have f1 : gMod (.int (s * 69069 + 104729 * t * t + 7919 * a + t)) (.int 2147483647) = some (.int m2') := mod_ok _ _ (by decide)
  have f2 : gMod (.int (m2' * m2' + 40503)) (.int 2147483629) = some (.int m3) := mod_ok _ _ (by decide)
  have f3 := mod_ok (m3 * 48271) 2147483587 (by decide)
  simp only [d__law_mixed, b__law_mixed, e1, e2, e3, e4, f1, e5, f2, e6, f3, runD, startE, exs, ex, evX, ev, evs, evI, mThen, mDone, mSet, mSet2, mAsg, mRet, mRetN, mRetV, mFrz, mIf, mExp, mB, mB_not, mB_and, mB_or, mNotB, mAndB, mOrB, mNotV, mAndV, mOrV, mNeg, mIfB, m2, gBop, gCop, gBlt, mK, mVar, mOv, mCons, mNil, mStar, mSz, mApp, mTup, mList, mFro, mOpn, mSl, toD, mCat, mCutL, mPart, mRev, mIsi, mIt, mEnum, mZip, mComp, mFor, mYes, mCallS, mCall, mCallT, mCallP, mPurIx, mPut, mApd, mPop, mPut2, mBits, permL, gAdd, PV.gSub, gLt, gLe, gGt, gGe, gLen, gInt, gMax2, gMin2, bT_nm, bT_tp, bA_nil, bA_cons, wipeE, shp_0, shp_1, shp_2, shp_3, shp_4, shp_5, shp_6, shp_7, shp_8, shp_9, shp_10, shp_11, shp_12, shp_13, shp_14, shp_15, shp_16, shp_17, shp_18, shp_19, shp_20, pshp_0, pshp_1, pshp_2, pshp_3, pshp_4, Bool.false_eq_true, if_false, if_true, ↓reduceIte, reduceCtorEq, List.map_cons, List.map_nil, List.nil_append, List.cons_append, List.append_nil, List.length_cons, List.length_nil, List.getElem?_cons_zero, List.getElem?_cons_succ, List.getElem?_nil, List.set_cons_zero, List.set_cons_succ, List.isEmpty_nil, List.isEmpty_cons, List.any_cons, List.any_nil, List.filterMap_cons, List.filterMap_nil, List.replicate_succ, List.replicate_zero, Option.bind_some, Option.bind_none, Option.map_some, Option.map_none, Nat.reduceAdd, Nat.reduceSub, Nat.reduceLeDiff, Nat.zero_add, Nat.add_zero, and_self, and_true, true_and, Bool.not_true, Bool.not_false, Bool.or_false, Bool.false_or, Bool.or_true, Bool.true_or, List.length_map]
def Pok (n : Nat) (p : List D) : Prop := ∃ p0 p1 p2 p3 : Int, p = [.int p0, .int p1, .int p2, .int p3] ∧ 0 ≤ p0 ∧ (0 ≤ p1 ∧ p1 < 2147483629) ∧ (0 ≤ p2 ∧ p2 ≤ (n : Int)) ∧ (0 ≤ p3 ∧ p3 < 1000)
theorem at0 {α : Type} (a b c d : α) : atI [a, b, c, d] (0 : Int) = some a := rfl
theorem at1 {α : Type} (a b c d : α) : atI [a, b, c, d] (1 : Int) = some b := rfl
theorem at2 {α : Type} (a b c d : α) : atI [a, b, c, d] (2 : Int) = some c := rfl
theorem at3 {α : Type} (a b c d : α) : atI [a, b, c, d] (3 : Int) = some d := rfl
theorem ix40 : ixN (0 + 1 + 1 + 1 + 1) (0 : Int) = some 0 := rfl
theorem ix42 : ixN (0 + 1 + 1 + 1 + 1) (2 : Int) = some 2 := rfl
theorem ix40' : ixN 4 (0 : Int) = some 0 := rfl
theorem ix42' : ixN 4 (2 : Int) = some 2 := rfl
theorem bits_small : ∀ m : Nat, m ≤ 30 → ((Builtin.Int.intBits (m : Int) : Nat) : Int).fdiv 28 = 0 := by decide +kernel
theorem div28 (a : Int) : gDiv (.int a) (.int 28) = some (.int (a.fdiv 28)) := if_pos (c := ((28 : Int) ≠ 0 ∧ (28 : Int).natAbs.log2 < 9000)) (e := none) (by decide)
theorem rgD_one : rgD 0 (1 + 0) = [.int 0] := rfl
theorem sem_draw (W k : Nat) (hk : 2 ≤ k) (m : Nat) (h1 : 1 ≤ m) (h2 : m ≤ 30) (n : Nat) (hn : n ≤ 10000) (p : List D) (hp : Pok n p) : ∃ (d : Nat) (p' : List D), d < m ∧ Pok (n + 1) p' ∧ sem gm W tbl k 12 [.int (m : Int)] p = some (.fro (.int (d : Int)), p') := by
  obtain ⟨j, rfl⟩ : ∃ j, k = j + 1 := ⟨k - 1, by omega⟩
  obtain ⟨p0, p1, p2, p3, rfl, h0, hp1, hp2, hp3⟩ := hp
  by_cases hz : 0 < p0
  · have b1 : 0 ≤ p0.fmod (m : Int) := Int.fmod_nonneg_of_pos _ (by omega)
    have b2 : p0.fmod (m : Int) < (m : Int) := Int.fmod_lt_of_pos _ (by omega)
    refine ⟨(p0.fmod (m : Int)).toNat, [.int (p0.fdiv (m : Int)), .int p1, .int p2, .int p3], by omega, ⟨_, _, _, _, rfl, Int.fdiv_nonneg h0 (by omega), hp1, ⟨hp2.1, by omega⟩, hp3⟩, ?_⟩
    rw [Int.toNat_of_nonneg b1]
    show runD gm (sem gm W tbl j) W d__law_draw [.int (m : Int)] [.int p0, .int p1, .int p2, .int p3] = _
    have f1 := mod_ok p0 (m : Int) (by omega)
    have f2 := div_ok p0 m h1 h2
    simp only [d__law_draw, b__law_draw, at0, ix40, ix40', hz, decide_true, f1, f2, runD, startE, exs, ex, evX, ev, evs, evI, mThen, mDone, mSet, mSet2, mAsg, mRet, mRetN, mRetV, mFrz, mIf, mExp, mB, mB_not, mB_and, mB_or, mNotB, mAndB, mOrB, mNotV, mAndV, mOrV, mNeg, mIfB, m2, gBop, gCop, gBlt, mK, mVar, mOv, mCons, mNil, mStar, mSz, mApp, mTup, mList, mFro, mOpn, mSl, toD, mCat, mCutL, mPart, mRev, mIsi, mIt, mEnum, mZip, mComp, mFor, mYes, mCallS, mCall, mCallT, mCallP, mPurIx, mPut, mApd, mPop, mPut2, mBits, permL, gAdd, PV.gSub, gLt, gLe, gGt, gGe, gLen, gInt, gMax2, gMin2, bT_nm, bT_tp, bA_nil, bA_cons, wipeE, shp_0, shp_1, shp_2, shp_3, shp_4, shp_5, shp_6, shp_7, shp_8, shp_9, shp_10, shp_11, shp_12, shp_13, shp_14, shp_15, shp_16, shp_17, shp_18, shp_19, shp_20, pshp_0, pshp_1, pshp_2, pshp_3, pshp_4, Bool.false_eq_true, if_false, if_true, ↓reduceIte, reduceCtorEq, List.map_cons, List.map_nil, List.nil_append, List.cons_append, List.append_nil, List.length_cons, List.length_nil, List.getElem?_cons_zero, List.getElem?_cons_succ, List.getElem?_nil, List.set_cons_zero, List.set_cons_succ, List.isEmpty_nil, List.isEmpty_cons, List.any_cons, List.any_nil, List.filterMap_cons, List.filterMap_nil, List.replicate_succ, List.replicate_zero, Option.bind_some, Option.bind_none, Option.map_some, Option.map_none, Nat.reduceAdd, Nat.reduceSub, Nat.reduceLeDiff, Nat.zero_add, Nat.add_zero, and_self, and_true, true_and, Bool.not_true, Bool.not_false, Bool.or_false, Bool.false_or, Bool.or_true, Bool.true_or, List.length_map]
  · obtain ⟨z, hz0, hz1, hmix⟩ := sem_mixed W j (by omega) p1 (p2 + 1) p3 hp1 ⟨by omega, by omega⟩ hp3 [.int p0, .int p1, .int (p2 + 1), .int p3]
    have b1 : 0 ≤ (0 * 2147483587 + z).fmod (m : Int) := Int.fmod_nonneg_of_pos _ (by omega)
    have b2 : (0 * 2147483587 + z).fmod (m : Int) < (m : Int) := Int.fmod_lt_of_pos _ (by omega)
    refine ⟨((0 * 2147483587 + z).fmod (m : Int)).toNat, [.int p0, .int p1, .int (p2 + 1), .int p3], by omega, ⟨_, _, _, _, rfl, h0, hp1, ⟨by omega, by omega⟩, hp3⟩, ?_⟩
    rw [Int.toNat_of_nonneg b1]
    show runD gm (sem gm W tbl j) W d__law_draw [.int (m : Int)] [.int p0, .int p1, .int p2, .int p3] = _
    have f1 := mod_ok (0 * 2147483587 + z) (m : Int) (by omega)
    have f2 := mul_ok 0 2147483587 (by decide) (by decide)
    have hr : mRng1 (mCons (m2 gAdd (mK (.int 1)) (m2 gDiv (mBits (mOv 1)) (mK (.int 28)))) mNil) [some Sl.pur, some (.fro (.int (m : Int))), some (.fro (.int 0)), none, none] [.int p0, .int p1, .int p2, .int p3] = some ([.int 0], [.int p0, .int p1, .int p2, .int p3]) := by
      rw [← rgD_one]
      refine rng1_eq ?_ (by decide)
      simp only [div28, bits_small m h2, runD, startE, exs, ex, evX, ev, evs, evI, mThen, mDone, mSet, mSet2, mAsg, mRet, mRetN, mRetV, mFrz, mIf, mExp, mB, mB_not, mB_and, mB_or, mNotB, mAndB, mOrB, mNotV, mAndV, mOrV, mNeg, mIfB, m2, gBop, gCop, gBlt, mK, mVar, mOv, mCons, mNil, mStar, mSz, mApp, mTup, mList, mFro, mOpn, mSl, toD, mCat, mCutL, mPart, mRev, mIsi, mIt, mEnum, mZip, mComp, mFor, mYes, mCallS, mCall, mCallT, mCallP, mPurIx, mPut, mApd, mPop, mPut2, mBits, permL, gAdd, PV.gSub, gLt, gLe, gGt, gGe, gLen, gInt, gMax2, gMin2, bT_nm, bT_tp, bA_nil, bA_cons, wipeE, shp_0, shp_1, shp_2, shp_3, shp_4, shp_5, shp_6, shp_7, shp_8, shp_9, shp_10, shp_11, shp_12, shp_13, shp_14, shp_15, shp_16, shp_17, shp_18, shp_19, shp_20, pshp_0, pshp_1, pshp_2, pshp_3, pshp_4, Bool.false_eq_true, if_false, if_true, ↓reduceIte, reduceCtorEq, List.map_cons, List.map_nil, List.nil_append, List.cons_append, List.append_nil, List.length_cons, List.length_nil, List.getElem?_cons_zero, List.getElem?_cons_succ, List.getElem?_nil, List.set_cons_zero, List.set_cons_succ, List.isEmpty_nil, List.isEmpty_cons, List.any_cons, List.any_nil, List.filterMap_cons, List.filterMap_nil, List.replicate_succ, List.replicate_zero, Option.bind_some, Option.bind_none, Option.map_some, Option.map_none, Nat.reduceAdd, Nat.reduceSub, Nat.reduceLeDiff, Nat.zero_add, Nat.add_zero, and_self, and_true, true_and, Bool.not_true, Bool.not_false, Bool.or_false, Bool.false_or, Bool.or_true, Bool.true_or, List.length_map]
    simp only [d__law_draw, b__law_draw, at0, at1, at2, at3, ix40, ix40', ix42, ix42', hz, decide_false, hr, goF, hmix, f1, f2, runD, startE, exs, ex, evX, ev, evs, evI, mThen, mDone, mSet, mSet2, mAsg, mRet, mRetN, mRetV, mFrz, mIf, mExp, mB, mB_not, mB_and, mB_or, mNotB, mAndB, mOrB, mNotV, mAndV, mOrV, mNeg, mIfB, m2, gBop, gCop, gBlt, mK, mVar, mOv, mCons, mNil, mStar, mSz, mApp, mTup, mList, mFro, mOpn, mSl, toD, mCat, mCutL, mPart, mRev, mIsi, mIt, mEnum, mZip, mComp, mFor, mYes, mCallS, mCall, mCallT, mCallP, mPurIx, mPut, mApd, mPop, mPut2, mBits, permL, gAdd, PV.gSub, gLt, gLe, gGt, gGe, gLen, gInt, gMax2, gMin2, bT_nm, bT_tp, bA_nil, bA_cons, wipeE, shp_0, shp_1, shp_2, shp_3, shp_4, shp_5, shp_6, shp_7, shp_8, shp_9, shp_10, shp_11, shp_12, shp_13, shp_14, shp_15, shp_16, shp_17, shp_18, shp_19, shp_20, pshp_0, pshp_1, pshp_2, pshp_3, pshp_4, Bool.false_eq_true, if_false, if_true, ↓reduceIte, reduceCtorEq, List.map_cons, List.map_nil, List.nil_append, List.cons_append, List.append_nil, List.length_cons, List.length_nil, List.getElem?_cons_zero, List.getElem?_cons_succ, List.getElem?_nil, List.set_cons_zero, List.set_cons_succ, List.isEmpty_nil, List.isEmpty_cons, List.any_cons, List.any_nil, List.filterMap_cons, List.filterMap_nil, List.replicate_succ, List.replicate_zero, Option.bind_some, Option.bind_none, Option.map_some, Option.map_none, Nat.reduceAdd, Nat.reduceSub, Nat.reduceLeDiff, Nat.zero_add, Nat.add_zero, and_self, and_true, true_and, Bool.not_true, Bool.not_false, Bool.or_false, Bool.false_or, Bool.or_true, Bool.true_or, List.length_map]
theorem sem_one_of (W k : Nat) (hk : 3 ≤ k) (xs : List D) (h1 : 1 ≤ xs.length) (h2 : xs.length ≤ 30) (n : Nat) (hn : n ≤ 10000) (p : List D) (hp : Pok n p) : ∃ (d : D) (p' : List D), d ∈ xs ∧ Pok (n + 1) p' ∧ sem gm W tbl k 13 [.list xs] p = some (.fro d, p') := by
  obtain ⟨j, rfl⟩ : ∃ j, k = j + 1 := ⟨k - 1, by omega⟩
  obtain ⟨i, p', hi, hp', hd⟩ := sem_draw W j (by omega) xs.length h1 h2 n hn p hp
  refine ⟨xs[i], p', List.getElem_mem hi, hp', ?_⟩
  show runD gm (sem gm W tbl j) W d__law_one_of [.list xs] p = _
  have hx : gIx (.list xs) (.int (i : Int)) = some xs[i] := atI_nat _ _ _ (List.getElem?_eq_getElem hi)
  simp only [d__law_one_of, b__law_one_of, gLen, hd, hx, runD, startE, exs, ex, evX, ev, evs, evI, mThen, mDone, mSet, mSet2, mAsg, mRet, mRetN, mRetV, mFrz, mIf, mExp, mB, mB_not, mB_and, mB_or, mNotB, mAndB, mOrB, mNotV, mAndV, mOrV, mNeg, mIfB, m2, gBop, gCop, gBlt, mK, mVar, mOv, mCons, mNil, mStar, mSz, mApp, mTup, mList, mFro, mOpn, mSl, toD, mCat, mCutL, mPart, mRev, mIsi, mIt, mEnum, mZip, mComp, mFor, mYes, mCallS, mCall, mCallT, mCallP, mPurIx, mPut, mApd, mPop, mPut2, mBits, permL, gAdd, PV.gSub, gLt, gLe, gGt, gGe, gLen, gInt, gMax2, gMin2, bT_nm, bT_tp, bA_nil, bA_cons, wipeE, shp_0, shp_1, shp_2, shp_3, shp_4, shp_5, shp_6, shp_7, shp_8, shp_9, shp_10, shp_11, shp_12, shp_13, shp_14, shp_15, shp_16, shp_17, shp_18, shp_19, shp_20, pshp_0, pshp_1, pshp_2, pshp_3, pshp_4, Bool.false_eq_true, if_false, if_true, ↓reduceIte, reduceCtorEq, List.map_cons, List.map_nil, List.nil_append, List.cons_append, List.append_nil, List.length_cons, List.length_nil, List.getElem?_cons_zero, List.getElem?_cons_succ, List.getElem?_nil, List.set_cons_zero, List.set_cons_succ, List.isEmpty_nil, List.isEmpty_cons, List.any_cons, List.any_nil, List.filterMap_cons, List.filterMap_nil, List.replicate_succ, List.replicate_zero, Option.bind_some, Option.bind_none, Option.map_some, Option.map_none, Nat.reduceAdd, Nat.reduceSub, Nat.reduceLeDiff, Nat.zero_add, Nat.add_zero, and_self, and_true, true_and, Bool.not_true, Bool.not_false, Bool.or_false, Bool.false_or, Bool.or_true, Bool.true_or, List.length_map]
end K73

set_option Elab.async false
set_option linter.all false
set_option maxRecDepth 100000
set_option maxHeartbeats 8000000
namespace K73
open PySem PySem.Spec L2 PV
open PyProof.Rows hiding St cutD

/-! ### plain: adjacent exchanges -/
theorem split2 (l : List Int) (i : Nat) (h : i + 1 < l.length) : ∃ u a b v, l = u ++ a :: b :: v ∧ u.length = i ∧ l.getD i 0 = a ∧ l.getD (i + 1) 0 = b ∧ exch l i = u ++ b :: a :: v := by
  refine ⟨l.take i, l[i], l[i + 1], l.drop (i + 2), ?_, by rw [List.length_take]; omega, ?_, ?_, ?_⟩
  · rw [← List.drop_eq_getElem_cons (by omega : i + 1 < l.length), ← List.drop_eq_getElem_cons (by omega : i < l.length), List.take_append_drop]
  · rw [List.getD_eq_getElem?_getD, List.getElem?_eq_getElem (by omega)]; rfl
  · rw [List.getD_eq_getElem?_getD, List.getElem?_eq_getElem (by omega)]; rfl
  · unfold exch
    rw [List.getD_eq_getElem?_getD, List.getElem?_eq_getElem (by omega), List.getD_eq_getElem?_getD, List.getElem?_eq_getElem (by omega)]; rfl
theorem exch_perm (l : List Int) (i : Nat) (h : i + 1 < l.length) : (exch l i).Perm l := by
  obtain ⟨u, a, b, v, e1, _, _, _, e5⟩ := split2 l i h
  rw [e5, e1]
  exact List.Perm.append_left u (List.Perm.swap a b v)
def inv : List Int → Nat
  | [] => 0
  | a :: r => r.countP (fun x => decide (x < a)) + inv r
theorem inv_swap (a b : Int) (v : List Int) (h : a < b) : ∀ u : List Int, inv (u ++ b :: a :: v) = inv (u ++ a :: b :: v) + 1
  | [] => by
    simp only [List.nil_append, inv, List.countP_cons]
    have h1 : decide (a < b) = true := by simpa using h
    have h2 : decide (b < a) = false := by simp; omega
    simp only [h1, h2, Bool.false_eq_true, if_true, if_false]; omega
  | c :: u => by
    simp only [List.cons_append, inv, inv_swap a b v h u, List.countP_append, List.countP_cons]; omega
theorem inv_exch (l : List Int) (i : Nat) (h : i + 1 < l.length) (hl : l.getD i 0 < l.getD (i + 1) 0) : inv (exch l i) = inv l + 1 := by
  obtain ⟨u, a, b, v, e1, _, e3, e4, e5⟩ := split2 l i h
  rw [e3, e4] at hl
  rw [e5, inv_swap a b v hl u, ← e1]
theorem tri_succ (n : Nat) : tri (n + 1) = n + tri n := by
  unfold tri
  cases n with
  | zero => rfl
  | succ m =>
    show (m + 1 + 1) * (m + 1) / 2 = m + 1 + (m + 1) * m / 2
    have : (m + 1 + 1) * (m + 1) = (m + 1) * m + 2 * (m + 1) := by
      have e1 := Nat.add_one_mul (m + 1) (m + 1)
      have e2 := Nat.mul_add_one (m + 1) m
      omega
    rw [this, Nat.add_mul_div_left _ _ (by decide)]; omega
theorem inv_le : ∀ l : List Int, inv l ≤ tri l.length
  | [] => Nat.zero_le _
  | a :: r => by
    have h1 := List.countP_le_length (p := fun x => decide (x < a)) (l := r)
    have h2 := inv_le r
    rw [inv, List.length_cons, tri_succ]; omega
theorem inv_rev : ∀ m : Nat, m ≤ 8 → inv (rng m).reverse = tri m := by decide +kernel
theorem inv_rng : ∀ m : Nat, m ≤ 8 → inv (rng m) = 0 := by decide +kernel
/-- where an ascent stands -/
def asc (l : List Int) (n : Nat) : List Nat := (List.range n).filter fun i => decide (l.getD i 0 < l.getD (i + 1) 0)
theorem asc_mem {l : List Int} {n i : Nat} (h : i ∈ asc l n) : i < n ∧ l.getD i 0 < l.getD (i + 1) 0 := by
  unfold asc at h
  rw [List.mem_filter, List.mem_range, decide_eq_true_eq] at h
  exact h
def dec : Nat → List Int
  | 0 => []
  | n + 1 => (n : Int) :: dec n
theorem dec_rng : ∀ m : Nat, m ≤ 8 → (rng m).reverse = dec m := by decide +kernel
/-- a list that nowhere rises, of n different numbers below n, is n - 1, .., 0 -/
theorem desc_all : ∀ (l : List Int) (a : Int), (∀ i, i + 1 < (a :: l).length → ¬ (a :: l).getD i 0 < (a :: l).getD (i + 1) 0) → (a :: l).Nodup → ∀ x ∈ l, x < a
  | [], _, _, _, x, h => by cases h
  | b :: l, a, h, nd, x, hx => by
    have h0 := h 0 (by simp)
    have hab : a ≠ b := by
      intro e
      rw [List.nodup_cons] at nd
      exact nd.1 (e ▸ List.mem_cons_self ..)
    have hba : b < a := by
      have : ¬ a < b := h0
      omega
    rcases List.mem_cons.mp hx with rfl | hx
    · exact hba
    · have := desc_all l b (fun i hi => by
        have := h (i + 1) (by simp only [List.length_cons] at hi ⊢; omega)
        simpa using this) (List.nodup_cons.mp nd).2 x hx
      omega
theorem desc_dec : ∀ (n : Nat) (l : List Int), l.length = n → (∀ i, i + 1 < l.length → ¬ l.getD i 0 < l.getD (i + 1) 0) → l.Nodup → (∀ x ∈ l, 0 ≤ x ∧ x < (n : Int)) → l = dec n
  | 0, l, hl, _, _, _ => List.length_eq_zero_iff.mp hl
  | n + 1, [], hl, _, _, _ => by simp at hl
  | n + 1, a :: l, hl, h, nd, hb => by
    have hall := desc_all l a h nd
    have ha := hb a (List.mem_cons_self ..)
    have ih := desc_dec n l (by simpa using hl) (fun i hi => by
      have := h (i + 1) (by simp only [List.length_cons]; omega)
      simpa using this) (List.nodup_cons.mp nd).2 (fun x hx => ⟨(hb x (List.mem_cons_of_mem _ hx)).1, by have := hall x hx; omega⟩)
    subst ih
    have : a = (n : Int) := by
      cases n with
      | zero => omega
      | succ k =>
        have := hall (k : Int) (List.mem_cons_self ..)
        omega
    rw [this]; rfl
theorem rng_bd {m : Nat} {x : Int} (h : x ∈ rng m) : 0 ≤ x ∧ x < (m : Int) := by
  unfold rng at h
  obtain ⟨i, hi, rfl⟩ := List.mem_map.mp h
  rw [List.mem_range] at hi
  omega
theorem rng_nd : ∀ m : Nat, m ≤ 8 → (rng m).Nodup := by decide +kernel
theorem asc_nil {m : Nat} (h8 : m ≤ 8) (h1 : 1 ≤ m) {l : List Int} (hp : l.Perm (rng m)) (h : asc l (m - 1) = []) : l = (rng m).reverse := by
  have hl : l.length = m := hp.length_eq.trans (rng_len m)
  rw [dec_rng m h8]
  refine desc_dec m l hl (fun i hi hlt => ?_) (hp.symm.nodup (rng_nd m h8)) fun x hx => rng_bd (hp.mem_iff.mp hx)
  have : i ∈ asc l (m - 1) := by
    unfold asc
    rw [List.mem_filter, List.mem_range, decide_eq_true_eq]
    exact ⟨by omega, hlt⟩
  rw [h] at this
  cases this
end K73

set_option Elab.async false
set_option linter.all false
set_option maxRecDepth 100000
set_option maxHeartbeats 8000000
namespace K73
open PySem PySem.Spec L2 PV
open PyProof.Rows hiding St cutD

theorem szT (n : Nat) (h : n ≤ 1000) : (n ≤ sizeMax) = True := eq_true (small n h)
theorem canLay_ints : ∀ a : List Int, PyData.canLayAll0 (a.map PyData.int) = true
  | [] => rfl
  | x :: a => by rw [List.map_cons, PyData.canLayAll0, canLay_ints a]; rfl
theorem depth_ints : ∀ a : List Int, PyData.depthAll (a.map PyData.int) = 0
  | [] => rfl
  | x :: a => by rw [List.map_cons, PyData.depthAll, depth_ints a]; rfl
theorem shaped_ints (a : List Int) : SeqAt.shaped (iL a) = true := by
  unfold SeqAt.shaped
  rw [Bool.and_eq_true, decide_eq_true_eq]
  refine ⟨canLay_ints a, ?_⟩
  show PyData.depth (.list (a.map PyData.int)) ≤ 64
  rw [PyData.depth, depth_ints]; decide
theorem eqv_ints : ∀ a b : List Int, PyData.eqvAll (a.map PyData.int) (b.map PyData.int) = decide (a = b)
  | [], [] => rfl
  | [], _ :: _ => rfl
  | _ :: _, [] => rfl
  | x :: a, y :: b => by
    rw [List.map_cons, List.map_cons, PyData.eqvAll, eqv_ints a b, PyData.eqv]
    by_cases h : x = y
    · by_cases h2 : a = b <;> simp [h, h2]
    · simp [h]
theorem gNe_ints (a b : List Int) : gNe (iL a) (iL b) = some (.bool (!decide (a = b))) := by
  have e : gNe (iL a) (iL b) = if SeqAt.shaped (iL a) && SeqAt.shaped (iL b) then some (.bool (!PyData.eqv (iL a) (iL b))) else none := rfl
  rw [e, shaped_ints, shaped_ints]
  show some (PyData.bool (!PyData.eqv (.list _) (.list _))) = _
  rw [PyData.eqv, eqv_ints]
theorem gEq_ints (a b : List Int) : gEq (iL a) (iL b) = some (.bool (decide (a = b))) := by
  have e : gEq (iL a) (iL b) = if SeqAt.shaped (iL a) && SeqAt.shaped (iL b) then some (.bool (PyData.eqv (iL a) (iL b))) else none := rfl
  rw [e, shaped_ints, shaped_ints]
  show some (PyData.bool (PyData.eqv (.list _) (.list _))) = _
  rw [PyData.eqv, eqv_ints]
theorem after_app (a : Int) : ∀ (f : List Int) (l : List Int), after l ((f ++ [a]).map PyData.int) = exch (after l (f.map PyData.int)) a.toNat
  | [], l => rfl
  | x :: f, l => by
    rw [List.cons_append, List.map_cons, List.map_cons, after, after, after_app a f]
theorem walk_app (a : Int) : ∀ (f : List Int) (l : List Int), walk l ((f ++ [a]).map PyData.int) = (walk l (f.map PyData.int) && !decide ((after l (f.map PyData.int)).getD (a.toNat + 1) 0 < (after l (f.map PyData.int)).getD a.toNat 0))
  | [], l => by
    simp only [List.nil_append, List.map_cons, List.map_nil, walk, after, Bool.true_and]
    by_cases h : l.getD (a.toNat + 1) 0 < l.getD a.toNat 0 <;> simp [h]
  | x :: f, l => by
    rw [List.cons_append, List.map_cons, List.map_cons, walk, walk, after, walk_app a f]
    by_cases h : l.getD (x.toNat + 1) 0 < l.getD x.toNat 0
    · rw [if_pos h, if_pos h, Bool.false_and]
    · rw [if_neg h, if_neg h]
/-- a row under way -/
structure RowAt (m : Nat) (l f : List Int) : Prop where
  perm : l.Perm (rng m)
  aft : after (rng m) (f.map PyData.int) = l
  wlk : walk (rng m) (f.map PyData.int) = true
  inr : (f.map PyData.int).all (inR m) = true
  inv : inv l = f.length
theorem RowAt.step {m : Nat} {l f : List Int} (R : RowAt m l f) {i : Nat} (hi : i ∈ asc l (m - 1)) : RowAt m (exch l i) (f ++ [(i : Int)]) := by
  obtain ⟨h1, h2⟩ := asc_mem hi
  have hl : l.length = m := R.perm.length_eq.trans (rng_len m)
  have hi2 : i + 1 < l.length := by omega
  refine ⟨(exch_perm l i hi2).trans R.perm, ?_, ?_, ?_, ?_⟩
  · rw [after_app, R.aft, Int.toNat_natCast]
  · rw [walk_app, R.wlk, R.aft, Int.toNat_natCast, Bool.true_and, decide_eq_false (by omega)]; rfl
  · rw [List.map_append, List.all_append, R.inr, Bool.true_and]
    simp only [List.map_cons, List.map_nil, List.all_cons, List.all_nil, Bool.and_true, inR]
    simp; omega
  · rw [inv_exch l i hi2 h2, R.inv, List.length_append]; rfl
def rowT : C := .cmp .ne (.ov 2) (.rev (.lrg1 (.ov 1)))
def rowB : Ss := .cons (.set 4 (.callP 1 0 (.cons (.compIf (.nm 5) [5] (.rng1 (.cons (.bin .sub (.ov 1) (.k (.int 1))) .nil)) (.cmp .lt (.ix (.ov 2) (.ov 5)) (.ix (.ov 2) (.bin .add (.ov 5) (.k (.int 1))))) (.var 5)) .nil)))
  (.cons (.asg (.tp [.nm 3, .nm 2]) (.tup (.cons (.bin .add (.ov 3) (.lst (.cons (.var 4) .nil))) (.cons (.call 11 (.cons (.var 2) (.cons (.var 4) .nil)) .nil) .nil))))
  .nil)
theorem gIx_at {l : List Int} {i : Nat} (h : i + 1 < l.length) : gIx (iL l) (.int (0 + (i : Int))) = some (.int (l.getD i 0)) ∧ gIx (iL l) (.int (0 + (i : Int) + 1)) = some (.int (l.getD (i + 1) 0)) := by
  have e1 := gIx_nat l (i + 1) h
  have e2 := gIx_nat l i (by omega)
  simp only [Int.natCast_add, Int.natCast_one, Int.cast_ofNat_Int] at e1
  rw [Int.zero_add]
  exact ⟨e2, e1⟩
theorem ev_revl {F : Nat → Sm} : ev gm F (.rev (.lrg1 (.ov 1))) = mList (mRev (mList (mLRg1 (mOv 1)))) := by rw [ev, ev, ev]
theorem rev_at {M : Ms (List D)} {env : PV.Env} {p : List D} {l : List Int} (h : M env p = some (l.map PyData.int, p)) : mList (mRev (mList M)) env p = some (iL l.reverse, p) := by
  have e1 : mList M env p = some (.list (l.map PyData.int), p) := by unfold mList; rw [h]; rfl
  generalize mList M = M1 at e1 ⊢
  have e2 : mRev M1 env p = some ((l.map PyData.int).reverse, p) := by unfold mRev; rw [e1]
  rw [← List.map_reverse] at e2
  generalize mRev M1 = M2 at e2 ⊢
  unfold mList; rw [e2]; rfl
theorem ev_ov {F : Nat → Sm} (i : Nat) : ev gm F (.ov i) = mOv i := by rw [ev]
theorem ev_ne {F : Nat → Sm} (a b : C) : ev gm F (.cmp .ne a b) = m2 gNe (ev gm F a) (ev gm F b) := by rw [ev]; rfl
theorem ev_eq {F : Nat → Sm} (a b : C) : ev gm F (.cmp .eq a b) = m2 gEq (ev gm F a) (ev gm F b) := by rw [ev]; rfl
theorem mB_at {M : Ms D} {env : PV.Env} {p p' : List D} {b : Bool} (h : M env p = some (.bool b, p')) : mB M env p = some (b, p') := by unfold mB; rw [h]
theorem rowT_ok {F : Nat → Sm} {m : Nat} (h8 : m ≤ 8) (x0 x3 x4 x5 : Option Sl) (l : List Int) (p : List D) : mB (ev gm F rowT) [x0, some (.fro (.int (m : Int))), some (.fro (iL l)), x3, x4, x5] p = some (!decide (l = (rng m).reverse), p) := by
  have e : mList (mRev (mList (mLRg1 (mOv 1)))) [x0, some (.fro (.int (m : Int))), some (.fro (iL l)), x3, x4, x5] p = some (iL (rng m).reverse, p) := rev_at (lrg1_ov h8 rfl)
  unfold rowT
  rw [ev_ne, ev_revl, ev_ov]
  generalize mList (mRev (mList (mLRg1 (mOv 1)))) = M at e ⊢
  exact mB_at (m2_eq rfl e (gNe_ints l _))
theorem rowB_ok (W j : Nat) (hj : 3 ≤ j) {m : Nat} (h1 : 1 ≤ m) (h8 : m ≤ 8) (x4 x5 : Option Sl) {l f : List Int} (R : RowAt m l f) (hne : l ≠ (rng m).reverse) {n : Nat} (hn : n ≤ 10000) {p : List D} (hp : Pok n p) :
    ∃ (i : Nat) (p' : List D) (y4 : Option Sl), i ∈ asc l (m - 1) ∧ Pok (n + 1) p' ∧ exs gm (sem gm W tbl j) W rowB [some .pur, some (.fro (.int (m : Int))), some (.fro (iL l)), some (.fro (iL f)), x4, x5] p = some (.nx [some .pur, some (.fro (.int (m : Int))), some (.fro (iL (exch l i))), some (.fro (iL (f ++ [(i : Int)]))), y4, x5], p') := by
  have hl : l.length = m := R.perm.length_eq.trans (rng_len m)
  have hasc : 1 ≤ (asc l (m - 1)).length := by
    cases h : asc l (m - 1) with
    | nil => exact absurd (asc_nil h8 h1 R.perm h) hne
    | cons _ _ => simp
  have hasc2 : (asc l (m - 1)).length ≤ 7 := by
    have := List.length_filter_le (fun i => decide (l.getD i 0 < l.getD (i + 1) 0)) (List.range (m - 1))
    rw [List.length_range] at this
    unfold asc; omega
  obtain ⟨d, p', hd, hp', hone⟩ := sem_one_of W j hj ((asc l (m - 1)).map fun (i : Nat) => PyData.int (0 + (i : Int))) (by rw [List.length_map]; exact hasc) (by rw [List.length_map]; omega) n hn p hp
  obtain ⟨i, hi, rfl⟩ := List.mem_map.mp hd
  refine ⟨i, p', some (.fro (.int (0 + (i : Int)))), hi, hp', ?_⟩
  obtain ⟨hi1, hi2⟩ := asc_mem hi
  have hc : goC (.nm 5) [some Sl.pur, some (.fro (.int (m : Int))), some (.fro (iL l)), some (.fro (iL f)), x4, none] (mB (ev gm (sem gm W tbl j) (.cmp .lt (.ix (.ov 2) (.ov 5)) (.ix (.ov 2) (.bin .add (.ov 5) (.k (.int 1))))))) (ev gm (sem gm W tbl j) (.var 5)) (rgD 0 ((m : Int) - 1)) p = some ((asc l (m - 1)).map fun (i : Nat) => PyData.int (0 + (i : Int)), p) := by
    have e : rgD 0 ((m : Int) - 1) = (List.range (m - 1)).map fun (i : Nat) => PyData.int (0 + (i : Int)) := by
      unfold rgD
      have : ((m : Int) - 1 - 0).toNat = m - 1 := by omega
      rw [this]
    rw [e]
    have := goC_filter (T := .nm 5) (env := [some Sl.pur, some (.fro (.int (m : Int))), some (.fro (iL l)), some (.fro (iL f)), x4, none]) (mt := mB (ev gm (sem gm W tbl j) (.cmp .lt (.ix (.ov 2) (.ov 5)) (.ix (.ov 2) (.bin .add (.ov 5) (.k (.int 1)))))))
      (me := ev gm (sem gm W tbl j) (.var 5)) (fun d => match d with | .int a => decide (l.getD a.toNat 0 < l.getD (a.toNat + 1) 0) | _ => false) _root_.id ((List.range (m - 1)).map fun (i : Nat) => PyData.int (0 + (i : Int))) p fun d hd => ?_
    · rw [List.map_id, List.filter_map] at this
      rw [this]
      unfold asc
      congr 3
      apply List.filter_congr
      intro x _
      simp [Function.comp]
    · obtain ⟨x, hx, rfl⟩ := List.mem_map.mp hd
      rw [List.mem_range] at hx
      obtain ⟨g1, g2⟩ := gIx_at (l := l) (i := x) (by omega)
      refine ⟨_, rfl, ?_, rfl⟩
      simp only [g1, g2, runD, startE, exs, ex, evX, ev, evs, evI, mThen, mDone, mSet, mSet2, mAsg, mRet, mRetN, mRetV, mFrz, mIf, mExp, mB, mB_not, mB_and, mB_or, mNotB, mAndB, mOrB, mNotV, mAndV, mOrV, mNeg, mIfB, m2, gBop, gCop, gBlt, mK, mVar, mOv, mCons, mNil, mStar, mSz, mApp, mTup, mList, mFro, mOpn, mSl, toD, mCat, mCutL, mPart, mRev, mIsi, mIt, mEnum, mZip, mComp, mFor, mYes, mCallS, mCall, mCallT, mCallP, mPurIx, mPut, mApd, mPop, mPut2, mBits, permL, gAdd, PV.gSub, gLt, gLe, gGt, gGe, gLen, gInt, gMax2, gMin2, bT_nm, bT_tp, bA_nil, bA_cons, wipeE, shp_0, shp_1, shp_2, shp_3, shp_4, shp_5, shp_6, shp_7, shp_8, shp_9, shp_10, shp_11, shp_12, shp_13, shp_14, shp_15, shp_16, shp_17, shp_18, shp_19, shp_20, pshp_0, pshp_1, pshp_2, pshp_3, pshp_4, Bool.false_eq_true, if_false, if_true, ↓reduceIte, reduceCtorEq, List.map_cons, List.map_nil, List.nil_append, List.cons_append, List.append_nil, List.length_cons, List.length_nil, List.getElem?_cons_zero, List.getElem?_cons_succ, List.getElem?_nil, List.set_cons_zero, List.set_cons_succ, List.isEmpty_nil, List.isEmpty_cons, List.any_cons, List.any_nil, List.filterMap_cons, List.filterMap_nil, List.replicate_succ, List.replicate_zero, Option.bind_some, Option.bind_none, Option.map_some, Option.map_none, Nat.reduceAdd, Nat.reduceSub, Nat.reduceLeDiff, Nat.zero_add, Nat.add_zero, and_self, and_true, true_and, Bool.not_true, Bool.not_false, Bool.or_false, Bool.false_or, Bool.or_true, Bool.true_or, List.length_map]
      simp
  have hr : mRng1 (mCons (m2 PV.gSub (mOv 1) (mK (.int 1))) mNil) [some Sl.pur, some (.fro (.int (m : Int))), some (.fro (iL l)), some (.fro (iL f)), x4, x5] p = some (rgD 0 ((m : Int) - 1), p) := by
    refine rng1_eq ?_ (by omega)
    simp only [runD, startE, exs, ex, evX, ev, evs, evI, mThen, mDone, mSet, mSet2, mAsg, mRet, mRetN, mRetV, mFrz, mIf, mExp, mB, mB_not, mB_and, mB_or, mNotB, mAndB, mOrB, mNotV, mAndV, mOrV, mNeg, mIfB, m2, gBop, gCop, gBlt, mK, mVar, mOv, mCons, mNil, mStar, mSz, mApp, mTup, mList, mFro, mOpn, mSl, toD, mCat, mCutL, mPart, mRev, mIsi, mIt, mEnum, mZip, mComp, mFor, mYes, mCallS, mCall, mCallT, mCallP, mPurIx, mPut, mApd, mPop, mPut2, mBits, permL, gAdd, PV.gSub, gLt, gLe, gGt, gGe, gLen, gInt, gMax2, gMin2, bT_nm, bT_tp, bA_nil, bA_cons, wipeE, shp_0, shp_1, shp_2, shp_3, shp_4, shp_5, shp_6, shp_7, shp_8, shp_9, shp_10, shp_11, shp_12, shp_13, shp_14, shp_15, shp_16, shp_17, shp_18, shp_19, shp_20, pshp_0, pshp_1, pshp_2, pshp_3, pshp_4, Bool.false_eq_true, if_false, if_true, ↓reduceIte, reduceCtorEq, List.map_cons, List.map_nil, List.nil_append, List.cons_append, List.append_nil, List.length_cons, List.length_nil, List.getElem?_cons_zero, List.getElem?_cons_succ, List.getElem?_nil, List.set_cons_zero, List.set_cons_succ, List.isEmpty_nil, List.isEmpty_cons, List.any_cons, List.any_nil, List.filterMap_cons, List.filterMap_nil, List.replicate_succ, List.replicate_zero, Option.bind_some, Option.bind_none, Option.map_some, Option.map_none, Nat.reduceAdd, Nat.reduceSub, Nat.reduceLeDiff, Nat.zero_add, Nat.add_zero, and_self, and_true, true_and, Bool.not_true, Bool.not_false, Bool.or_false, Bool.false_or, Bool.or_true, Bool.true_or, List.length_map]
  have hrl : (rgD 0 ((m : Int) - 1)).length ≤ sizeMax := small _ (by unfold rgD; rw [List.length_map, List.length_range]; omega)
  have hx := sem_lexchanged W j (by omega) l i (by omega) (by omega)
  have hz : (0 : Int) + (i : Int) = (i : Int) := Int.zero_add _
  have hf : f.length ≤ 28 := by
    have := inv_le l
    rw [R.inv, hl] at this
    have h28 : tri m ≤ 28 := by
      have : m = 1 ∨ m = 2 ∨ m = 3 ∨ m = 4 ∨ m = 5 ∨ m = 6 ∨ m = 7 ∨ m = 8 := by omega
      rcases this with rfl | rfl | rfl | rfl | rfl | rfl | rfl | rfl <;> decide
    omega
  have hf1 := szT (f.length + 1) (by omega)
  have s1 := szT 1 (by decide)
  have s2 := szT 2 (by decide)
  have happ : iL (f ++ [(i : Int)]) = .list (f.map PyData.int ++ [PyData.int (i : Int)]) := by simp [iL]
  rw [happ]
  simp only [rowB, exs, ex, evX, ev, evs, evI, gBop, gCop, gBlt]
  simp only [exs, ex, evX, ev, evs, evI, gBop, gCop, gBlt] at hc
  generalize mRng1 (mCons (m2 PV.gSub (mOv 1) (mK (.int 1))) mNil) = M at hr ⊢
  generalize rgD 0 ((m : Int) - 1) = rl at hr hc hrl
  generalize (asc l (m - 1)).map (fun (i : Nat) => PyData.int (0 + (i : Int))) = al at hc hone
  simp only [hr, if_pos hrl, hc, hone, hz, hx, hf1, s1, s2, runD, startE, exs, ex, evX, ev, evs, evI, mThen, mDone, mSet, mSet2, mAsg, mRet, mRetN, mRetV, mFrz, mIf, mExp, mB, mB_not, mB_and, mB_or, mNotB, mAndB, mOrB, mNotV, mAndV, mOrV, mNeg, mIfB, m2, gBop, gCop, gBlt, mK, mVar, mOv, mCons, mNil, mStar, mSz, mApp, mTup, mList, mFro, mOpn, mSl, toD, mCat, mCutL, mPart, mRev, mIsi, mIt, mEnum, mZip, mComp, mFor, mYes, mCallS, mCall, mCallT, mCallP, mPurIx, mPut, mApd, mPop, mPut2, mBits, permL, gAdd, PV.gSub, gLt, gLe, gGt, gGe, gLen, gInt, gMax2, gMin2, bT_nm, bT_tp, bA_nil, bA_cons, wipeE, shp_0, shp_1, shp_2, shp_3, shp_4, shp_5, shp_6, shp_7, shp_8, shp_9, shp_10, shp_11, shp_12, shp_13, shp_14, shp_15, shp_16, shp_17, shp_18, shp_19, shp_20, pshp_0, pshp_1, pshp_2, pshp_3, pshp_4, Bool.false_eq_true, if_false, if_true, ↓reduceIte, reduceCtorEq, List.map_cons, List.map_nil, List.nil_append, List.cons_append, List.append_nil, List.length_cons, List.length_nil, List.getElem?_cons_zero, List.getElem?_cons_succ, List.getElem?_nil, List.set_cons_zero, List.set_cons_succ, List.isEmpty_nil, List.isEmpty_cons, List.any_cons, List.any_nil, List.filterMap_cons, List.filterMap_nil, List.replicate_succ, List.replicate_zero, Option.bind_some, Option.bind_none, Option.map_some, Option.map_none, Nat.reduceAdd, Nat.reduceSub, Nat.reduceLeDiff, Nat.zero_add, Nat.add_zero, and_self, and_true, true_and, Bool.not_true, Bool.not_false, Bool.or_false, Bool.false_or, Bool.or_true, Bool.true_or, List.length_map]
end K73

set_option Elab.async false
set_option linter.all false
set_option maxRecDepth 100000
set_option maxHeartbeats 8000000
namespace K73
open PySem PySem.Spec L2 PV
open PyProof.Rows hiding St cutD

theorem row_loop (W j : Nat) (hj : 3 ≤ j) {m : Nat} (h1 : 1 ≤ m) (h8 : m ≤ 8) : ∀ (d : Nat) (l f : List Int) (x4 x5 : Option Sl) (n : Nat) (p : List D) (c : Nat), RowAt m l f → inv l + d = tri m → Pok n p → n + d ≤ 10000 → d < c →
    ∃ (f' : List Int) (y4 y5 : Option Sl) (p' : List D), RowAt m (rng m).reverse f' ∧ Pok (n + d) p' ∧ goW (mB (ev gm (sem gm W tbl j) rowT)) (exs gm (sem gm W tbl j) W rowB) c [some .pur, some (.fro (.int (m : Int))), some (.fro (iL l)), some (.fro (iL f)), x4, x5] p
      = some (.nx [some .pur, some (.fro (.int (m : Int))), some (.fro (iL (rng m).reverse)), some (.fro (iL f')), y4, y5], p')
  | d, l, f, x4, x5, n, p, 0, R, hi, hp, hn, hc => absurd hc (Nat.not_lt_zero _)
  | d, l, f, x4, x5, n, p, c + 1, R, hi, hp, hn, hc => by
    by_cases he : l = (rng m).reverse
    · subst he
      have h0 := inv_rev m h8
      have : d = 0 := by omega
      subst this
      refine ⟨f, x4, x5, p, R, hp, ?_⟩
      rw [goW]
      simp only [rowT_ok h8, decide_true, Bool.not_true]
    · obtain ⟨i, p1, y4, hia, hp1, hb⟩ := rowB_ok W j hj h1 h8 x4 x5 R he (n := n) (by omega) hp
      have R2 := R.step hia
      have hle := inv_le (exch l i)
      have hl : (exch l i).length = m := R2.perm.length_eq.trans (rng_len m)
      have hinv : inv (exch l i) = inv l + 1 := by rw [R2.inv, R.inv, List.length_append]; rfl
      rw [hl] at hle
      obtain ⟨d', rfl⟩ : ∃ d', d = d' + 1 := ⟨d - 1, by omega⟩
      obtain ⟨f', z4, z5, p', R3, hp3, hg⟩ := row_loop W j hj h1 h8 d' (exch l i) (f ++ [(i : Int)]) y4 x5 (n + 1) p1 c R2 (by omega) hp1 (by omega) (by omega)
      refine ⟨f', z4, z5, p', R3, by have : n + 1 + d' = n + (d' + 1) := by omega
                                     rw [← this]; exact hp3, ?_⟩
      rw [goW]
      simp only [rowT_ok h8, decide_eq_false he, Bool.not_false, hb, hg]
theorem tri28 {m : Nat} (h8 : m ≤ 8) : tri m ≤ 28 := by
  have : m = 0 ∨ m = 1 ∨ m = 2 ∨ m = 3 ∨ m = 4 ∨ m = 5 ∨ m = 6 ∨ m = 7 ∨ m = 8 := by omega
  rcases this with rfl | rfl | rfl | rfl | rfl | rfl | rfl | rfl | rfl <;> decide
theorem RowAt.nil {m : Nat} (h8 : m ≤ 8) : RowAt m (rng m) [] := ⟨List.Perm.refl _, rfl, rfl, rfl, inv_rng m h8⟩
theorem sem_law_row (W k : Nat) (hk : 4 ≤ k) (hW : 100 ≤ W) {m : Nat} (h1 : 1 ≤ m) (h8 : m ≤ 8) {n : Nat} (hn : n ≤ 5000) {p : List D} (hp : Pok n p) :
    ∃ (f : List Int) (p' : List D), RowAt m (rng m).reverse f ∧ Pok (n + tri m) p' ∧ sem gm W tbl k 17 [.int (m : Int)] p = some (.fro (iL f), p') := by
  obtain ⟨j, rfl⟩ : ∃ j, k = j + 1 := ⟨k - 1, by omega⟩
  have ht := tri28 h8
  obtain ⟨f, y4, y5, p', R, hp', hg⟩ := row_loop W j (by omega) h1 h8 (tri m) (rng m) [] none none n p W (RowAt.nil h8) (by rw [inv_rng m h8]; omega) hp (by omega) (by omega)
  refine ⟨f, p', R, hp', ?_⟩
  show runD gm (sem gm W tbl j) W d__law_row [.int (m : Int)] p = _
  refine run_rt (f := d__law_row) ?_
  rw [d__law_row, b__law_row]
  have h0 : ex gm (sem gm W tbl j) W (.asg (.tp [.nm 2, .nm 3]) (.tup (.cons (.lrg1 (.ov 1)) (.cons (.lst .nil) .nil)))) [some .pur, some (.fro (.int (m : Int))), none, none, none, none] p
      = some (.nx [some .pur, some (.fro (.int (m : Int))), some (.fro (iL (rng m))), some (.fro (iL [])), none, none], p) := by
    have e0 : mLRg1 (mOv 1) [some .pur, some (.fro (.int (m : Int))), none, none, none, none] p = some ((rng m).map PyData.int, p) := lrg1_ov h8 rfl
    have s0 := szT 0 (by decide)
    have s2 := szT 2 (by decide)
    simp only [exs, ex, evX, ev, evs, evI, gBop, gCop, gBlt]
    generalize mLRg1 (mOv 1) = M at e0 ⊢
    simp only [e0, s0, s2, runD, startE, exs, ex, evX, ev, evs, evI, mThen, mDone, mSet, mSet2, mAsg, mRet, mRetN, mRetV, mFrz, mIf, mExp, mB, mB_not, mB_and, mB_or, mNotB, mAndB, mOrB, mNotV, mAndV, mOrV, mNeg, mIfB, m2, gBop, gCop, gBlt, mK, mVar, mOv, mCons, mNil, mStar, mSz, mApp, mTup, mList, mFro, mOpn, mSl, toD, mCat, mCutL, mPart, mRev, mIsi, mIt, mEnum, mZip, mComp, mFor, mYes, mCallS, mCall, mCallT, mCallP, mPurIx, mPut, mApd, mPop, mPut2, mBits, permL, gAdd, PV.gSub, gLt, gLe, gGt, gGe, gLen, gInt, gMax2, gMin2, bT_nm, bT_tp, bA_nil, bA_cons, wipeE, shp_0, shp_1, shp_2, shp_3, shp_4, shp_5, shp_6, shp_7, shp_8, shp_9, shp_10, shp_11, shp_12, shp_13, shp_14, shp_15, shp_16, shp_17, shp_18, shp_19, shp_20, pshp_0, pshp_1, pshp_2, pshp_3, pshp_4, Bool.false_eq_true, if_false, if_true, ↓reduceIte, reduceCtorEq, List.map_cons, List.map_nil, List.nil_append, List.cons_append, List.append_nil, List.length_cons, List.length_nil, List.getElem?_cons_zero, List.getElem?_cons_succ, List.getElem?_nil, List.set_cons_zero, List.set_cons_succ, List.isEmpty_nil, List.isEmpty_cons, List.any_cons, List.any_nil, List.filterMap_cons, List.filterMap_nil, List.replicate_succ, List.replicate_zero, Option.bind_some, Option.bind_none, Option.map_some, Option.map_none, Nat.reduceAdd, Nat.reduceSub, Nat.reduceLeDiff, Nat.zero_add, Nat.add_zero, and_self, and_true, true_and, Bool.not_true, Bool.not_false, Bool.or_false, Bool.false_or, Bool.or_true, Bool.true_or, List.length_map]
    rfl
  have h2 : ex gm (sem gm W tbl j) W (.while rowT rowB) [some .pur, some (.fro (.int (m : Int))), some (.fro (iL (rng m))), some (.fro (iL [])), none, none] p
      = some (.nx [some .pur, some (.fro (.int (m : Int))), some (.fro (iL (rng m).reverse)), some (.fro (iL f)), y4, y5], p') := by
    rw [ex]
    exact hg
  refine (exs_nx h0).trans ((exs_nx h2).trans ?_)
  simp only [runD, startE, exs, ex, evX, ev, evs, evI, mThen, mDone, mSet, mSet2, mAsg, mRet, mRetN, mRetV, mFrz, mIf, mExp, mB, mB_not, mB_and, mB_or, mNotB, mAndB, mOrB, mNotV, mAndV, mOrV, mNeg, mIfB, m2, gBop, gCop, gBlt, mK, mVar, mOv, mCons, mNil, mStar, mSz, mApp, mTup, mList, mFro, mOpn, mSl, toD, mCat, mCutL, mPart, mRev, mIsi, mIt, mEnum, mZip, mComp, mFor, mYes, mCallS, mCall, mCallT, mCallP, mPurIx, mPut, mApd, mPop, mPut2, mBits, permL, gAdd, PV.gSub, gLt, gLe, gGt, gGe, gLen, gInt, gMax2, gMin2, bT_nm, bT_tp, bA_nil, bA_cons, wipeE, shp_0, shp_1, shp_2, shp_3, shp_4, shp_5, shp_6, shp_7, shp_8, shp_9, shp_10, shp_11, shp_12, shp_13, shp_14, shp_15, shp_16, shp_17, shp_18, shp_19, shp_20, pshp_0, pshp_1, pshp_2, pshp_3, pshp_4, Bool.false_eq_true, if_false, if_true, ↓reduceIte, reduceCtorEq, List.map_cons, List.map_nil, List.nil_append, List.cons_append, List.append_nil, List.length_cons, List.length_nil, List.getElem?_cons_zero, List.getElem?_cons_succ, List.getElem?_nil, List.set_cons_zero, List.set_cons_succ, List.isEmpty_nil, List.isEmpty_cons, List.any_cons, List.any_nil, List.filterMap_cons, List.filterMap_nil, List.replicate_succ, List.replicate_zero, Option.bind_some, Option.bind_none, Option.map_some, Option.map_none, Nat.reduceAdd, Nat.reduceSub, Nat.reduceLeDiff, Nat.zero_add, Nat.add_zero, and_self, and_true, true_and, Bool.not_true, Bool.not_false, Bool.or_false, Bool.false_or, Bool.or_true, Bool.true_or, List.length_map]
theorem RowAt.ok {m : Nat} (h8 : m ≤ 8) {f : List Int} (R : RowAt m (rng m).reverse f) : f.length = tri m ∧ rowP m (iL f) = true := by
  have hl : f.length = tri m := by rw [← R.inv, inv_rev m h8]
  refine ⟨hl, ?_⟩
  show (decide ((f.map PyData.int).length = tri m) && (f.map PyData.int).all (inR m) && walk (rng m) (f.map PyData.int)) = true
  rw [R.inr, R.wlk, List.length_map, decide_eq_true hl]; rfl
end K73

set_option Elab.async false
set_option linter.all false
set_option maxRecDepth 100000
set_option maxHeartbeats 8000000
namespace K73
open PySem PySem.Spec L2 PV
open PyProof.Rows hiding St cutD

structure VOk (v : D) : Prop where
  rep : ∃ s, gRepr [v] = some (.str s) ∧ PyData.strOk s = true
  shp : ∀ ds, v = .list ds → SeqAt.shaped (.list (ds.filter fun d => !isInt d)) = true
def sts8 : List Str := ["0", "1", "2", "3", "4", "5", "6", "7", "8"]
def el : D → Bool
  | .none => true
  | .bool _ => true
  | .int i => decide (-100 ≤ i) && decide (i ≤ 100)
  | .str s => sts8.contains s
  | _ => false
theorem int_len : ∀ n : Nat, n ≤ 200 → (PyData.shown (.int ((n : Int) - 100))).length ≤ 20 := by decide +kernel
theorem str_len : ∀ s ∈ sts8, (PyData.shown (.str s)).length ≤ 20 := by decide +kernel
theorem int_so : ∀ n : Nat, n ≤ 200 → PyData.strOk (PyData.shown (.int ((n : Int) - 100))) = true := by decide +kernel
theorem str_so : ∀ s ∈ sts8, PyData.strOk (PyData.shown (.str s)) = true := by decide +kernel
theorem strOk_app (x y : Str) (hx : PyData.strOk x = true) (hy : PyData.strOk y = true) : PyData.strOk (x ++ y) = true := by
  have e : (x ++ y).cps = x.cps ++ y.cps := rfl
  unfold PyData.strOk at hx hy ⊢
  rw [e, Array.all_append, hx, hy]; rfl
theorem str_lay : ∀ s ∈ sts8, PyData.canLay0 (.str s) = true := by decide +kernel
theorem el_len {d : D} (h : el d = true) : (PyData.shown d).length ≤ 20 := by
  cases d with
  | none => decide +kernel
  | bool b => cases b <;> decide +kernel
  | int i =>
    unfold el at h
    simp only [Bool.and_eq_true, decide_eq_true_eq] at h
    have := int_len (i + 100).toNat (by omega)
    have e : ((i + 100).toNat : Int) - 100 = i := by omega
    rwa [e] at this
  | str s => exact str_len s (by simpa [el] using h)
  | _ => cases h
theorem el_so {d : D} (h : el d = true) : PyData.strOk (PyData.shown d) = true := by
  cases d with
  | none => decide +kernel
  | bool b => cases b <;> decide +kernel
  | int i =>
    unfold el at h
    simp only [Bool.and_eq_true, decide_eq_true_eq] at h
    have := int_so (i + 100).toNat (by omega)
    have e : ((i + 100).toNat : Int) - 100 = i := by omega
    rwa [e] at this
  | str s => exact str_so s (by simpa [el] using h)
  | _ => cases h
theorem text_so : ∀ (ds : List D) (k : Nat) (acc : Str), ds.all el = true → PyData.strOk acc = true → PyData.strOk (textFrom k acc (PyData.shownAll ds)) = true
  | [], k, acc, _, ha => by rw [PyData.shownAll, textFrom]; exact ha
  | d :: ds, k, acc, h, ha => by
    rw [List.all_cons, Bool.and_eq_true] at h
    rw [PyData.shownAll, textFrom]
    refine text_so ds (k + 1) _ h.2 (strOk_app _ _ (strOk_app _ _ ha ?_) (el_so h.1))
    by_cases hk : k > 0
    · rw [if_pos hk]; decide +kernel
    · rw [if_neg hk]; decide +kernel
theorem el_show {d : D} (h : el d = true) : d.showable = true ∧ d.hasDict = false ∧ d.depth = 0 ∧ d.canLay0 = true := by
  cases d with
  | none => exact ⟨rfl, rfl, rfl, rfl⟩
  | bool b => exact ⟨rfl, rfl, rfl, rfl⟩
  | int i =>
    unfold el at h
    simp only [Bool.and_eq_true, decide_eq_true_eq] at h
    refine ⟨?_, rfl, rfl, rfl⟩
    show decide (i.natAbs.log2 < 1920) = true
    have : i.natAbs.log2 < 10 := log_lt (Nat.lt_of_lt_of_le (show i.natAbs < 101 by omega) (by decide)) (by decide)
    simp; omega
  | str s => exact ⟨rfl, rfl, rfl, str_lay s (by simpa [el] using h)⟩
  | _ => cases h
theorem els_show : ∀ {ds : List D}, ds.all el = true → PyData.showableAll ds = true ∧ PyData.hasDictAll ds = false ∧ PyData.depthAll ds = 0 ∧ PyData.canLayAll0 ds = true
  | [], _ => ⟨rfl, rfl, rfl, rfl⟩
  | d :: ds, h => by
    rw [List.all_cons, Bool.and_eq_true] at h
    obtain ⟨a1, a2, a3, a4⟩ := el_show h.1
    obtain ⟨b1, b2, b3, b4⟩ := els_show h.2
    refine ⟨?_, ?_, ?_, ?_⟩
    · rw [PyData.showableAll, a1, b1]; rfl
    · rw [PyData.hasDictAll, a2, b2]; rfl
    · rw [PyData.depthAll, a3, b3]; rfl
    · rw [PyData.canLayAll0, a4, b4]; rfl
theorem text_le : ∀ (ds : List D) (k : Nat) (acc : Str), ds.all el = true → (textFrom k acc (PyData.shownAll ds)).length ≤ acc.length + 22 * ds.length
  | [], k, acc, _ => by
    rw [PyData.shownAll, textFrom]; omega
  | d :: ds, k, acc, h => by
    rw [List.all_cons, Bool.and_eq_true] at h
    rw [PyData.shownAll, textFrom]
    have := text_le ds (k + 1) (acc ++ (if k > 0 then ", " else "" : String) ++ PyData.shown d) h.2
    have h1 := el_len h.1
    have h2 : ((if k > 0 then ", " else "" : String) : Str).length ≤ 2 := by
      by_cases hk : k > 0
      · rw [if_pos hk]; decide +kernel
      · rw [if_neg hk]; decide +kernel
    rw [strLen_append, strLen_append] at this
    rw [List.length_cons]
    omega
theorem vok_list {ds : List D} (h : ds.all el = true) (hl : ds.length ≤ 100) : VOk (.list ds) := by
  obtain ⟨a1, a2, a3, a4⟩ := els_show h
  have hr : reprOk (.list ds) = true := by
    unfold reprOk
    have h1 : PyData.showable (.list ds) = true := by rw [PyData.showable]; exact a1
    have h2 : PyData.hasDict (.list ds) = false := by rw [PyData.hasDict]; exact a2
    have h3 : PyData.depth (.list ds) ≤ 60 := by rw [PyData.depth, a3]; decide
    have h4 : (PyData.shown (.list ds)).length ≤ sizeMax := by
      rw [PyData.shown]
      unfold listText
      have := text_le ds 0 ("[" : Str) h
      have e1 : ("[" : Str).length = 1 := by decide +kernel
      have e2 : ("]" : Str).length = 1 := by decide +kernel
      rw [strLen_append, e2]
      rw [e1] at this
      exact Nat.le_trans (show _ ≤ 3000 by omega) (by decide)
    rw [h1, h2, decide_eq_true h3, decide_eq_true h4]; rfl
  refine ⟨⟨PyData.shown (.list ds), ?_, ?_⟩, fun es e => ?_⟩
  · show (if reprOk (.list ds) then some (PyData.str (PyData.shown (.list ds))) else none) = _
    rw [if_pos hr]
  · rw [PyData.shown]
    exact strOk_app _ _ (text_so ds 0 _ h (by decide +kernel)) (by decide +kernel)
  · cases e
    have hf : (ds.filter fun d => !isInt d).all el = true := by
      rw [List.all_eq_true] at h ⊢
      exact fun x hx => h x (List.mem_filter.mp hx).1
    obtain ⟨_, _, b3, b4⟩ := els_show hf
    unfold SeqAt.shaped
    rw [Bool.and_eq_true, decide_eq_true_eq]
    refine ⟨b4, ?_⟩
    show PyData.depth (.list _) ≤ 64
    rw [PyData.depth, b3]; decide
/-- a look at a value -/
def vokB (v : D) : Bool := PyData.strOk (PyData.shown v) && (match v with | .dict [] => true | v => reprOk v) && (match v with | .list ds => SeqAt.shaped (.list (ds.filter fun d => !isInt d)) | _ => true)
theorem vok_by {v : D} (h : vokB v = true) : VOk v := by
  unfold vokB at h
  rw [Bool.and_eq_true, Bool.and_eq_true] at h
  obtain ⟨⟨hso, h⟩, h2⟩ := h
  refine ⟨?_, fun ds e => ?_⟩
  · cases v with
    | dict kvs =>
      cases kvs with
      | nil => exact ⟨_, rfl, hso⟩
      | cons a b => exact ⟨PyData.shown (.dict (a :: b)), if_pos (e := none) h, hso⟩
    | none => exact ⟨PyData.shown .none, if_pos (e := none) h, hso⟩
    | bool b => exact ⟨PyData.shown (.bool b), if_pos (e := none) h, hso⟩
    | int b => exact ⟨PyData.shown (.int b), if_pos (e := none) h, hso⟩
    | str b => exact ⟨PyData.shown (.str b), if_pos (e := none) h, hso⟩
    | list b => exact ⟨PyData.shown (.list b), if_pos (e := none) h, hso⟩
    | tuple b => exact ⟨PyData.shown (.tuple b), if_pos (e := none) h, hso⟩
  · subst e
    exact h2
end K73

set_option Elab.async false
set_option linter.all false
set_option maxRecDepth 100000
set_option maxHeartbeats 8000000
namespace K73
open PySem PySem.Spec L2 PV
open PyProof.Rows hiding St cutD

theorem ev_add {F : Nat → Sm} (a b : C) : ev gm F (.bin .add a b) = m2 gAdd (ev gm F a) (ev gm F b) := by rw [ev]; rfl
theorem ev_lrg1 {F : Nat → Sm} (a : C) : ev gm F (.lrg1 a) = mList (mLRg1 (ev gm F a)) := by rw [ev]
theorem gAdd_L (xs ys : List D) (h : xs.length + ys.length ≤ 1000) : gAdd (.list xs) (.list ys) = some (.list (xs ++ ys)) := if_pos (e := none) (small _ h)
theorem mList_at {M : Ms (List D)} {env : PV.Env} {p p' : List D} {ds : List D} (h : M env p = some (ds, p')) : mList M env p = some (.list ds, p') := by unfold mList; rw [h]; rfl
theorem set_at {G : Gm} {F : Nat → Sm} {W : Nat} {i : Nat} {c : C} {env : PV.Env} {p p' : List D} {d : D} (h : ev G F c env p = some (d, p')) : ex G F W (.set i c) env p = some (.nx (List.set env i (some (.fro d))), p') := by
  rw [ex]; unfold mSet mFro; rw [h]; rfl
theorem hb1 (W j : Nat) (x0 x3 : Option Sl) (p : List D) (r : List Int) (k : Nat) (hk : k ≤ 8) (hl : r.length ≤ 900) : exs gm (sem gm W tbl j) W (.cons (.set 1 (.bin .add (.ov 1) (.lrg1 (.ov 2)))) .nil) [x0, some (.fro (iL r)), some (.fro (.int (k : Int))), x3] p = some (.nx [x0, some (.fro (iL (r ++ rng k))), some (.fro (.int (k : Int))), x3], p) := by
  have e0 : mLRg1 (mOv 2) [x0, some (.fro (iL r)), some (.fro (.int (k : Int))), x3] p = some ((rng k).map PyData.int, p) := lrg1_ov hk rfl
  have e1 : ev gm (sem gm W tbl j) (.bin .add (.ov 1) (.lrg1 (.ov 2))) [x0, some (.fro (iL r)), some (.fro (.int (k : Int))), x3] p = some (.list (r.map PyData.int ++ (rng k).map PyData.int), p) := by
    rw [ev_add, ev_lrg1, ev_ov, ev_ov]
    generalize mLRg1 (mOv 2) = M at e0 ⊢
    exact m2_eq rfl (mList_at e0) (gAdd_L _ _ (by rw [List.length_map, List.length_map, rng_len]; omega))
  rw [exs_nx (set_at e1), exs]
  unfold mDone
  show some (Out.nx [x0, some (.fro (.list (r.map PyData.int ++ (rng k).map PyData.int))), some (.fro (.int (k : Int))), x3], p) = _
  rw [← List.map_append]
theorem hbt1 (x0 x2 x3 : Option Sl) (r : List Int) (k : Nat) : bindT (.nm 2) (.int (k : Int)) [x0, some (.fro (iL r)), x2, x3] = some [x0, some (.fro (iL r)), some (.fro (.int (k : Int))), x3] := by rw [bT_nm]; rfl
theorem goF_nx {T : Tg} {b : Mt} {d : D} {ds : List D} {env e1 e2 : PV.Env} {p p2 : List D} (h1 : bindT T d env = some e1) (h2 : b e1 p = some (.nx e2, p2)) : goF T b (d :: ds) env p = goF T b ds e2 p2 := by
  rw [goF]; simp only [h1, h2]
section
variable {F : Nat → Sm} {W : Nat} {env : PV.Env} {p p1 p2 p3 : List D}
theorem e_nil : evs gm F .nil env p = some ([], p) := by rw [evs]; rfl
theorem e_cons {a : C} {r : Cs} {x : D} {xs : List D} (h1 : ev gm F a env p = some (x, p1)) (h2 : evs gm F r env p1 = some (xs, p2)) : evs gm F (.cons a r) env p = some (x :: xs, p2) := by rw [evs]; exact mCons_eq h1 h2
theorem e_lst {es : Cs} {ds : List D} (h : evs gm F es env p = some (ds, p1)) (hl : ds.length ≤ 1000) : ev gm F (.lst es) env p = some (.list ds, p1) := by
  rw [ev]
  refine mList_at ?_
  unfold mSz
  rw [h]
  exact if_pos (e := none) (small _ hl)
theorem e_add {a b : C} {xs ys : List D} (h1 : ev gm F a env p = some (.list xs, p1)) (h2 : ev gm F b env p1 = some (.list ys, p2)) (hl : xs.length + ys.length ≤ 1000) : ev gm F (.bin .add a b) env p = some (.list (xs ++ ys), p2) := by
  rw [ev_add]; exact m2_eq h1 h2 (gAdd_L xs ys hl)
theorem e_addI {a b : C} {x y : Int} (h1 : ev gm F a env p = some (.int x, p1)) (h2 : ev gm F b env p1 = some (.int y, p2)) : ev gm F (.bin .add a b) env p = some (.int (x + y), p2) := by
  rw [ev_add]; exact m2_eq h1 h2 rfl
theorem ev_sub (a b : C) : ev gm F (.bin .sub a b) = m2 PV.gSub (ev gm F a) (ev gm F b) := by rw [ev]; rfl
theorem ev_mul (a b : C) : ev gm F (.bin .mul a b) = m2 gMul (ev gm F a) (ev gm F b) := by rw [ev]; rfl
theorem ev_ix (a b : C) : ev gm F (.ix a b) = m2 gIx (ev gm F a) (ev gm F b) := by rw [ev]
theorem e_sub {a b : C} {x y : Int} (h1 : ev gm F a env p = some (.int x, p1)) (h2 : ev gm F b env p1 = some (.int y, p2)) : ev gm F (.bin .sub a b) env p = some (.int (x - y), p2) := by
  rw [ev_sub]; exact m2_eq h1 h2 rfl
theorem e_cutL {a lo : C} {xs : List D} {i : Int} (h1 : ev gm F a env p = some (.list xs, p1)) (h2 : ev gm F lo env p1 = some (.int i, p2)) : ev gm F (.cutL a lo) env p = some (.list (cutD xs (some i) none), p2) := by
  rw [ev]
  refine mList_at ?_
  unfold mCutL mPart
  rw [h1]
  simp only [h2, Option.bind_some, Option.map_some]
theorem e_cutH {a hi : C} {xs : List D} {i : Int} (h1 : ev gm F a env p = some (.list xs, p1)) (h2 : ev gm F hi env p1 = some (.int i, p2)) : ev gm F (.cutH a hi) env p = some (.list (cutD xs none (some i)), p2) := by
  rw [ev]
  refine mList_at ?_
  unfold mCutL mPart
  rw [h1]
  simp only [h2, Option.bind_some, Option.map_some]
theorem e_k (d : D) : ev gm F (.k d) env p = some (d, p) := by rw [ev]; rfl
theorem e_ov {i : Nat} {d : D} (h : (env : List (Option Sl))[i]? = some (some (.fro d))) : ev gm F (.ov i) env p = some (d, p) := by
  rw [ev_ov]; unfold mOv; rw [h]
theorem e_var {i : Nat} {d : D} (h : (env : List (Option Sl))[i]? = some (some (.fro d))) : ev gm F (.var i) env p = some (d, p) := by
  rw [ev]; unfold mVar; rw [h]
theorem e_tup0 : ev gm F (.tup .nil) env p = some (.tuple [], p) := by
  rw [ev, evs]; rfl
theorem e_edict : ev gm F .edict env p = some (.dict [], p) := by rw [ev]; rfl
theorem e_neg1 : ev gm F (.neg (.k (.int 1))) env p = some (.int (-1), p) := by rw [ev, ev]; rfl
theorem e_len {a : C} {xs : List D} (h : ev gm F a env p = some (.list xs, p1)) : ev gm F (.app .len (.cons a .nil)) env p = some (.int xs.length, p1) := by
  rw [ev]; exact mApp_eq (e_cons h e_nil) rfl
theorem e_tuple {a : C} {xs : List D} (h : ev gm F a env p = some (.list xs, p1)) : ev gm F (.app .tuple (.cons a .nil)) env p = some (.tuple xs, p1) := by
  rw [ev]; exact mApp_eq (e_cons h e_nil) rfl
theorem ret_cat {a b : C} {xs ys : List D} (h1 : ev gm F a env p = some (.list xs, p1)) (h2 : ev gm F b env p1 = some (.list ys, p2)) (hl : xs.length + ys.length ≤ 1000) : ex gm F W (.ret (.cat a b)) env p = some (.rt (.opn (xs ++ ys)), p2) := by
  rw [ex, evX]
  unfold mRet mOpn mCat
  rw [h1]
  simp only [h2, if_pos (small _ hl)]
  rfl
end
theorem ncat_loop (W j : Nat) (x0 x3 : Option Sl) (p : List D) : ∀ (ls : List Nat) (r : List Int) (x2 : Option Sl), (∀ k ∈ ls, k ≤ 8) → r.length + 8 * ls.length ≤ 900 →
    ∃ y2, goF (.nm 2) (exs gm (sem gm W tbl j) W (.cons (.set 1 (.bin .add (.ov 1) (.lrg1 (.ov 2)))) .nil)) (ls.map fun (k : Nat) => PyData.int (k : Int)) [x0, some (.fro (iL r)), x2, x3] p = some (.nx [x0, some (.fro (iL (r ++ ls.flatMap rng))), y2, x3], p) := by
  intro ls
  induction ls with
  | nil => exact fun r x2 _ _ => ⟨x2, by rw [List.map_nil, goF]; simp⟩
  | cons k ls ih =>
    intro r x2 h hl
    have hk := h k (List.mem_cons_self ..)
    rw [List.length_cons] at hl
    have hrl : (r ++ rng k).length = r.length + k := by rw [List.length_append, rng_len]
    obtain ⟨y2, hy⟩ := ih (r ++ rng k) (some (.fro (.int (k : Int)))) (fun q hq => h q (List.mem_cons_of_mem _ hq)) (by rw [hrl]; omega)
    refine ⟨y2, ?_⟩
    have e : (k :: ls).flatMap rng = rng k ++ ls.flatMap rng := rfl
    rw [e, ← List.append_assoc, List.map_cons, goF_nx (hbt1 x0 x2 x3 r k) (hb1 W j x0 x3 p r k hk (by omega))]
    exact hy
def downs (m : Nat) : List Nat := (List.range (m - 1)).map fun i => m - 1 - i
theorem downs_D (m : Nat) (h : 1 ≤ m) : ((List.range ((m : Int) - 1 - 0).toNat).map fun (i : Nat) => PyData.int ((m : Int) - 1 + (i : Nat) * (-1))) = (downs m).map fun (k : Nat) => PyData.int (k : Int) := by
  unfold downs
  have : ((m : Int) - 1 - 0).toNat = m - 1 := by omega
  rw [this, List.map_map]
  apply List.map_congr_left
  intro i hi
  rw [List.mem_range] at hi
  show PyData.int ((m : Int) - 1 + (i : Nat) * (-1)) = PyData.int ((m - 1 - i : Nat) : Int)
  congr 1
  omega
def nrow (m : Nat) : List Int := (downs m).flatMap rng
def nl1 (m : Nat) (r : List D) : List D := [.none, .tuple [], .dict [], .str "row", .tuple r, .list (r ++ [.int 0]), .list (cutD r (some 1) none), .list (cutD r none (some (-1))), .list (.int ((m : Int) - 1) :: cutD r (some 1) none), .list (.int (-1) :: cutD r (some 1) none), .list (.bool true :: cutD r (some 1) none)]
def nl2 (r : List D) : List D := [.list (cutD r none (some (-1)) ++ [.none]), .list (cutD r none (some (-1)) ++ [.str "0"]), .list (List.replicate r.length [PyData.int 0]).flatten, .list (cutD r none (some 1) ++ cutD r none (some 1) ++ cutD r (some 2) none), .list (.list [.int 0] :: cutD r (some 1) none), .list []]
theorem cutD_len (r : List D) (a b : Option Int) : (cutD r a b).length ≤ r.length := by
  unfold cutD
  rw [List.length_take, List.length_drop]; omega
theorem nrow_len : ∀ m : Nat, m ≤ 8 → (nrow m).length ≤ 28 := by decide +kernel
theorem gMul_L (xs : List D) (n : Nat) (h : xs.length * n ≤ 1000) (hn : n ≤ 1000) : gMul (.list xs) (.int (n : Int)) = some (.list (List.replicate n xs).flatten) := by
  unfold gMul
  dsimp only
  rw [if_pos ⟨by omega, by omega, by rw [Int.toNat_natCast]; exact small _ h⟩, Int.toNat_natCast]
def nlC : C := .lst (.cons (.k .none) (.cons (.tup .nil) (.cons .edict (.cons (.k (.str "row")) (.cons (.app .tuple (.cons (.ov 1) .nil)) (.cons (.bin .add (.ov 1) (.lst (.cons (.k (.int 0)) .nil))) (.cons (.cutL (.ov 1) (.k (.int 1))) (.cons (.cutH (.ov 1) (.neg (.k (.int 1)))) (.cons (.bin .add (.lst (.cons (.bin .sub (.ov 0) (.k (.int 1))) .nil)) (.cutL (.ov 1) (.k (.int 1)))) (.cons (.bin .add (.lst (.cons (.neg (.k (.int 1))) .nil)) (.cutL (.ov 1) (.k (.int 1)))) (.cons (.bin .add (.lst (.cons (.k (.bool true)) .nil)) (.cutL (.ov 1) (.k (.int 1)))) .nil)))))))))))
theorem sem_no_rows (W k : Nat) (hk : 1 ≤ k) {m : Nat} (h3 : 1 ≤ m) (h8 : m ≤ 8) (p : List D) : sem gm W tbl k 19 [.int (m : Int)] p = some (.opn (nl1 m ((nrow m).map PyData.int) ++ nl2 ((nrow m).map PyData.int)), p) := by
  obtain ⟨j, rfl⟩ : ∃ j, k = j + 1 := ⟨k - 1, by omega⟩
  show runD gm (sem gm W tbl j) W d__law_no_rows [.int (m : Int)] p = _
  refine run_rt (f := d__law_no_rows) ?_
  rw [d__law_no_rows, b__law_no_rows]
  obtain ⟨y2, hy⟩ := ncat_loop W j (some (.fro (.int (m : Int)))) none p (downs m) [] none (fun k hk => by
    unfold downs at hk
    obtain ⟨i, _, rfl⟩ := List.mem_map.mp hk
    omega) (by unfold downs; rw [List.length_map, List.length_range]; simp; omega)
  rw [List.nil_append] at hy
  have hn := nrow_len m h8
  have e0 : ex gm (sem gm W tbl j) W (.set 1 (.lst .nil)) [some (.fro (.int (m : Int))), none, none, none] p = some (.nx [some (.fro (.int (m : Int))), some (.fro (iL [])), none, none], p) := by
    have s0 := szT 0 (by decide)
    simp only [s0, runD, startE, exs, ex, evX, ev, evs, evI, mThen, mDone, mSet, mSet2, mAsg, mRet, mRetN, mRetV, mFrz, mIf, mExp, mB, mB_not, mB_and, mB_or, mNotB, mAndB, mOrB, mNotV, mAndV, mOrV, mNeg, mIfB, m2, gBop, gCop, gBlt, mK, mVar, mOv, mCons, mNil, mStar, mSz, mApp, mTup, mList, mFro, mOpn, mSl, toD, mCat, mCutL, mPart, mRev, mIsi, mIt, mEnum, mZip, mComp, mFor, mYes, mCallS, mCall, mCallT, mCallP, mPurIx, mPut, mApd, mPop, mPut2, mBits, permL, gAdd, PV.gSub, gLt, gLe, gGt, gGe, gLen, gInt, gMax2, gMin2, bT_nm, bT_tp, bA_nil, bA_cons, wipeE, shp_0, shp_1, shp_2, shp_3, shp_4, shp_5, shp_6, shp_7, shp_8, shp_9, shp_10, shp_11, shp_12, shp_13, shp_14, shp_15, shp_16, shp_17, shp_18, shp_19, shp_20, pshp_0, pshp_1, pshp_2, pshp_3, pshp_4, Bool.false_eq_true, if_false, if_true, ↓reduceIte, reduceCtorEq, List.map_cons, List.map_nil, List.nil_append, List.cons_append, List.append_nil, List.length_cons, List.length_nil, List.getElem?_cons_zero, List.getElem?_cons_succ, List.getElem?_nil, List.set_cons_zero, List.set_cons_succ, List.isEmpty_nil, List.isEmpty_cons, List.any_cons, List.any_nil, List.filterMap_cons, List.filterMap_nil, List.replicate_succ, List.replicate_zero, Option.bind_some, Option.bind_none, Option.map_some, Option.map_none, Nat.reduceAdd, Nat.reduceSub, Nat.reduceLeDiff, Nat.zero_add, Nat.add_zero, and_self, and_true, true_and, Bool.not_true, Bool.not_false, Bool.or_false, Bool.false_or, Bool.or_true, Bool.true_or, List.length_map]
    rfl
  have e1 : ex gm (sem gm W tbl j) W (.for (.nm 2) (.rng3 (.cons (.bin .sub (.ov 0) (.k (.int 1))) (.cons (.k (.int 0)) (.cons (.neg (.k (.int 1))) .nil)))) (.cons (.set 1 (.bin .add (.ov 1) (.lrg1 (.ov 2)))) .nil)) [some (.fro (.int (m : Int))), some (.fro (iL [])), none, none] p
      = some (.nx [some (.fro (.int (m : Int))), some (.fro (iL (nrow m))), y2, none], p) := by
    have hr : mRng3 (mCons (m2 PV.gSub (mOv 0) (mK (.int 1))) (mCons (mK (.int 0)) (mCons (mNeg (mK (.int 1))) mNil))) [some (.fro (.int (m : Int))), some (.fro (iL [])), none, none] p = some ((downs m).map fun (k : Nat) => PyData.int (k : Int), p) := by
      have h : mCons (m2 PV.gSub (mOv 0) (mK (.int 1))) (mCons (mK (.int 0)) (mCons (mNeg (mK (.int 1))) mNil)) [some (.fro (.int (m : Int))), some (.fro (iL [])), none, none] p = some ([.int ((m : Int) - 1), .int 0, .int (-1)], p) := by simp only [runD, startE, exs, ex, evX, ev, evs, evI, mThen, mDone, mSet, mSet2, mAsg, mRet, mRetN, mRetV, mFrz, mIf, mExp, mB, mB_not, mB_and, mB_or, mNotB, mAndB, mOrB, mNotV, mAndV, mOrV, mNeg, mIfB, m2, gBop, gCop, gBlt, mK, mVar, mOv, mCons, mNil, mStar, mSz, mApp, mTup, mList, mFro, mOpn, mSl, toD, mCat, mCutL, mPart, mRev, mIsi, mIt, mEnum, mZip, mComp, mFor, mYes, mCallS, mCall, mCallT, mCallP, mPurIx, mPut, mApd, mPop, mPut2, mBits, permL, gAdd, PV.gSub, gLt, gLe, gGt, gGe, gLen, gInt, gMax2, gMin2, bT_nm, bT_tp, bA_nil, bA_cons, wipeE, shp_0, shp_1, shp_2, shp_3, shp_4, shp_5, shp_6, shp_7, shp_8, shp_9, shp_10, shp_11, shp_12, shp_13, shp_14, shp_15, shp_16, shp_17, shp_18, shp_19, shp_20, pshp_0, pshp_1, pshp_2, pshp_3, pshp_4, Bool.false_eq_true, if_false, if_true, ↓reduceIte, reduceCtorEq, List.map_cons, List.map_nil, List.nil_append, List.cons_append, List.append_nil, List.length_cons, List.length_nil, List.getElem?_cons_zero, List.getElem?_cons_succ, List.getElem?_nil, List.set_cons_zero, List.set_cons_succ, List.isEmpty_nil, List.isEmpty_cons, List.any_cons, List.any_nil, List.filterMap_cons, List.filterMap_nil, List.replicate_succ, List.replicate_zero, Option.bind_some, Option.bind_none, Option.map_some, Option.map_none, Nat.reduceAdd, Nat.reduceSub, Nat.reduceLeDiff, Nat.zero_add, Nat.add_zero, and_self, and_true, true_and, Bool.not_true, Bool.not_false, Bool.or_false, Bool.false_or, Bool.or_true, Bool.true_or, List.length_map]
      rw [← downs_D m h3]
      unfold mRng3
      rw [h]
      exact if_pos (e := none) ⟨by omega, by omega, by decide, by decide⟩
    rw [ex, evI]
    simp only [evs, ev, gBop] at hy ⊢
    unfold mFor
    generalize mRng3 (mCons (m2 PV.gSub (mOv 0) (mK (.int 1))) (mCons (mK (.int 0)) (mCons (mNeg (mK (.int 1))) mNil))) = M at hr ⊢
    rw [hr]
    exact hy
  refine (exs_nx e0).trans ((exs_nx e1).trans ?_)
  generalize nrow m = r at hn ⊢
  have hl : (r.map PyData.int).length ≤ 28 := by rw [List.length_map]; exact hn
  generalize hrd : r.map PyData.int = rd at hl ⊢
  have hiL : iL r = .list rd := by rw [← hrd]
  rw [hiL]
  have c1 := cutD_len rd (some 1) none
  have c2 := cutD_len rd none (some (-1))
  have c3 := cutD_len rd none (some 1)
  have c4 := cutD_len rd (some 2) none
  have ov1 : ∀ x3 : Option Sl, ev gm (sem gm W tbl j) (.ov 1) [some (.fro (.int (m : Int))), some (.fro (.list rd)), y2, x3] p = some (.list rd, p) := fun x3 => e_ov rfl
  have ov0 : ∀ x3 : Option Sl, ev gm (sem gm W tbl j) (.ov 0) [some (.fro (.int (m : Int))), some (.fro (.list rd)), y2, x3] p = some (.int (m : Int), p) := fun x3 => e_ov rfl
  have one : ∀ (x3 : Option Sl) (d : D), ev gm (sem gm W tbl j) (.lst (.cons (.k d) .nil)) [some (.fro (.int (m : Int))), some (.fro (.list rd)), y2, x3] p = some (.list [d], p) := fun x3 d => e_lst (e_cons (e_k d) e_nil) (by simp)
  have lo1 : ∀ (x3 : Option Sl), ev gm (sem gm W tbl j) (.cutL (.ov 1) (.k (.int 1))) [some (.fro (.int (m : Int))), some (.fro (.list rd)), y2, x3] p = some (.list (cutD rd (some 1) none), p) := fun x3 => e_cutL (ov1 x3) (e_k _)
  have him : ∀ (x3 : Option Sl), ev gm (sem gm W tbl j) (.cutH (.ov 1) (.neg (.k (.int 1)))) [some (.fro (.int (m : Int))), some (.fro (.list rd)), y2, x3] p = some (.list (cutD rd none (some (-1))), p) := fun x3 => e_cutH (ov1 x3) e_neg1
  have hi1 : ∀ (x3 : Option Sl), ev gm (sem gm W tbl j) (.cutH (.ov 1) (.k (.int 1))) [some (.fro (.int (m : Int))), some (.fro (.list rd)), y2, x3] p = some (.list (cutD rd none (some 1)), p) := fun x3 => e_cutH (ov1 x3) (e_k _)
  have e2 : ev gm (sem gm W tbl j) nlC [some (.fro (.int (m : Int))), some (.fro (.list rd)), y2, none] p = some (.list (nl1 m rd), p) := by
    refine e_lst ?_ (by simp [nl1])
    refine e_cons (e_k _) (e_cons e_tup0 (e_cons e_edict (e_cons (e_k _) (e_cons (e_tuple (ov1 _)) (e_cons (e_add (ov1 _) (one _ _) (by simp; omega)) (e_cons (lo1 _) (e_cons (him _) (e_cons (p1 := p) ?_ (e_cons (p1 := p) ?_ (e_cons (p1 := p) ?_ e_nil))))))))))
    · exact e_add (e_lst (e_cons (e_sub (ov0 _) (e_k _)) e_nil) (by simp)) (lo1 _) (by simp; omega)
    · exact e_add (e_lst (e_cons e_neg1 e_nil) (by simp)) (lo1 _) (by simp; omega)
    · exact e_add (one _ _) (lo1 _) (by simp; omega)
  have e3 : ex gm (sem gm W tbl j) W (.set 3 nlC) [some (.fro (.int (m : Int))), some (.fro (.list rd)), y2, none] p = some (.nx [some (.fro (.int (m : Int))), some (.fro (.list rd)), y2, some (.fro (.list (nl1 m rd)))], p) := set_at e2
  unfold nlC at e3
  rw [exs_nx e3]
  refine exs_rt ?_
  refine ret_cat (e_ov rfl) ?_ (by simp [nl1, nl2])
  refine e_lst ?_ (by simp [nl2])
  refine e_cons (e_add (him _) (one _ _) (by simp; omega)) (e_cons (e_add (him _) (one _ _) (by simp; omega)) (e_cons (p1 := p) ?_ (e_cons (p1 := p) ?_ (e_cons (p1 := p) ?_ (e_cons (e_lst e_nil (by decide)) e_nil)))))
  · rw [ev_mul]
    refine m2_eq (one _ _) (e_len (ov1 _)) ?_
    exact gMul_L _ _ (by rw [List.length_singleton]; omega) (by omega)
  · exact e_add (e_add (hi1 _) (hi1 _) (by omega)) (e_cutL (ov1 _) (e_k _)) (by simp; omega)
  · exact e_add (e_lst (e_cons (one _ _) e_nil) (by decide)) (lo1 _) (by simp; omega)
theorem no_vok : ∀ m : Nat, m ≤ 8 → 3 ≤ m → (nl1 m ((nrow m).map PyData.int) ++ nl2 ((nrow m).map PyData.int)).all vokB = true := by
  intro m h2 h1
  have : m = 3 ∨ m = 4 ∨ m = 5 ∨ m = 6 ∨ m = 7 ∨ m = 8 := by omega
  rcases this with rfl | rfl | rfl | rfl | rfl | rfl <;> decide +kernel
end K73

set_option Elab.async false
set_option linter.all false
set_option maxRecDepth 100000
set_option maxHeartbeats 8000000
namespace K73
open PySem PySem.Spec L2 PV
open PyProof.Rows hiding St cutD

section
variable {F : Nat → Sm} {W : Nat} {env : PV.Env} {p p1 p2 p3 : List D}
theorem t_gt {a b : C} {x y : Int} (h1 : ev gm F a env p = some (.int x, p1)) (h2 : ev gm F b env p1 = some (.int y, p2)) : mB (ev gm F (.cmp .gt a b)) env p = some (decide (y < x), p2) := by
  have e : ev gm F (.cmp .gt a b) = m2 gGt (ev gm F a) (ev gm F b) := by rw [ev]; rfl
  rw [e]; exact mB_at (m2_eq h1 h2 rfl)
theorem t_lt {a b : C} {x y : Int} (h1 : ev gm F a env p = some (.int x, p1)) (h2 : ev gm F b env p1 = some (.int y, p2)) : mB (ev gm F (.cmp .lt a b)) env p = some (decide (x < y), p2) := by
  have e : ev gm F (.cmp .lt a b) = m2 gLt (ev gm F a) (ev gm F b) := by rw [ev]; rfl
  rw [e]; exact mB_at (m2_eq h1 h2 rfl)
theorem e_ite {t a b : C} {c : Bool} {r : Option (D × List D)} (h : mB (ev gm F t) env p = some (c, p1)) (hr : (if c then ev gm F a env p1 else ev gm F b env p1) = r) : ev gm F (.ite t a b) env p = r := by
  rw [ev]; unfold mIfB; rw [h]
  cases c <;> exact hr
theorem ite_t {c : C} {a b : Ss} (h : mB (ev gm F c) env p = some (true, p1)) : ex gm F W (.ite [] c a b) env p = exs gm F W a env p1 := by
  rw [ex]; unfold mIf
  simp only [List.isEmpty_nil, if_true, h]
theorem ite_f {c : C} {a b : Ss} (h : mB (ev gm F c) env p = some (false, p1)) : ex gm F W (.ite [] c a b) env p = exs gm F W b env p1 := by
  rw [ex]; unfold mIf
  simp only [List.isEmpty_nil, if_true, h]
theorem frz_at {i : Nat} {s : S} {ds : List D} (h : (env : List (Option Sl))[i]? = some (some (.opn ds))) : ex gm F W (.frz i s) env p = ex gm F W s (List.set env i (some (.fro (.list ds)))) p := by
  rw [ex]; unfold mThen mFrz; rw [h]
theorem setX_lof {i : Nat} {a : C} {xs : List D} (h : ev gm F a env p = some (.list xs, p1)) : ex gm F W (.setX i (.lof a)) env p = some (.nx (List.set env i (some (.opn xs))), p1) := by
  rw [ex, evX]; unfold mSet mOpn
  have : mApp gList (mCons (ev gm F a) mNil) env p = some (xs, p1) := by
    unfold mApp
    rw [mCons_eq h (show mNil env p1 = some ([], p1) from rfl)]
    rfl
  rw [this]; rfl
theorem put2_at {i : Nat} {a b c : C} {ds : List D} {d1 d2 : D} {k1 k2 : Int} {j1 j2 : Nat} (h0 : (env : List (Option Sl))[i]? = some (some (.opn ds))) (hc : ev gm F c env p = some (.tuple [d1, d2], p)) (ha : ev gm F a env p = some (.int k1, p)) (hj1 : ixN ds.length k1 = some j1)
    (hb : ev gm F b (List.set env i (some (.opn (ds.set j1 d1)))) p = some (.int k2, p)) (hj2 : ixN (ds.set j1 d1).length k2 = some j2) : ex gm F W (.put2 i a b c) env p = some (.nx (List.set (List.set env i (some (.opn (ds.set j1 d1)))) i (some (.opn ((ds.set j1 d1).set j2 d2)))), p) := by
  rw [ex]; unfold mPut2
  rw [h0]
  simp only [hc, ha, hj1, Option.bind_some, hb, hj2, Option.map_some]
theorem e_rev {a : C} {xs : List D} (h : ev gm F a env p = some (.list xs, p1)) : ev gm F (.rev a) env p = some (.list xs.reverse, p1) := by
  rw [ev]; refine mList_at ?_; unfold mRev; rw [h]
theorem e_comp {T : Tg} {own : List Nat} {it : PV.It} {elt : C} {items ds : List D} (hi : evI gm F it env p = some (items, p1)) (hl : items.length ≤ 1000) (hg : goC T (wipeE env own) mYes (ev gm F elt) items p1 = some (ds, p2)) : ev gm F (.comp T own it elt) env p = some (.list ds, p2) := by
  rw [ev]; refine mList_at ?_; unfold mComp
  rw [hi]
  simp only [Option.bind_some]
  rw [if_pos (small _ hl)]
  exact hg
theorem e_seq {a : C} {xs : List D} (h : ev gm F a env p = some (.list xs, p1)) : evI gm F (.seq a) env p = some (xs, p1) := by
  rw [evI]; unfold mIt; rw [h]
theorem e_tup2 {a b : C} {x y : D} (h1 : ev gm F a env p = some (x, p1)) (h2 : ev gm F b env p1 = some (y, p2)) : ev gm F (.tup (.cons a (.cons b .nil))) env p = some (.tuple [x, y], p2) := by
  rw [ev]; unfold mTup
  rw [e_cons h1 (e_cons h2 e_nil)]
  exact if_pos (e := none) (small 2 (by decide))
theorem e_ix {a b : C} {l : List Int} {i : Nat} (h1 : ev gm F a env p = some (iL l, p1)) (h2 : ev gm F b env p1 = some (.int (i : Int), p2)) (hi : i < l.length) : ev gm F (.ix a b) env p = some (.int (l.getD i 0), p2) := by
  rw [ev_ix]; exact m2_eq h1 h2 (gIx_nat l i hi)
theorem e_str {a : C} {x : Int} (h : ev gm F a env p = some (.int x, p1)) (hx : -100 ≤ x ∧ x ≤ 100) : ev gm F (.app .str (.cons a .nil)) env p = some (.str (toString x), p1) := by
  rw [ev]
  refine mApp_eq (e_cons h e_nil) ?_
  have : x.natAbs.log2 < 10 := log_lt (Nat.lt_of_lt_of_le (show x.natAbs < 101 by omega) (by decide)) (by decide)
  exact if_pos (e := none) (by omega)
theorem e_eqI {a b : C} {x y : Int} (h1 : ev gm F a env p = some (.int x, p1)) (h2 : ev gm F b env p1 = some (.int y, p2)) : ev gm F (.cmp .eq a b) env p = some (.bool (x == y), p2) := by
  rw [ev_eq]; exact m2_eq h1 h2 rfl
end
theorem e_draw {W j : Nat} {env : PV.Env} {p p' : List D} {c : C} {x : Int} {d : D} (h0 : (env : List (Option Sl))[0]? = some (some .pur)) (hc : ev gm (sem gm W tbl j) c env p = some (.int x, p)) (hd : sem gm W tbl j 12 [.int x] p = some (.fro d, p')) : ev gm (sem gm W tbl j) (.callP 0 0 (.cons c .nil)) env p = some (d, p') := by
  have hm : evs gm (sem gm W tbl j) (.cons c .nil) env p = some ([.int x], p) := e_cons hc e_nil
  rw [ev]
  unfold mSl mCallT
  rw [pshp_0]
  unfold mCallP
  simp only [h0, hm, Option.bind_some, List.length_cons, List.length_nil, and_self, if_true, hd, Option.map_some, toD, Nat.zero_add]
theorem e_norows {W j : Nat} {env : PV.Env} {p : List D} {m : Nat} (hj : 1 ≤ j) (h1 : 1 ≤ m) (h8 : m ≤ 8) (hv : (env : List (Option Sl))[1]? = some (some (.fro (.int (m : Int))))) : ev gm (sem gm W tbl j) (.call 12 (.cons (.var 1) .nil) .nil) env p = some (.list (nl1 m ((nrow m).map PyData.int) ++ nl2 ((nrow m).map PyData.int)), p) := by
  have hm : evs gm (sem gm W tbl j) (.cons (.var 1) .nil) env p = some ([.int (m : Int)], p) := e_cons (e_var hv) e_nil
  have hn : evs gm (sem gm W tbl j) .nil env p = some ([], p) := e_nil
  have hs := sem_no_rows W j hj h1 h8 p
  rw [ev]
  unfold mSl mCallS
  rw [shp_12]
  unfold mCall
  simp only [hm, hn, Option.bind_some, List.length_cons, List.length_nil, permL, List.filterMap_cons, List.filterMap_nil, List.cons_append, List.nil_append, List.append_nil, List.getElem?_cons_zero, and_self, if_true, hs, Option.map_some, toD, Nat.zero_add]
end K73

set_option Elab.async false
set_option linter.all false
set_option maxRecDepth 100000
set_option maxHeartbeats 8000000
namespace K73
open PySem PySem.Spec L2 PV
open PyProof.Rows hiding St cutD

theorem Pok.mono {n n' : Nat} {p : List D} (h : Pok n p) (hn : n ≤ n') : Pok n' p := by
  obtain ⟨p0, p1, p2, p3, e, a, b, c, d⟩ := h
  exact ⟨p0, p1, p2, p3, e, a, b, ⟨c.1, by omega⟩, d⟩
theorem ixN_nat {n a : Nat} (h : a < n) : ixN n (a : Int) = some a := by
  unfold ixN
  rw [if_pos (by omega), if_pos (by omega), Int.toNat_natCast]
theorem el_ints {l : List Int} (h : ∀ x ∈ l, -100 ≤ x ∧ x ≤ 100) : (l.map PyData.int).all el = true := by
  rw [List.all_eq_true]
  intro d hd
  obtain ⟨x, hx, rfl⟩ := List.mem_map.mp hd
  have := h x hx
  unfold el
  rw [Bool.and_eq_true, decide_eq_true_eq, decide_eq_true_eq]
  exact this
theorem el_cut {r : List D} (h : r.all el = true) (a b : Option Int) : (cutD r a b).all el = true := by
  rw [List.all_eq_true] at h ⊢
  intro d hd
  unfold cutD at hd
  exact h d (List.mem_of_mem_drop (List.mem_of_mem_take hd))
theorem el_str : ∀ n : Nat, n ≤ 6 → el (.str (toString (n : Int))) = true := by decide +kernel
theorem getD_mem {f : List Int} {i : Nat} (h : i < f.length) : f.getD i 0 ∈ f := by
  rw [List.getD_eq_getElem?_getD, List.getElem?_eq_getElem h]
  exact List.getElem_mem h
def base6 : List D := [.none, .tuple [], .dict [], .list [.int 0, .int 0], .list [.int 1], .str "row"]
theorem base6_ok : base6.all vokB = true := by decide +kernel
theorem set_3 {F : Nat → Sm} {p : List D} {m : Nat} {x2 : Option Sl} (h1 : 1 ≤ m) : mB (ev gm F (.cmp .gt (.ov 1) (.k (.int 2)))) [some .pur, some (.fro (.int (m : Int))), x2, none, none, none, none, none, none] p = some (decide ((2 : Int) < (m : Int)), p) := t_gt (e_ov rfl) (e_k _)
theorem found_ok (W j : Nat) (hj : 1 ≤ j) {m : Nat} (h1 : 1 ≤ m) (h8 : m ≤ 8) (x2 : Option Sl) (p : List D) : ∃ fd : List D, (∀ v ∈ fd, VOk v) ∧ fd.length ≤ 20 ∧
    ev gm (sem gm W tbl j) (.ite (.cmp .gt (.ov 1) (.k (.int 2))) (.call 12 (.cons (.var 1) .nil) .nil) (.lst (.cons (.k .none) (.cons (.tup .nil) (.cons .edict (.cons (.lst (.cons (.k (.int 0)) (.cons (.k (.int 0)) .nil))) (.cons (.lst (.cons (.k (.int 1)) .nil)) (.cons (.k (.str "row")) .nil)))))))) [some .pur, some (.fro (.int (m : Int))), x2, none, none, none, none, none, none] p = some (.list fd, p) := by
  by_cases hm : 2 < m
  · refine ⟨nl1 m ((nrow m).map PyData.int) ++ nl2 ((nrow m).map PyData.int), fun v hv => vok_by (List.all_eq_true.mp (no_vok m h8 (by omega)) v hv), by simp [nl1, nl2], ?_⟩
    refine e_ite (set_3 h1) ?_
    rw [decide_eq_true (by omega : (2 : Int) < (m : Int)), if_pos rfl]
    exact e_norows hj h1 h8 rfl
  · refine ⟨base6, fun v hv => vok_by (List.all_eq_true.mp base6_ok v hv), by decide, ?_⟩
    refine e_ite (set_3 h1) ?_
    rw [decide_eq_false (by omega : ¬ (2 : Int) < (m : Int)), if_neg Bool.false_ne_true]
    refine e_lst ?_ (by decide)
    exact e_cons (e_k _) (e_cons e_tup0 (e_cons e_edict (e_cons (e_lst (e_cons (e_k _) (e_cons (e_k _) e_nil)) (by decide)) (e_cons (e_lst (e_cons (e_k _) e_nil) (by decide)) (e_cons (e_k _) e_nil)))))
theorem sem_bent (W k : Nat) (hk : 4 ≤ k) {m : Nat} (h1 : 1 ≤ m) (h8 : m ≤ 8) {f : List Int} (hf : f.length = tri m) (hb : ∀ x ∈ f, 0 ≤ x ∧ x ≤ 6) {n : Nat} (hn : n ≤ 5000) {p : List D} (hp : Pok n p) :
    ∃ (vs p' : List D), (∀ v ∈ vs, VOk v) ∧ vs.length ≤ 100 ∧ Pok (n + 3) p' ∧ sem gm W tbl k 20 [.int (m : Int), iL f] p = some (.fro (.list vs), p') := by
  obtain ⟨j, rfl⟩ : ∃ j, k = j + 1 := ⟨k - 1, by omega⟩
  have ht := tri28 h8
  obtain ⟨fd, hfd, hfl, hfe⟩ := found_ok W j (by omega) h1 h8 (some (.fro (iL f))) p
  have test : ∀ (x3 : Option Sl), mB (ev gm (sem gm W tbl j) (.cmp .ne (.ov 2) (.lst .nil))) [some .pur, some (.fro (.int (m : Int))), some (.fro (iL f)), x3, none, none, none, none, none] p = some (!decide (f = []), p) := fun x3 => by
    rw [ev_ne]
    exact mB_at (m2_eq (e_ov rfl) (e_lst e_nil (by decide)) (gNe_ints f []))
  by_cases he : f = []
  · refine ⟨fd, p, hfd, by omega, hp.mono (by omega), ?_⟩
    show runD gm (sem gm W tbl j) W d__law_bent [.int (m : Int), iL f] p = _
    refine run_rt (f := d__law_bent) ?_
    rw [d__law_bent, b__law_bent]
    refine (exs_nx (set_at hfe)).trans ?_
    have t := test (some (.fro (.list fd)))
    rw [he] at t
    rw [he]
    refine (exs_nx (e := [some .pur, some (.fro (.int (m : Int))), some (.fro (iL [])), some (.fro (.list fd)), none, none, none, none, none]) (p1 := p) ((ite_f t).trans ?_)).trans ?_
    · rw [exs]; rfl
    · simp only [runD, startE, exs, ex, evX, ev, evs, evI, mThen, mDone, mSet, mSet2, mAsg, mRet, mRetN, mRetV, mFrz, mIf, mExp, mB, mB_not, mB_and, mB_or, mNotB, mAndB, mOrB, mNotV, mAndV, mOrV, mNeg, mIfB, m2, gBop, gCop, gBlt, mK, mVar, mOv, mCons, mNil, mStar, mSz, mApp, mTup, mList, mFro, mOpn, mSl, toD, mCat, mCutL, mPart, mRev, mIsi, mIt, mEnum, mZip, mComp, mFor, mYes, mCallS, mCall, mCallT, mCallP, mPurIx, mPut, mApd, mPop, mPut2, mBits, permL, gAdd, PV.gSub, gLt, gLe, gGt, gGe, gLen, gInt, gMax2, gMin2, bT_nm, bT_tp, bA_nil, bA_cons, wipeE, shp_0, shp_1, shp_2, shp_3, shp_4, shp_5, shp_6, shp_7, shp_8, shp_9, shp_10, shp_11, shp_12, shp_13, shp_14, shp_15, shp_16, shp_17, shp_18, shp_19, shp_20, pshp_0, pshp_1, pshp_2, pshp_3, pshp_4, Bool.false_eq_true, if_false, if_true, ↓reduceIte, reduceCtorEq, List.map_cons, List.map_nil, List.nil_append, List.cons_append, List.append_nil, List.length_cons, List.length_nil, List.getElem?_cons_zero, List.getElem?_cons_succ, List.getElem?_nil, List.set_cons_zero, List.set_cons_succ, List.isEmpty_nil, List.isEmpty_cons, List.any_cons, List.any_nil, List.filterMap_cons, List.filterMap_nil, List.replicate_succ, List.replicate_zero, Option.bind_some, Option.bind_none, Option.map_some, Option.map_none, Nat.reduceAdd, Nat.reduceSub, Nat.reduceLeDiff, Nat.zero_add, Nat.add_zero, and_self, and_true, true_and, Bool.not_true, Bool.not_false, Bool.or_false, Bool.false_or, Bool.or_true, Bool.true_or, List.length_map]
  · have hm2 : 2 ≤ m := by
      rcases Nat.lt_or_ge m 2 with h | h
      · have : m = 1 := by omega
        subst this
        have : f.length = 0 := hf
        exact absurd (List.length_eq_zero_iff.mp this) he
      · exact h
    have hpos : 1 ≤ f.length := by
      cases f with
      | nil => exact absurd rfl he
      | cons _ _ => simp
    obtain ⟨a, p1, ha, hp1, d1⟩ := sem_draw W j (by omega) f.length hpos (by omega) n (by omega) p hp
    obtain ⟨b, p2, hbl, hp2, d2⟩ := sem_draw W j (by omega) f.length hpos (by omega) (n + 1) (by omega) p1 hp1
    obtain ⟨c, p3, hcl, hp3, d3⟩ := sem_draw W j (by omega) (m - 1) (by omega) (by omega) (n + 2) (by omega) p2 hp2
    have hlen : ((f.map PyData.int).length : Int) = (f.length : Int) := by rw [List.length_map]
    have va := hb _ (getD_mem ha)
    have vb := hb _ (getD_mem hbl)
    have helr : (f.map PyData.int).all el = true := el_ints fun x hx => by have := hb x hx; omega
    let T : List Int := (f.set a (f.getD b 0)).set b (f.getD a 0)
    have hT : T.map PyData.int = ((f.map PyData.int).set a (.int (f.getD b 0))).set b (.int (f.getD a 0)) := by
      show ((f.set a (f.getD b 0)).set b (f.getD a 0)).map PyData.int = _
      rw [List.map_set, List.map_set]
    let g : D → D := fun d => match d with | .int x => .int ((m : Int) - 2 - x) | _ => .none
    let V1 : List D := [iL T, .list (f.map PyData.int).reverse, .list (cutD (f.map PyData.int) (some 1) none ++ cutD (f.map PyData.int) none (some 1)), .list ((f.map PyData.int).map g)]
    let odds : List D := [.int (c : Int), .int ((m : Int) - 1), .int (f.getD a 0 + 1), .int (f.getD a 0 - 1), .none, .str (toString (f.getD a 0)), .bool (f.getD a 0 == 1)]
    let V2 : List D := odds.map fun o => .list (cutD (f.map PyData.int) none (some (a : Int)) ++ [o] ++ cutD (f.map PyData.int) (some ((a : Int) + 1)) none)
    have hV1 : ∀ v ∈ V1, VOk v := by
      intro v hv
      have hv' : v = iL T ∨ v = .list (f.map PyData.int).reverse ∨ v = .list (cutD (f.map PyData.int) (some 1) none ++ cutD (f.map PyData.int) none (some 1)) ∨ v = .list ((f.map PyData.int).map g) := by
        simpa [V1] using hv
      rcases hv' with rfl | rfl | rfl | rfl
      · refine vok_list (el_ints fun x hx => ?_) (by simp [T]; omega)
        rcases List.mem_or_eq_of_mem_set hx with hx | rfl
        · rcases List.mem_or_eq_of_mem_set hx with hx | rfl
          · have := hb x hx; omega
          · omega
        · omega
      · refine vok_list ?_ (by simp; omega)
        rw [List.all_reverse]; exact helr
      · refine vok_list ?_ ?_
        · rw [List.all_append, el_cut helr, el_cut helr]; rfl
        · have c1 := cutD_len (f.map PyData.int) (some 1) none
          have c3 := cutD_len (f.map PyData.int) none (some 1)
          rw [List.length_map] at c1 c3
          rw [List.length_append]; omega
      · refine vok_list ?_ (by simp; omega)
        rw [List.map_map]
        have : (f.map (g ∘ PyData.int)) = (f.map fun x => (m : Int) - 2 - x).map PyData.int := by
          rw [List.map_map]; rfl
        rw [this]
        refine el_ints fun x hx => ?_
        obtain ⟨y, hy, rfl⟩ := List.mem_map.mp hx
        have := hb y hy; omega
    have hodds : ∀ o ∈ odds, el o = true := by
      intro o ho
      have ho' : o = .int (c : Int) ∨ o = .int ((m : Int) - 1) ∨ o = .int (f.getD a 0 + 1) ∨ o = .int (f.getD a 0 - 1) ∨ o = .none ∨ o = .str (toString (f.getD a 0)) ∨ o = .bool (f.getD a 0 == 1) := by
        simpa only [odds, List.mem_cons, List.not_mem_nil, or_false] using ho
      have eI : ∀ x : Int, -100 ≤ x → x ≤ 100 → el (.int x) = true := fun x h1 h2 => by
        unfold el; rw [Bool.and_eq_true, decide_eq_true_eq, decide_eq_true_eq]; exact ⟨h1, h2⟩
      rcases ho' with rfl | rfl | rfl | rfl | rfl | rfl | rfl
      · exact eI _ (by omega) (by omega)
      · exact eI _ (by omega) (by omega)
      · exact eI _ (by omega) (by omega)
      · exact eI _ (by omega) (by omega)
      · rfl
      · have := el_str (f.getD a 0).toNat (by omega)
        rwa [Int.toNat_of_nonneg va.1] at this
      · rfl
    have hcuts : ∀ o : D, (cutD (f.map PyData.int) none (some (a : Int)) ++ [o] ++ cutD (f.map PyData.int) (some ((a : Int) + 1)) none).length ≤ 60 := fun o => by
      have c1 := cutD_len (f.map PyData.int) none (some (a : Int))
      have c3 := cutD_len (f.map PyData.int) (some ((a : Int) + 1)) none
      rw [List.length_map] at c1 c3
      rw [List.length_append, List.length_append, List.length_singleton]; omega
    have hV2 : ∀ v ∈ V2, VOk v := by
      intro v hv
      obtain ⟨o, ho, rfl⟩ := List.mem_map.mp hv
      refine vok_list ?_ (Nat.le_trans (hcuts o) (by decide))
      rw [List.all_append, List.all_append, el_cut helr, el_cut helr, List.all_cons, hodds o ho]; rfl
    refine ⟨fd ++ V1 ++ V2, p3, fun v hv => ?_, by simp [V1, V2, odds]; omega, hp3, ?_⟩
    · rcases List.mem_append.mp hv with hv | hv
      · rcases List.mem_append.mp hv with hv | hv
        · exact hfd v hv
        · exact hV1 v hv
      · exact hV2 v hv
    show runD gm (sem gm W tbl j) W d__law_bent [.int (m : Int), iL f] p = _
    refine run_rt (f := d__law_bent) ?_
    rw [d__law_bent, b__law_bent]
    refine (exs_nx (set_at hfe)).trans ?_
    have t := test (some (.fro (.list fd)))
    rw [decide_eq_false he] at t
    have P0 : (some Sl.pur : Option Sl) = some .pur := rfl
    have l1 : ev gm (sem gm W tbl j) (.app .len (.cons (.ov 2) .nil)) [some .pur, some (.fro (.int (m : Int))), some (.fro (iL f)), some (.fro (.list fd)), none, none, none, none, none] p = some (.int (f.length : Int), p) := by
      rw [← hlen]; exact e_len (e_ov rfl)
    have s1 : ex gm (sem gm W tbl j) W (.set 4 (.callP 0 0 (.cons (.app .len (.cons (.ov 2) .nil)) .nil))) [some .pur, some (.fro (.int (m : Int))), some (.fro (iL f)), some (.fro (.list fd)), none, none, none, none, none] p
        = some (.nx [some .pur, some (.fro (.int (m : Int))), some (.fro (iL f)), some (.fro (.list fd)), some (.fro (.int (a : Int))), none, none, none, none], p1) := set_at (e_draw rfl l1 d1)
    have l2 : ev gm (sem gm W tbl j) (.app .len (.cons (.ov 2) .nil)) [some .pur, some (.fro (.int (m : Int))), some (.fro (iL f)), some (.fro (.list fd)), some (.fro (.int (a : Int))), none, none, none, none] p1 = some (.int (f.length : Int), p1) := by
      rw [← hlen]; exact e_len (e_ov rfl)
    have s2 : ex gm (sem gm W tbl j) W (.set 5 (.callP 0 0 (.cons (.app .len (.cons (.ov 2) .nil)) .nil))) [some .pur, some (.fro (.int (m : Int))), some (.fro (iL f)), some (.fro (.list fd)), some (.fro (.int (a : Int))), none, none, none, none] p1
        = some (.nx [some .pur, some (.fro (.int (m : Int))), some (.fro (iL f)), some (.fro (.list fd)), some (.fro (.int (a : Int))), some (.fro (.int (b : Int))), none, none, none], p2) := set_at (e_draw rfl l2 d2)
    have s3 : ex gm (sem gm W tbl j) W (.setX 6 (.lof (.ov 2))) [some .pur, some (.fro (.int (m : Int))), some (.fro (iL f)), some (.fro (.list fd)), some (.fro (.int (a : Int))), some (.fro (.int (b : Int))), none, none, none] p2
        = some (.nx [some .pur, some (.fro (.int (m : Int))), some (.fro (iL f)), some (.fro (.list fd)), some (.fro (.int (a : Int))), some (.fro (.int (b : Int))), some (.opn (f.map PyData.int)), none, none], p2) := setX_lof (e_ov rfl)
    have s4 : ex gm (sem gm W tbl j) W (.put2 6 (.var 4) (.var 5) (.tup (.cons (.ix (.ov 2) (.ov 5)) (.cons (.ix (.ov 2) (.ov 4)) .nil)))) [some .pur, some (.fro (.int (m : Int))), some (.fro (iL f)), some (.fro (.list fd)), some (.fro (.int (a : Int))), some (.fro (.int (b : Int))), some (.opn (f.map PyData.int)), none, none] p2
        = some (.nx [some .pur, some (.fro (.int (m : Int))), some (.fro (iL f)), some (.fro (.list fd)), some (.fro (.int (a : Int))), some (.fro (.int (b : Int))), some (.opn (T.map PyData.int)), none, none], p2) := by
      rw [hT]
      exact put2_at rfl (e_tup2 (e_ix (e_ov rfl) (e_ov rfl) hbl) (e_ix (e_ov rfl) (e_ov rfl) ha)) (e_var rfl) (ixN_nat (by rw [List.length_map]; exact ha)) (e_var rfl) (ixN_nat (by rw [List.length_set, List.length_map]; exact hbl))
    have v5 : ev gm (sem gm W tbl j) (.bin .add (.ov 3) (.lst (.cons (.var 6) (.cons (.rev (.ov 2)) (.cons (.bin .add (.cutL (.ov 2) (.k (.int 1))) (.cutH (.ov 2) (.k (.int 1)))) (.cons (.comp (.nm 8) [8] (.seq (.ov 2)) (.bin .sub (.bin .sub (.ov 1) (.k (.int 2))) (.ov 8))) .nil)))))) [some .pur, some (.fro (.int (m : Int))), some (.fro (iL f)), some (.fro (.list fd)), some (.fro (.int (a : Int))), some (.fro (.int (b : Int))), some (.fro (iL T)), none, none] p2 = some (.list (fd ++ V1), p2) := by
      have c1 := cutD_len (f.map PyData.int) (some 1) none
      have c3 := cutD_len (f.map PyData.int) none (some 1)
      rw [List.length_map] at c1 c3
      refine e_add (e_ov rfl) (e_lst ?_ (by simp [V1])) (by simp [V1]; omega)
      refine e_cons (e_var rfl) (e_cons (e_rev (e_ov rfl)) (e_cons (e_add (e_cutL (e_ov rfl) (e_k _)) (e_cutH (e_ov rfl) (e_k _)) (by omega)) (e_cons ?_ e_nil)))
      refine e_comp (e_seq (e_ov rfl)) (by rw [List.length_map]; omega) (goC_map g _ p2 fun d hd => ?_)
      obtain ⟨x, hx, rfl⟩ := List.mem_map.mp hd
      exact ⟨_, by rw [bT_nm], e_sub (e_sub (e_ov rfl) (e_k _)) (e_ov rfl)⟩
    have s5 : ex gm (sem gm W tbl j) W (.frz 6 (.set 3 (.bin .add (.ov 3) (.lst (.cons (.var 6) (.cons (.rev (.ov 2)) (.cons (.bin .add (.cutL (.ov 2) (.k (.int 1))) (.cutH (.ov 2) (.k (.int 1)))) (.cons (.comp (.nm 8) [8] (.seq (.ov 2)) (.bin .sub (.bin .sub (.ov 1) (.k (.int 2))) (.ov 8))) .nil)))))))) [some .pur, some (.fro (.int (m : Int))), some (.fro (iL f)), some (.fro (.list fd)), some (.fro (.int (a : Int))), some (.fro (.int (b : Int))), some (.opn (T.map PyData.int)), none, none] p2
        = some (.nx [some .pur, some (.fro (.int (m : Int))), some (.fro (iL f)), some (.fro (.list (fd ++ V1))), some (.fro (.int (a : Int))), some (.fro (.int (b : Int))), some (.fro (iL T)), none, none], p2) := (frz_at rfl).trans (set_at v5)
    have hm1 : (((m - 1 : Nat) : Int)) = (m : Int) - 1 := by omega
    rw [hm1] at d3
    have v6 : ev gm (sem gm W tbl j) (.bin .add (.ov 3) (.comp (.nm 7) [7] (.seq (.lst (.cons (.callP 0 0 (.cons (.bin .sub (.ov 1) (.k (.int 1))) .nil)) (.cons (.bin .sub (.ov 1) (.k (.int 1))) (.cons (.bin .add (.ix (.ov 2) (.ov 4)) (.k (.int 1))) (.cons (.bin .sub (.ix (.ov 2) (.ov 4)) (.k (.int 1))) (.cons (.k .none) (.cons (.app .str (.cons (.ix (.ov 2) (.ov 4)) .nil)) (.cons (.cmp .eq (.ix (.ov 2) (.ov 4)) (.k (.int 1))) .nil))))))))) (.bin .add (.bin .add (.cutH (.ov 2) (.ov 4)) (.lst (.cons (.var 7) .nil))) (.cutL (.ov 2) (.bin .add (.ov 4) (.k (.int 1))))))) [some .pur, some (.fro (.int (m : Int))), some (.fro (iL f)), some (.fro (.list (fd ++ V1))), some (.fro (.int (a : Int))), some (.fro (.int (b : Int))), some (.fro (iL T)), none, none] p2 = some (.list (fd ++ V1 ++ V2), p3) := by
      have ho : ∀ q : List D, ev gm (sem gm W tbl j) (.ix (.ov 2) (.ov 4)) [some .pur, some (.fro (.int (m : Int))), some (.fro (iL f)), some (.fro (.list (fd ++ V1))), some (.fro (.int (a : Int))), some (.fro (.int (b : Int))), some (.fro (iL T)), none, none] q = some (.int (f.getD a 0), q) := fun q => e_ix (e_ov rfl) (e_ov rfl) ha
      refine e_add (e_ov rfl) (e_comp (items := odds) (p1 := p3) (e_seq (e_lst ?_ (by simp [odds]))) (by simp [odds]) (goC_map (fun o => .list (cutD (f.map PyData.int) none (some (a : Int)) ++ [o] ++ cutD (f.map PyData.int) (some ((a : Int) + 1)) none)) _ p3 fun d hd => ?_)) (by simp [V1, V2, odds]; omega)
      · exact e_cons (e_draw rfl (e_sub (e_ov rfl) (e_k _)) d3) (e_cons (e_sub (e_ov rfl) (e_k _)) (e_cons (e_addI (ho _) (e_k _)) (e_cons (e_sub (ho _) (e_k _)) (e_cons (e_k _) (e_cons (e_str (ho _) (by omega)) (e_cons (e_eqI (ho _) (e_k _)) e_nil))))))
      · have hc := hcuts d
        rw [List.length_append, List.length_append, List.length_singleton] at hc
        refine ⟨_, by rw [bT_nm], ?_⟩
        exact e_add (e_add (e_cutH (e_ov rfl) (e_ov rfl)) (e_lst (e_cons (e_var rfl) e_nil) (by simp)) (by rw [List.length_singleton]; omega)) (e_cutL (e_ov rfl) (e_addI (e_ov rfl) (e_k _))) (by rw [List.length_append, List.length_singleton]; omega)
    have s6 := set_at (G := gm) (W := W) (i := 3) v6
    refine (exs_nx (e := [some .pur, some (.fro (.int (m : Int))), some (.fro (iL f)), some (.fro (.list (fd ++ V1 ++ V2))), some (.fro (.int (a : Int))), some (.fro (.int (b : Int))), some (.fro (iL T)), none, none]) (p1 := p3) ((ite_t t).trans ?_)).trans ?_
    · rw [exs_nx s1, exs_nx s2, exs_nx s3, exs_nx s4, exs_nx s5, exs_nx s6, exs]; rfl
    · simp only [runD, startE, exs, ex, evX, ev, evs, evI, mThen, mDone, mSet, mSet2, mAsg, mRet, mRetN, mRetV, mFrz, mIf, mExp, mB, mB_not, mB_and, mB_or, mNotB, mAndB, mOrB, mNotV, mAndV, mOrV, mNeg, mIfB, m2, gBop, gCop, gBlt, mK, mVar, mOv, mCons, mNil, mStar, mSz, mApp, mTup, mList, mFro, mOpn, mSl, toD, mCat, mCutL, mPart, mRev, mIsi, mIt, mEnum, mZip, mComp, mFor, mYes, mCallS, mCall, mCallT, mCallP, mPurIx, mPut, mApd, mPop, mPut2, mBits, permL, gAdd, PV.gSub, gLt, gLe, gGt, gGe, gLen, gInt, gMax2, gMin2, bT_nm, bT_tp, bA_nil, bA_cons, wipeE, shp_0, shp_1, shp_2, shp_3, shp_4, shp_5, shp_6, shp_7, shp_8, shp_9, shp_10, shp_11, shp_12, shp_13, shp_14, shp_15, shp_16, shp_17, shp_18, shp_19, shp_20, pshp_0, pshp_1, pshp_2, pshp_3, pshp_4, Bool.false_eq_true, if_false, if_true, ↓reduceIte, reduceCtorEq, List.map_cons, List.map_nil, List.nil_append, List.cons_append, List.append_nil, List.length_cons, List.length_nil, List.getElem?_cons_zero, List.getElem?_cons_succ, List.getElem?_nil, List.set_cons_zero, List.set_cons_succ, List.isEmpty_nil, List.isEmpty_cons, List.any_cons, List.any_nil, List.filterMap_cons, List.filterMap_nil, List.replicate_succ, List.replicate_zero, Option.bind_some, Option.bind_none, Option.map_some, Option.map_none, Nat.reduceAdd, Nat.reduceSub, Nat.reduceLeDiff, Nat.zero_add, Nat.add_zero, and_self, and_true, true_and, Bool.not_true, Bool.not_false, Bool.or_false, Bool.false_or, Bool.or_true, Bool.true_or, List.length_map]
end K73

set_option Elab.async false
set_option linter.all false
set_option maxRecDepth 100000
set_option maxHeartbeats 8000000
namespace K73
open PySem PySem.Spec L2 PV
open PyProof.Rows hiding St cutD

section
variable {W j : Nat} {env : PV.Env} {p p1 p2 p3 : List D}
theorem c_call {si : Nat} {es ks : Cs} {sh : Shp} {ds zs : List D} {r : Sl} (hs : gm.shps[si]? = some sh) (h1 : evs gm (sem gm W tbl j) es env p = some (ds, p1)) (h2 : evs gm (sem gm W tbl j) ks env p1 = some (zs, p2)) (hl : ds.length = sh.n ∧ zs.length = sh.ks.length ∧ (permL sh.idx (ds ++ zs ++ sh.dds)).length = sh.np)
    (hd : sem gm W tbl j sh.f (permL sh.idx (ds ++ zs ++ sh.dds)) p2 = some (r, p3)) : mCallS gm (sem gm W tbl j) si (evs gm (sem gm W tbl j) es) (evs gm (sem gm W tbl j) ks) env p = some (r, p3) := by
  unfold mCallS
  rw [hs]
  show mCall _ _ _ _ _ _ _ _ env p = _
  unfold mCall
  simp only [h1, h2, Option.bind_some]
  rw [if_pos hl]
  exact hd
theorem e_call {si : Nat} {es ks : Cs} {sh : Shp} {ds zs : List D} {r : Sl} (hs : gm.shps[si]? = some sh) (h1 : evs gm (sem gm W tbl j) es env p = some (ds, p1)) (h2 : evs gm (sem gm W tbl j) ks env p1 = some (zs, p2)) (hl : ds.length = sh.n ∧ zs.length = sh.ks.length ∧ (permL sh.idx (ds ++ zs ++ sh.dds)).length = sh.np)
    (hd : sem gm W tbl j sh.f (permL sh.idx (ds ++ zs ++ sh.dds)) p2 = some (r, p3)) : ev gm (sem gm W tbl j) (.call si es ks) env p = some (toD r, p3) := by
  rw [ev]; unfold mSl
  rw [c_call hs h1 h2 hl hd]; rfl
theorem e_callP {si i : Nat} {es : Cs} {sh : PShp} {ds : List D} {r : Sl} (hs : gm.pshps[si]? = some sh) (h0 : (env : List (Option Sl))[i]? = some (some .pur)) (h1 : evs gm (sem gm W tbl j) es env p = some (ds, p1)) (hl : ds.length = sh.n) (hd : sem gm W tbl j sh.f ds p1 = some (r, p3)) : ev gm (sem gm W tbl j) (.callP si i es) env p = some (toD r, p3) := by
  rw [ev]; unfold mSl mCallT
  rw [hs]
  have : mCallP (sem gm W tbl j sh.f) (sh.n + 1) i sh.n (evs gm (sem gm W tbl j) es) env p = some (r, p3) := by
    unfold mCallP
    rw [h0]
    simp only [h1, Option.bind_some]
    rw [if_pos ⟨hl, trivial⟩]
    exact hd
  simp only [this]
  rfl
end
section
variable {F : Nat → Sm} {W : Nat} {env : PV.Env} {p p1 p2 p3 : List D}
theorem set2_at {i k : Nat} {a b : C} {x y : D} (ha : ev gm F a env p = some (x, p1)) (hb : ev gm F b env p1 = some (y, p2)) : ex gm F W (.set2 i k a b) env p = some (.nx (List.set (List.set env i (some (.fro x))) k (some (.fro y))), p2) := by
  rw [ex]; unfold mSet2 mFro
  simp only [ha, Option.map_some, Option.bind_some, hb]
theorem t_tst {a : C} {b : Bool} (h : ev gm F a env p = some (.bool b, p1)) : mB (ev gm F (.tst a)) env p = some (b, p1) := by
  rw [ev]; exact mB_at h
theorem t_not {a : C} {b : Bool} (h : mB (ev gm F a) env p = some (b, p1)) : mB (ev gm F (.not a)) env p = some (!b, p1) := by
  rw [ev, mB_not]; unfold mNotB; rw [h]; rfl
theorem t_or {a c : C} {b : Bool} (h : mB (ev gm F a) env p = some (false, p1)) (h2 : mB (ev gm F c) env p1 = some (b, p2)) : mB (ev gm F (.or a c)) env p = some (b, p2) := by
  rw [ev, mB_or]; unfold mOrB; rw [h]; exact h2
theorem e_and {a c : C} {r : D} (h : ev gm F a env p = some (.bool true, p1)) (h2 : ev gm F c env p1 = some (r, p2)) : ev gm F (.and a c) env p = some (r, p2) := by
  rw [ev]; unfold mAndV; rw [h]; exact h2
theorem e_repr {a : C} {v : D} {s : Str} (h : ev gm F a env p = some (v, p1)) (hs : gRepr [v] = some (.str s)) : ev gm F (.app .repr (.cons a .nil)) env p = some (.str s, p1) := by
  rw [ev]; exact mApp_eq (e_cons h e_nil) hs
end
theorem shaped_str {s : Str} (h : PyData.strOk s = true) : SeqAt.shaped (.str s) = true := by
  unfold SeqAt.shaped
  rw [Bool.and_eq_true, decide_eq_true_eq]
  exact ⟨h, Nat.zero_le _⟩
theorem gNe_str {s : Str} (h : PyData.strOk s = true) : gNe (.str s) (.str s) = some (.bool false) := by
  have e : gNe (.str s) (.str s) = if SeqAt.shaped (.str s) && SeqAt.shaped (.str s) then some (.bool (!PyData.eqv (.str s) (.str s))) else none := rfl
  rw [e, shaped_str h]
  show some (PyData.bool (!PyData.eqv (.str s) (.str s))) = _
  rw [PyData.eqv, beq_self_eq_true]; rfl
theorem gEq_str {s : Str} (h : PyData.strOk s = true) : gEq (.str s) (.str s) = some (.bool true) := by
  have e : gEq (.str s) (.str s) = if SeqAt.shaped (.str s) && SeqAt.shaped (.str s) then some (.bool (PyData.eqv (.str s) (.str s))) else none := rfl
  rw [e, shaped_str h]
  show some (PyData.bool (PyData.eqv (.str s) (.str s))) = _
  rw [PyData.eqv, beq_self_eq_true]
def rB1 : Ss := .cons (.set2 9 10 (.call 13 (.cons (.var 1) (.cons (.var 3) .nil)) .nil) (.app .repr (.cons (.ov 3) .nil)))
  (.cons (.ite [] (.or (.not (.tst (.call 10 (.cons (.lst (.cons (.var 9) (.cons (.var 9) .nil))) (.cons (.lst (.cons (.call 15 (.cons (.var 1) (.cons (.var 3) .nil)) .nil) (.cons (.call 14 .nil (.cons (.var 3) (.cons (.var 1) .nil))) .nil))) .nil)) .nil))) (.cmp .ne (.app .repr (.cons (.ov 3) .nil)) (.ov 10))) (.cons (.ret (.k (.bool false)))
  .nil) .nil)
  .nil)
theorem rB1_ok (W j : Nat) (hj : 6 ≤ j) {m : Nat} (h1 : 1 ≤ m) (h8 : m ≤ 8) {v : D} (hv : VOk v) (x2 x4 x5 x6 x7 x8 x9 x10 : Option Sl) (p : List D) :
    ∃ y9 y10, exs gm (sem gm W tbl j) W rB1 [some .pur, some (.fro (.int (m : Int))), x2, some (.fro v), x4, x5, x6, x7, x8, x9, x10] p = some (.nx [some .pur, some (.fro (.int (m : Int))), x2, some (.fro v), x4, x5, x6, x7, x8, y9, y10], p) := by
  obtain ⟨⟨s, hs, hso⟩, hsh⟩ := hv
  refine ⟨some (.fro (.bool (rowP m v))), some (.fro (.str s)), ?_⟩
  have a1 : ex gm (sem gm W tbl j) W (.set2 9 10 (.call 13 (.cons (.var 1) (.cons (.var 3) .nil)) .nil) (.app .repr (.cons (.ov 3) .nil))) [some .pur, some (.fro (.int (m : Int))), x2, some (.fro v), x4, x5, x6, x7, x8, x9, x10] p
      = some (.nx [some .pur, some (.fro (.int (m : Int))), x2, some (.fro v), x4, x5, x6, x7, x8, some (.fro (.bool (rowP m v))), some (.fro (.str s))], p) :=
    set2_at (e_call shp_13 (e_cons (e_var rfl) (e_cons (e_var rfl) e_nil)) e_nil ⟨rfl, rfl, rfl⟩ (sem_law_is_row W j (by omega) m h1 h8 v hsh p)) (e_repr (e_ov rfl) hs)
  have hex : sem gm W tbl j 14 [.list [.bool (rowP m v), .bool (rowP m v)], .list [.bool (rowP m v), .bool (rowP m v)]] p = some (.fro (.bool true), p) := sem_exact W 2 j (by omega) _ rfl p
  have t1 : ev gm (sem gm W tbl j) (.call 10 (.cons (.lst (.cons (.var 9) (.cons (.var 9) .nil))) (.cons (.lst (.cons (.call 15 (.cons (.var 1) (.cons (.var 3) .nil)) .nil) (.cons (.call 14 .nil (.cons (.var 3) (.cons (.var 1) .nil))) .nil))) .nil)) .nil) [some .pur, some (.fro (.int (m : Int))), x2, some (.fro v), x4, x5, x6, x7, x8, some (.fro (.bool (rowP m v))), some (.fro (.str s))] p = some (.bool true, p) := by
    refine e_call (r := .fro (.bool true)) shp_10 (e_cons (e_lst (e_cons (e_var rfl) (e_cons (e_var rfl) e_nil)) (by simp)) (e_cons (e_lst (e_cons (p1 := p) ?_ (e_cons ?_ e_nil)) ?_) e_nil)) e_nil ⟨rfl, rfl, rfl⟩ hex
    · exact e_call shp_15 (e_cons (e_var rfl) (e_cons (e_var rfl) e_nil)) e_nil ⟨rfl, rfl, rfl⟩ (sem_is_exchange_row W j (by omega) m h1 h8 v p)
    · exact e_call shp_14 e_nil (e_cons (e_var rfl) (e_cons (e_var rfl) e_nil)) ⟨rfl, rfl, rfl⟩ (sem_is_exchange_row W j (by omega) m h1 h8 v p)
    · simp
  have t2 : mB (ev gm (sem gm W tbl j) (.cmp .ne (.app .repr (.cons (.ov 3) .nil)) (.ov 10))) [some .pur, some (.fro (.int (m : Int))), x2, some (.fro v), x4, x5, x6, x7, x8, some (.fro (.bool (rowP m v))), some (.fro (.str s))] p = some (false, p) := by
    rw [ev_ne]
    exact mB_at (m2_eq (e_repr (e_ov rfl) hs) (e_ov rfl) (gNe_str hso))
  unfold rB1
  rw [exs_nx a1, exs_nx ((ite_f (t_or (t_not (t_tst t1)) t2)).trans (by rw [exs]; rfl)), exs]
  rfl
end K73

set_option Elab.async false
set_option linter.all false
set_option maxRecDepth 100000
set_option maxHeartbeats 8000000
namespace K73
open PySem PySem.Spec L2 PV
open PyProof.Rows hiding St cutD

section
variable {F : Nat → Sm} {W : Nat} {env : PV.Env} {p p1 p2 p3 : List D}
theorem iteB_f {i : Nat} {is : List Nat} {c : C} {a b : Ss} (h : mB (ev gm F c) (frzE env (i :: is)) p = some (false, p1)) (hi : (intsOf p1).isSome = true) : ex gm F W (.ite (i :: is) c a b) env p = exs gm F W b env p1 := by
  rw [ex]; unfold mIf
  have : mBor (i :: is) (mB (ev gm F c)) env p = some (false, p1) := by
    unfold mBor
    rw [h]
    simp only [hi, if_true]
  simp only [List.isEmpty_cons, Bool.false_eq_true, if_false, this]
theorem apd_at {i : Nat} {c : C} {ds : List D} {d : D} (h0 : (env : List (Option Sl))[i]? = some (some (.opn ds))) (h : ev gm F c env p = some (d, p1)) (hl : ds.length ≤ 1000) : ex gm F W (.apd i c) env p = some (.nx (List.set env i (some (.opn (ds ++ [d])))), p1) := by
  rw [ex]; unfold mApd
  rw [h0]
  simp only [h, Option.bind_some]
  rw [if_pos (Nat.lt_of_le_of_lt hl (by decide))]
theorem setX_call {i si : Nat} {es ks : Cs} {s : Sl} (h : mCallS gm F si (evs gm F es) (evs gm F ks) env p = some (s, p1)) : ex gm F W (.setX i (.call si es ks)) env p = some (.nx (List.set env i (some s)), p1) := by
  rw [ex, evX]; unfold mSet; rw [h]; rfl
end
theorem after_len {m : Nat} : ∀ (ds : List D) (l : List Int), ds.all (inR m) = true → l.length = m → (after l ds).length = m
  | [], l, _, hl => hl
  | d :: ds, l, h, hl => by
    rw [List.all_cons, Bool.and_eq_true] at h
    obtain ⟨i, rfl, hi⟩ := inR_int h.1
    rw [after, Int.toNat_natCast]
    exact after_len ds _ h.2 (by rw [exch_len l i (by omega)]; exact hl)
theorem exO_ints (n : Nat) : ∀ l : List Int, exOs (n + 1) (l.map PyData.int) = true
  | [] => rfl
  | x :: l => by rw [List.map_cons, exOs, exO_ints n l]; rfl
theorem exO_list (n : Nat) (l : List Int) (h : l.length ≤ 1000) : exO (n + 2) (iL l) = true := by
  show (decide ((l.map PyData.int).length ≤ 1000) && exOs (n + 1) (l.map PyData.int)) = true
  rw [exO_ints, List.length_map, decide_eq_true h]; rfl
def rB2 : Ss := .cons (.setX 8 (.call 16 (.cons (.var 1) (.cons (.var 2) (.cons (.var 6) .nil))) .nil))
  (.cons (.ite [8] (.not (.tst (.call 10 (.cons (.lst (.cons (.var 4) (.cons (.var 4) .nil))) (.cons (.lst (.cons (.var 8) (.cons (.call 17 .nil (.cons (.var 6) (.cons (.var 2) (.cons (.var 1) .nil)))) .nil))) .nil)) .nil))) (.cons (.ret (.k (.bool false)))
  .nil) .nil)
  (.cons (.apd 8 (.k (.str "more")))
  (.cons (.set 4 (.ite (.cmp .lt (.ov 6) (.app .len (.cons (.ov 2) .nil))) (.call 11 (.cons (.var 4) (.cons (.var 7) .nil)) .nil) (.var 4)))
  .nil)))
theorem rB2_ok (W j : Nat) (hj : 7 ≤ j) {m : Nat} (h1 : 1 ≤ m) (h8 : m ≤ 8) {f : List Int} (hr : rowP m (iL f) = true) (hf : f.length = tri m) (s : Nat) (hs : s ≤ f.length) (x : Int) (hx : s < f.length → ∃ i : Nat, x = (i : Int) ∧ i + 1 < m) (O : List Int) (hO : O = after (rng m) ((f.map PyData.int).take s)) (hOl : O.length = m)
    (x3 x5 x8 x9 x10 : Option Sl) {p : List D} (hp : (intsOf p).isSome = true) :
    exs gm (sem gm W tbl j) W rB2 [some .pur, some (.fro (.int (m : Int))), some (.fro (iL f)), x3, some (.fro (iL O)), x5, some (.fro (.int (s : Int))), some (.fro (.int x)), x8, x9, x10] p
      = some (.nx [some .pur, some (.fro (.int (m : Int))), some (.fro (iL f)), x3, some (.fro (iL (if s < f.length then exch O x.toNat else O))), x5, some (.fro (.int (s : Int))), some (.fro (.int x)), some (.opn (O.map PyData.int ++ [.str "more"])), x9, x10], p) := by
  have hb := sem_order_behind W j (by omega) m h1 h8 (f.map PyData.int) hr s (by rw [List.length_map]; exact hs) p
  rw [← hO] at hb
  have hl28 := tri28 h8
  have a1 : ex gm (sem gm W tbl j) W (.setX 8 (.call 16 (.cons (.var 1) (.cons (.var 2) (.cons (.var 6) .nil))) .nil)) [some .pur, some (.fro (.int (m : Int))), some (.fro (iL f)), x3, some (.fro (iL O)), x5, some (.fro (.int (s : Int))), some (.fro (.int x)), x8, x9, x10] p
      = some (.nx [some .pur, some (.fro (.int (m : Int))), some (.fro (iL f)), x3, some (.fro (iL O)), x5, some (.fro (.int (s : Int))), some (.fro (.int x)), some (.opn (O.map PyData.int)), x9, x10], p) :=
    setX_call (c_call shp_16 (e_cons (e_var rfl) (e_cons (e_var rfl) (e_cons (e_var rfl) e_nil))) e_nil ⟨rfl, rfl, rfl⟩ hb)
  have hex : sem gm W tbl j 14 [.list [iL O, iL O], .list [iL O, iL O]] p = some (.fro (.bool true), p) := by
    refine sem_exact W 4 j (by omega) _ ?_ p
    show (decide ([iL O, iL O].length ≤ 1000) && exOs 3 [iL O, iL O]) = true
    have e := exO_list 1 O (by omega)
    have : exOs 3 [iL O, iL O] = true := by
      rw [exOs, exOs, exOs, e]; rfl
    rw [this]; rfl
  have t1 : ev gm (sem gm W tbl j) (.call 10 (.cons (.lst (.cons (.var 4) (.cons (.var 4) .nil))) (.cons (.lst (.cons (.var 8) (.cons (.call 17 .nil (.cons (.var 6) (.cons (.var 2) (.cons (.var 1) .nil)))) .nil))) .nil)) .nil) [some .pur, some (.fro (.int (m : Int))), some (.fro (iL f)), x3, some (.fro (iL O)), x5, some (.fro (.int (s : Int))), some (.fro (.int x)), some (.fro (iL O)), x9, x10] p = some (.bool true, p) := by
    refine e_call (r := .fro (.bool true)) shp_10 (e_cons (e_lst (e_cons (e_var rfl) (e_cons (e_var rfl) e_nil)) (by simp)) (e_cons (e_lst (e_cons (p1 := p) (e_var rfl) (e_cons (x := iL O) ?_ e_nil)) (by simp)) e_nil)) e_nil ⟨rfl, rfl, rfl⟩ hex
    exact e_call (r := .opn (O.map PyData.int)) shp_17 e_nil (e_cons (e_var rfl) (e_cons (e_var rfl) (e_cons (e_var rfl) e_nil))) ⟨rfl, rfl, rfl⟩ hb
  have a2 : ex gm (sem gm W tbl j) W (.ite [8] (.not (.tst (.call 10 (.cons (.lst (.cons (.var 4) (.cons (.var 4) .nil))) (.cons (.lst (.cons (.var 8) (.cons (.call 17 .nil (.cons (.var 6) (.cons (.var 2) (.cons (.var 1) .nil)))) .nil))) .nil)) .nil))) (.cons (.ret (.k (.bool false))) .nil) .nil) [some .pur, some (.fro (.int (m : Int))), some (.fro (iL f)), x3, some (.fro (iL O)), x5, some (.fro (.int (s : Int))), some (.fro (.int x)), some (.opn (O.map PyData.int)), x9, x10] p
      = some (.nx [some .pur, some (.fro (.int (m : Int))), some (.fro (iL f)), x3, some (.fro (iL O)), x5, some (.fro (.int (s : Int))), some (.fro (.int x)), some (.opn (O.map PyData.int)), x9, x10], p) := by
    have t1' := t_not (t_tst t1)
    exact (iteB_f (p1 := p) t1' hp).trans (by rw [exs]; rfl)
  have a3 := apd_at (F := sem gm W tbl j) (W := W) (i := 8) (c := .k (.str "more")) (env := [some .pur, some (.fro (.int (m : Int))), some (.fro (iL f)), x3, some (.fro (iL O)), x5, some (.fro (.int (s : Int))), some (.fro (.int x)), some (.opn (O.map PyData.int)), x9, x10]) (p := p) (p1 := p) (d := .str "more") (ds := O.map PyData.int) rfl (e_k _) (by rw [List.length_map]; omega)
  have hlen : ((f.map PyData.int).length : Int) = (f.length : Int) := by rw [List.length_map]
  have a4 : ev gm (sem gm W tbl j) (.ite (.cmp .lt (.ov 6) (.app .len (.cons (.ov 2) .nil))) (.call 11 (.cons (.var 4) (.cons (.var 7) .nil)) .nil) (.var 4)) [some .pur, some (.fro (.int (m : Int))), some (.fro (iL f)), x3, some (.fro (iL O)), x5, some (.fro (.int (s : Int))), some (.fro (.int x)), some (.opn (O.map PyData.int ++ [.str "more"])), x9, x10] p
      = some (iL (if s < f.length then exch O x.toNat else O), p) := by
    refine e_ite (t_lt (e_ov rfl) (e_len (e_ov rfl))) ?_
    rw [hlen]
    by_cases hlt : s < f.length
    · obtain ⟨i, rfl, hi⟩ := hx hlt
      rw [decide_eq_true (by omega : (s : Int) < (f.length : Int)), if_pos rfl, if_pos hlt, Int.toNat_natCast]
      exact e_call (r := .opn ((exch O i).map PyData.int)) shp_11 (e_cons (e_var rfl) (e_cons (e_var rfl) e_nil)) e_nil ⟨rfl, rfl, rfl⟩ (sem_lexchanged W j (by omega) O i (by omega) (by omega) p)
    · rw [decide_eq_false (by omega : ¬ (s : Int) < (f.length : Int)), if_neg Bool.false_ne_true, if_neg hlt]
      exact e_var rfl
  unfold rB2
  rw [exs_nx a1, exs_nx a2, exs_nx a3]
  refine (exs_nx (set_at a4)).trans ?_
  rw [exs]; rfl
theorem rB2_loop (W j : Nat) (hj : 7 ≤ j) {m : Nat} (h1 : 1 ≤ m) (h8 : m ≤ 8) {f : List Int} (hr : rowP m (iL f) = true) (hf : f.length = tri m) (hin : (f.map PyData.int).all (inR m) = true) (x3 x5 x9 x10 : Option Sl) {p : List D} (hp : (intsOf p).isSome = true) :
    ∀ (rest done : List Int) (x6 x7 x8 : Option Sl), f = done ++ rest → ∃ y6 y7 y8, goF (.tp [.nm 6, .nm 7]) (exs gm (sem gm W tbl j) W rB2) (enumD done.length (rest.map PyData.int ++ [.int 0])) [some .pur, some (.fro (.int (m : Int))), some (.fro (iL f)), x3, some (.fro (iL (after (rng m) (done.map PyData.int)))), x5, x6, x7, x8, x9, x10] p
      = some (.nx [some .pur, some (.fro (.int (m : Int))), some (.fro (iL f)), x3, some (.fro (iL (after (rng m) (f.map PyData.int)))), x5, y6, y7, y8, x9, x10], p) := by
  intro rest
  induction rest with
  | nil =>
    intro done x6 x7 x8 e
    rw [List.append_nil] at e
    subst e
    have hO : after (rng m) (f.map PyData.int) = after (rng m) ((f.map PyData.int).take f.length) := by rw [List.take_of_length_le (by rw [List.length_map]; exact Nat.le_refl _)]
    have hb := rB2_ok W j hj h1 h8 hr hf f.length (Nat.le_refl _) 0 (fun h => absurd h (Nat.lt_irrefl _)) _ hO (after_len _ _ hin (rng_len m)) x3 x5 x8 x9 x10 hp
    rw [if_neg (Nat.lt_irrefl _)] at hb
    refine ⟨some (.fro (.int (f.length : Int))), some (.fro (.int 0)), some (.opn ((after (rng m) (f.map PyData.int)).map PyData.int ++ [.str "more"])), ?_⟩
    rw [List.map_nil, List.nil_append, enumD, enumD]
    rw [goF_nx (e1 := [some .pur, some (.fro (.int (m : Int))), some (.fro (iL f)), x3, some (.fro (iL (after (rng m) (f.map PyData.int)))), x5, some (.fro (.int (f.length : Int))), some (.fro (.int 0)), x8, x9, x10]) (by rw [bT_tp, bA_cons, bT_nm]; simp only [Option.bind_some]; rw [bA_cons, bT_nm]; simp only [Option.bind_some]; rw [bA_nil]; rfl) hb, goF]
  | cons a rest ih =>
    intro done x6 x7 x8 e
    have hlt : done.length < f.length := by rw [e, List.length_append, List.length_cons]; omega
    have ha : ∃ i : Nat, a = (i : Int) ∧ i + 1 < m := by
      rw [List.all_eq_true] at hin
      have := hin (.int a) (List.mem_map.mpr ⟨a, by rw [e]; simp, rfl⟩)
      obtain ⟨i, h, hi⟩ := inR_int this
      cases h
      exact ⟨i, rfl, hi⟩
    have htk : (f.map PyData.int).take done.length = done.map PyData.int := by
      rw [e, List.map_append, List.take_append_of_le_length (by rw [List.length_map]; exact Nat.le_refl _), List.take_of_length_le (by rw [List.length_map]; exact Nat.le_refl _)]
    have hdin : (done.map PyData.int).all (inR m) = true := by
      rw [e, List.map_append, List.all_append, Bool.and_eq_true] at hin
      exact hin.1
    have hb := rB2_ok W j hj h1 h8 hr hf done.length (by omega) a (fun _ => ha) (after (rng m) (done.map PyData.int)) (by rw [htk]) (after_len _ _ hdin (rng_len m)) x3 x5 x8 x9 x10 hp
    rw [if_pos hlt] at hb
    have haf : exch (after (rng m) (done.map PyData.int)) a.toNat = after (rng m) ((done ++ [a]).map PyData.int) := (after_app a done (rng m)).symm
    rw [haf] at hb
    obtain ⟨y6, y7, y8, hy⟩ := ih (done ++ [a]) (some (.fro (.int (done.length : Int)))) (some (.fro (.int a))) (some (.opn ((after (rng m) (done.map PyData.int)).map PyData.int ++ [.str "more"]))) (by rw [e]; simp)
    refine ⟨y6, y7, y8, ?_⟩
    rw [List.map_cons, List.cons_append, enumD]
    rw [goF_nx (e1 := [some .pur, some (.fro (.int (m : Int))), some (.fro (iL f)), x3, some (.fro (iL (after (rng m) (done.map PyData.int)))), x5, some (.fro (.int (done.length : Int))), some (.fro (.int a)), x8, x9, x10]) (by rw [bT_tp, bA_cons, bT_nm]; simp only [Option.bind_some]; rw [bA_cons, bT_nm]; simp only [Option.bind_some]; rw [bA_nil]; rfl) hb]
    have hl1 : (done ++ [a]).length = done.length + 1 := by simp
    rw [hl1] at hy
    exact hy
end K73

set_option Elab.async false
set_option linter.all false
set_option maxRecDepth 100000
set_option maxHeartbeats 8000000
namespace K73
open PySem PySem.Spec L2 PV
open PyProof.Rows hiding St cutD

theorem rB1_loop (W j : Nat) (hj : 6 ≤ j) {m : Nat} (h1 : 1 ≤ m) (h8 : m ≤ 8) (x2 x4 x5 x6 x7 x8 : Option Sl) (p : List D) : ∀ (vs : List D) (x3 x9 x10 : Option Sl), (∀ v ∈ vs, VOk v) →
    ∃ y3 y9 y10, goF (.nm 3) (exs gm (sem gm W tbl j) W rB1) vs [some .pur, some (.fro (.int (m : Int))), x2, x3, x4, x5, x6, x7, x8, x9, x10] p = some (.nx [some .pur, some (.fro (.int (m : Int))), x2, y3, x4, x5, x6, x7, x8, y9, y10], p) := by
  intro vs
  induction vs with
  | nil => exact fun x3 x9 x10 _ => ⟨x3, x9, x10, by rw [goF]⟩
  | cons v vs ih =>
    intro x3 x9 x10 h
    obtain ⟨z9, z10, hb⟩ := rB1_ok W j hj h1 h8 (h v (List.mem_cons_self ..)) x2 x4 x5 x6 x7 x8 x9 x10 p
    obtain ⟨y3, y9, y10, hy⟩ := ih (some (.fro v)) z9 z10 fun q hq => h q (List.mem_cons_of_mem _ hq)
    refine ⟨y3, y9, y10, ?_⟩
    rw [goF_nx (e1 := [some .pur, some (.fro (.int (m : Int))), x2, some (.fro v), x4, x5, x6, x7, x8, x9, x10]) (by rw [bT_nm]; rfl) hb]
    exact hy
section
variable {F : Nat → Sm} {W : Nat} {env : PV.Env} {p p1 p2 p3 : List D}
theorem for_at {T : Tg} {it : PV.It} {b : Ss} {items : List D} {o : Option (PV.Out × List D)} (hi : evI gm F it env p = some (items, p1)) (h : goF T (exs gm F W b) items env p1 = o) : ex gm F W (.for T it b) env p = o := by
  rw [ex]; unfold mFor; rw [hi]; exact h
theorem e_enum {es : Cs} {xs : List D} (h : evs gm F es env p = some ([.list xs], p1)) : evI gm F (.enum es) env p = some (enumD 0 xs, p1) := by
  rw [evI]; unfold mEnum; rw [h]
theorem ret_and {a b : C} {d : D} (h : ev gm F (.and a b) env p = some (d, p1)) : ex gm F W (.ret (.and a b)) env p = some (.rt (.fro d), p1) := by
  rw [ex, evX]
  · unfold mRet mFro; rw [h]; rfl
  all_goals (intros; contradiction)
theorem e_lrg1 {m : Nat} (h8 : m ≤ 8) {i : Nat} (h : (env : List (Option Sl))[i]? = some (some (.fro (.int (m : Int))))) : ev gm F (.lrg1 (.ov i)) env p = some (iL (rng m), p) := by
  rw [ev_lrg1, ev_ov]
  exact mList_at (lrg1_ov h8 h)
theorem e_revl {m : Nat} (h8 : m ≤ 8) {i : Nat} (h : (env : List (Option Sl))[i]? = some (some (.fro (.int (m : Int))))) : ev gm F (.rev (.lrg1 (.ov i))) env p = some (iL (rng m).reverse, p) := by
  have := e_rev (e_lrg1 (F := F) (p := p) h8 h)
  rw [← List.map_reverse] at this
  exact this
end
theorem Pok.ints {n : Nat} {p : List D} (h : Pok n p) : (intsOf p).isSome = true := by
  obtain ⟨p0, p1, p2, p3, rfl, _⟩ := h
  rfl
theorem sem_right (W k : Nat) (hk : 9 ≤ k) (hW : 100 ≤ W) {n : Nat} (hn : n ≤ 1000) {p : List D} (hp : Pok n p) : ∃ p', Pok (n + 40) p' ∧ sem gm W tbl k 21 [] p = some (.fro (.bool true), p') := by
  obtain ⟨j, rfl⟩ : ∃ j, k = j + 1 := ⟨k - 1, by omega⟩
  obtain ⟨d, p1, hd, hp1, hdr⟩ := sem_draw W j (by omega) 8 (by decide) (by decide) n (by omega) p hp
  obtain ⟨m, hm⟩ : ∃ m : Nat, m = 1 + d := ⟨_, rfl⟩
  have hmI : (1 : Int) + (d : Int) = (m : Int) := by omega
  have h1 : 1 ≤ m := by omega
  have h8 : m ≤ 8 := by omega
  obtain ⟨f, p2, R, hp2, hrow⟩ := sem_law_row W j (by omega) hW h1 h8 (n := n + 1) (by omega) hp1
  obtain ⟨hf, hrp⟩ := R.ok h8
  have ht := tri28 h8
  have hin := R.inr
  have hbd : ∀ x ∈ f, 0 ≤ x ∧ x ≤ 6 := fun x hx => by
    have h := List.all_eq_true.mp hin (.int x) (List.mem_map.mpr ⟨x, hx, rfl⟩)
    obtain ⟨i, e, hi⟩ := inR_int h
    cases e
    omega
  obtain ⟨vs, p3, hvs, hvl, hp3, hbent⟩ := sem_bent W j (by omega) h1 h8 hf hbd (n := n + 1 + tri m) (by omega) hp2
  have hvf : VOk (iL f) := vok_list (el_ints fun x hx => by have := hbd x hx; omega) (by rw [List.length_map]; omega)
  obtain ⟨s, hs, hso⟩ := hvf.rep
  refine ⟨p3, hp3.mono (by omega), ?_⟩
  show runD gm (sem gm W tbl j) W d__law_right [] p = _
  refine run_rt (f := d__law_right) ?_
  rw [d__law_right, b__law_right]
  have a1 : ex gm (sem gm W tbl j) W (.set 1 (.bin .add (.k (.int 1)) (.callP 0 0 (.cons (.k (.int 8)) .nil)))) [some .pur, none, none, none, none, none, none, none, none, none, none] p = some (.nx [some .pur, some (.fro (.int (m : Int))), none, none, none, none, none, none, none, none, none], p1) := by
    rw [← hmI]
    exact set_at (e_addI (e_k _) (e_draw rfl (e_k _) hdr))
  have a2 : ex gm (sem gm W tbl j) W (.set 2 (.callP 2 0 (.cons (.var 1) .nil))) [some .pur, some (.fro (.int (m : Int))), none, none, none, none, none, none, none, none, none] p1 = some (.nx [some .pur, some (.fro (.int (m : Int))), some (.fro (iL f)), none, none, none, none, none, none, none, none], p2) :=
    set_at (e_callP pshp_2 rfl (e_cons (e_var rfl) e_nil) rfl hrow)
  obtain ⟨y3, y9, y10, hl1⟩ := rB1_loop W j (by omega) h1 h8 (some (.fro (iL f))) none none none none none p3 (iL f :: vs) none none none (fun v hv => by
    rcases List.mem_cons.mp hv with rfl | hv
    · exact hvf
    · exact hvs v hv)
  have a3 : ex gm (sem gm W tbl j) W (.for (.nm 3) (.seq (.bin .add (.lst (.cons (.var 2) .nil)) (.callP 3 0 (.cons (.var 1) (.cons (.var 2) .nil))))) rB1) [some .pur, some (.fro (.int (m : Int))), some (.fro (iL f)), none, none, none, none, none, none, none, none] p2
      = some (.nx [some .pur, some (.fro (.int (m : Int))), some (.fro (iL f)), y3, none, none, none, none, none, y9, y10], p3) :=
    for_at (items := iL f :: vs) (e_seq (e_add (xs := [iL f]) (e_lst (e_cons (e_var rfl) e_nil) (by simp)) (e_callP (r := .fro (.list vs)) pshp_3 rfl (e_cons (e_var rfl) (e_cons (e_var rfl) e_nil)) rfl hbent) (by rw [List.length_singleton]; omega))) hl1
  have a4 : ex gm (sem gm W tbl j) W (.set2 4 5 (.lrg1 (.ov 1)) (.app .repr (.cons (.ov 2) .nil))) [some .pur, some (.fro (.int (m : Int))), some (.fro (iL f)), y3, none, none, none, none, none, y9, y10] p3
      = some (.nx [some .pur, some (.fro (.int (m : Int))), some (.fro (iL f)), y3, some (.fro (iL (rng m))), some (.fro (.str s)), none, none, none, y9, y10], p3) :=
    set2_at (e_lrg1 h8 rfl) (e_repr (e_ov rfl) hs)
  obtain ⟨z6, z7, z8, hl2⟩ := rB2_loop W j (by omega) h1 h8 hrp hf hin y3 (some (.fro (.str s))) y9 y10 hp3.ints f [] none none none rfl
  rw [R.aft] at hl2
  have a5 : ex gm (sem gm W tbl j) W (.for (.tp [.nm 6, .nm 7]) (.enum (.cons (.bin .add (.ov 2) (.lst (.cons (.k (.int 0)) .nil))) .nil)) rB2) [some .pur, some (.fro (.int (m : Int))), some (.fro (iL f)), y3, some (.fro (iL (rng m))), some (.fro (.str s)), none, none, none, y9, y10] p3
      = some (.nx [some .pur, some (.fro (.int (m : Int))), some (.fro (iL f)), y3, some (.fro (iL (rng m).reverse)), some (.fro (.str s)), z6, z7, z8, y9, y10], p3) :=
    for_at (e_enum (e_cons (e_add (e_ov rfl) (e_lst (e_cons (e_k _) e_nil) (by decide)) (by rw [List.length_map, List.length_singleton]; omega)) e_nil)) hl2
  have a6 : ex gm (sem gm W tbl j) W (.ret (.and (.cmp .eq (.ov 4) (.rev (.lrg1 (.ov 1)))) (.cmp .eq (.app .repr (.cons (.ov 2) .nil)) (.ov 5)))) [some .pur, some (.fro (.int (m : Int))), some (.fro (iL f)), y3, some (.fro (iL (rng m).reverse)), some (.fro (.str s)), z6, z7, z8, y9, y10] p3
      = some (.rt (.fro (.bool true)), p3) := by
    refine ret_and (e_and (p1 := p3) ?_ ?_)
    · rw [ev_eq]
      refine m2_eq (e_ov rfl) (e_revl h8 rfl) ?_
      rw [gEq_ints, decide_eq_true rfl]
    · rw [ev_eq]
      exact m2_eq (e_repr (e_ov rfl) hs) (e_ov rfl) (gEq_str hso)
  unfold rB1 at a3
  unfold rB2 at a5
  refine (exs_nx a1).trans ?_
  rw [exs_nx a2, exs_nx a3, exs_nx a4, exs_nx a5]
  exact exs_rt a6
/-- what the law's loop over the purses needs -/
theorem right_spin (W j : Nat) (hj : 9 ≤ j) (hW : 100 ≤ W) {n : Nat} (hn : n ≤ 1000) {p : List D} (hp : Pok n p) (x0 x2 x3 x4 : Option Sl) : ∃ p', Pok (n + 40) p' ∧
    exs gm (sem gm W tbl j) W (.cons (.ite [] (.not (.tst (.callP 4 1 .nil))) (.cons (.ret (.k (.bool false))) .nil) .nil) .nil) [x0, some .pur, x2, x3, x4] p = some (.nx [x0, some .pur, x2, x3, x4], p') := by
  obtain ⟨p', hp', h⟩ := sem_right W j hj hW hn hp
  refine ⟨p', hp', ?_⟩
  have t := t_not (t_tst (b := true) (e_callP (env := [x0, some .pur, x2, x3, x4]) (i := 1) (r := .fro (.bool true)) pshp_4 rfl e_nil rfl h))
  rw [exs_nx ((ite_f t).trans (by rw [exs]; rfl)), exs]
  rfl
theorem good_pok {p : List Int} (h : GoodP p) : Pok 0 (p.map PyData.int) := by
  obtain ⟨s, a, h0, h1, rfl⟩ := h
  refine ⟨_, _, _, _, rfl, Int.fmod_nonneg_of_pos _ (by decide +kernel), ⟨Int.fmod_nonneg_of_pos _ (by decide), Int.fmod_lt_of_pos _ (by decide)⟩, ⟨Int.le_refl _, Int.le_refl _⟩, h0, h1⟩
theorem lawA (W j : Nat) (hj : 9 ≤ j) (hW : 100 ≤ W) (p : List Int) (hp : GoodP p) : ∃ e p', exs gm (sem gm W tbl j) W b_law1 (env0 5 1) (p.map PyData.int) = some (.nx e, p') := by
  have hp0 := good_pok hp
  obtain ⟨p1, hp1, e1⟩ := right_spin W j hj hW (n := 0) (by decide) hp0 none none (some (.fro (.int (0 + ((0 : Nat) : Int))))) none
  obtain ⟨p2, hp2, e2⟩ := right_spin W j hj hW (n := 0 + 40) (by decide) hp1 none none (some (.fro (.int (0 + ((1 : Nat) : Int))))) none
  obtain ⟨p3, hp3, e3⟩ := right_spin W j hj hW (n := 0 + 40 + 40) (by decide) hp2 none none (some (.fro (.int (0 + ((2 : Nat) : Int))))) none
  refine ⟨[none, some .pur, none, some (.fro (.int (0 + ((2 : Nat) : Int)))), none], p3, ?_⟩
  have hi : evI gm (sem gm W tbl j) (.rng1 (.cons (.k (.int 3)) .nil)) [none, some .pur, none, none, none] (p.map PyData.int) = some ([.int (0 + ((0 : Nat) : Int)), .int (0 + ((1 : Nat) : Int)), .int (0 + ((2 : Nat) : Int))], p.map PyData.int) := by
    rw [evI]
    exact rng1_eq (e_cons (e_k _) e_nil) (by decide)
  show exs gm (sem gm W tbl j) W b_law1 [none, some .pur, none, none, none] (p.map PyData.int) = _
  unfold b_law1
  refine (exs_nx (for_at hi ?_)).trans (by rw [exs]; rfl)
  rw [goF_nx (e1 := [none, some .pur, none, some (.fro (.int (0 + ((0 : Nat) : Int)))), none]) (by rw [bT_nm]; rfl) e1, goF_nx (e1 := [none, some .pur, none, some (.fro (.int (0 + ((1 : Nat) : Int)))), none]) (by rw [bT_nm]; rfl) e2, goF_nx (e1 := [none, some .pur, none, some (.fro (.int (0 + ((2 : Nat) : Int)))), none]) (by rw [bT_nm]; rfl) e3, goF]
end K73

set_option Elab.async false
set_option linter.all false
set_option maxRecDepth 100000
set_option maxHeartbeats 8000000
namespace K73
open PySem PySem.Spec L2 PV
open PyProof.Rows hiding St cutD

/-! ### all rows, counted -/
def cnt (m : Nat) : Nat → List Int → Nat × Nat
  | 0, _ => (1, 1)
  | d + 1, o => if asc o (m - 1) = [] then (1, 1) else (((asc o (m - 1)).map fun i => (cnt m d (exch o i)).1).sum, 1 + ((asc o (m - 1)).map fun i => (cnt m d (exch o i)).2).sum)
theorem cnt5 : cnt 5 10 (rng 5) = (768, 3061) := by decide +kernel
theorem cnt4 : cnt 4 6 (rng 4) = (16, 66) := by decide +kernel
theorem cnt3 : cnt 3 3 (rng 3) = (2, 7) := by decide +kernel
theorem cnt2 : cnt 2 1 (rng 2) = (1, 2) := by decide +kernel
theorem cnt1 : cnt 1 0 (rng 1) = (1, 1) := by decide +kernel
abbrev Pr := List Int × List Int
def enc (q : Pr) : D := .tuple [iL q.1, iL q.2]
def cq (m : Nat) (q : Pr) : Nat × Nat := cnt m (tri m - inv q.2) q.2
def lv (m : Nat) (L : List Pr) : Nat := (L.map fun q => (cq m q).1).sum
def nd (m : Nat) (L : List Pr) : Nat := (L.map fun q => (cq m q).2).sum
theorem lv_app (m : Nat) (a b : List Pr) : lv m (a ++ b) = lv m a + lv m b := by unfold lv; rw [List.map_append, List.sum_append]
theorem nd_app (m : Nat) (a b : List Pr) : nd m (a ++ b) = nd m a + nd m b := by unfold nd; rw [List.map_append, List.sum_append]
def WFp (m : Nat) (q : Pr) : Prop := q.2.Perm (rng m) ∧ q.1.length = inv q.2
def kids (m : Nat) (q : Pr) : List Pr := (asc q.2 (m - 1)).map fun (i : Nat) => (q.1 ++ [(i : Int)], exch q.2 i)
theorem kids_wf {m : Nat} {q : Pr} (h : WFp m q) : ∀ x ∈ kids m q, WFp m x := by
  intro x hx
  obtain ⟨i, hi, rfl⟩ := List.mem_map.mp hx
  obtain ⟨h1, h2⟩ := asc_mem hi
  have hl : q.2.length = m := h.1.length_eq.trans (rng_len m)
  refine ⟨(exch_perm _ _ (by omega)).trans h.1, ?_⟩
  show (q.1 ++ [(i : Int)]).length = inv (exch q.2 i)
  rw [inv_exch _ _ (by omega) h2, List.length_append, h.2]; rfl
theorem cq_leaf {m : Nat} {q : Pr} (h : asc q.2 (m - 1) = []) : cq m q = (1, 1) := by
  unfold cq
  cases tri m - inv q.2 with
  | zero => rfl
  | succ d => rw [cnt, if_pos h]
theorem cq_kids {m : Nat} {q : Pr} (hw : WFp m q) (h : asc q.2 (m - 1) ≠ []) : cq m q = (lv m (kids m q), 1 + nd m (kids m q)) := by
  have hl : q.2.length = m := hw.1.length_eq.trans (rng_len m)
  obtain ⟨i, hi⟩ := List.exists_mem_of_ne_nil _ h
  obtain ⟨h1, h2⟩ := asc_mem hi
  have hle := inv_le (exch q.2 i)
  rw [inv_exch _ _ (by omega) h2, exch_len _ _ (by omega), hl] at hle
  obtain ⟨d, hd⟩ : ∃ d, tri m - inv q.2 = d + 1 := ⟨tri m - inv q.2 - 1, by omega⟩
  have key : ∀ i ∈ asc q.2 (m - 1), cq m (q.1 ++ [(i : Int)], exch q.2 i) = cnt m d (exch q.2 i) := fun i hi => by
    obtain ⟨h1, h2⟩ := asc_mem hi
    show cnt m (tri m - inv (exch q.2 i)) (exch q.2 i) = _
    rw [inv_exch _ _ (by omega) h2]
    have : tri m - (inv q.2 + 1) = d := by omega
    rw [this]
  unfold cq
  rw [hd, cnt, if_neg h]
  have e1 : (asc q.2 (m - 1)).map (fun i => (cnt m d (exch q.2 i)).1) = (kids m q).map (fun q => (cq m q).1) := by
    unfold kids
    rw [List.map_map]
    apply List.map_congr_left
    intro i hi
    rw [← key i hi]; rfl
  have e2 : (asc q.2 (m - 1)).map (fun i => (cnt m d (exch q.2 i)).2) = (kids m q).map (fun q => (cq m q).2) := by
    unfold kids
    rw [List.map_map]
    apply List.map_congr_left
    intro i hi
    rw [← key i hi]; rfl
  rw [e1, e2]; rfl
theorem cq_pos {m : Nat} (q : Pr) : 1 ≤ (cq m q).2 := by
  unfold cq
  cases tri m - inv q.2 with
  | zero => exact Nat.le_refl _
  | succ d =>
    rw [cnt]
    split
    · exact Nat.le_refl _
    · show 1 ≤ 1 + _; omega
theorem nd_len {m : Nat} : ∀ L : List Pr, L.length ≤ nd m L
  | [] => Nat.zero_le _
  | q :: L => by
    have h1 := cq_pos (m := m) q
    have h2 := nd_len (m := m) L
    have : nd m (q :: L) = (cq m q).2 + nd m L := by unfold nd; rw [List.map_cons, List.sum_cons]
    rw [this, List.length_cons]; omega
theorem big (n : Nat) (h : n ≤ 1000000) : n ≤ sizeMax := Nat.le_trans h (by decide)
theorem enc_shape : ∀ L : List Pr, PyData.canLayAll0 (L.map enc) = true ∧ PyData.depthAll (L.map enc) ≤ 2
  | [] => ⟨rfl, Nat.zero_le _⟩
  | q :: L => by
    obtain ⟨h1, h2⟩ := enc_shape L
    have e : PyData.canLay0 (enc q) = true := by
      show PyData.canLayAll0 [iL q.1, iL q.2] = true
      rw [PyData.canLayAll0, PyData.canLayAll0, PyData.canLayAll0]
      have a1 : PyData.canLay0 (iL q.1) = true := canLay_ints q.1
      have a2 : PyData.canLay0 (iL q.2) = true := canLay_ints q.2
      rw [a1, a2]; rfl
    have e2 : PyData.depth (enc q) ≤ 2 := by
      show PyData.depth (.tuple [.list _, .list _]) ≤ 2
      rw [PyData.depth, PyData.depthAll, PyData.depthAll, PyData.depthAll, PyData.depth, PyData.depth, depth_ints, depth_ints]; decide
    refine ⟨?_, ?_⟩
    · rw [List.map_cons, PyData.canLayAll0, e, h1]; rfl
    · rw [List.map_cons, PyData.depthAll]; omega
theorem shaped_enc (L : List Pr) : SeqAt.shaped (.list (L.map enc)) = true := by
  obtain ⟨h1, h2⟩ := enc_shape L
  unfold SeqAt.shaped
  rw [Bool.and_eq_true, decide_eq_true_eq]
  refine ⟨h1, ?_⟩
  show PyData.depth (.list (L.map enc)) ≤ 64
  rw [PyData.depth]; omega
end K73

set_option Elab.async false
set_option linter.all false
set_option maxRecDepth 100000
set_option maxHeartbeats 8000000
namespace K73
open PySem PySem.Spec L2 PV
open PyProof.Rows hiding St cutD

section
variable {F : Nat → Sm} {W : Nat} {env : PV.Env} {p p1 p2 p3 : List D}
theorem pop_at {T : Tg} {i : Nat} {ds : List D} {d : D} {e : PV.Env} (h0 : (env : List (Option Sl))[i]? = some (some (.opn (ds ++ [d])))) (hb : bindT T d (List.set env i (some (.opn ds))) = some e) : ex gm F W (.pop T i) env p = some (.nx e, p) := by
  rw [ex]; unfold mPop
  rw [h0]
  have h1 : (ds ++ [d])[(ds ++ [d]).length - 1]? = some d := by
    rw [List.length_append, List.length_singleton, Nat.add_sub_cancel, List.getElem?_append_right (Nat.le_refl _), Nat.sub_self]; rfl
  simp only [h1, Option.bind_some, List.dropLast_concat, hb, Option.map_some]
theorem e_compIf {T : Tg} {own : List Nat} {it : PV.It} {t elt : C} {items ds : List D} (hi : evI gm F it env p = some (items, p1)) (hl : items.length ≤ 1000) (hg : goC T (wipeE env own) (mB (ev gm F t)) (ev gm F elt) items p1 = some (ds, p2)) : ev gm F (.compIf T own it t elt) env p = some (.list ds, p2) := by
  rw [ev]; refine mList_at ?_; unfold mComp
  rw [hi]
  simp only [Option.bind_some]
  rw [if_pos (small _ hl)]
  exact hg
theorem setX_cat {i : Nat} {a b : C} {xs ys : List D} (h1 : ev gm F a env p = some (.list xs, p1)) (h2 : ev gm F b env p1 = some (.list ys, p2)) (hl : xs.length + ys.length ≤ 1000000) : ex gm F W (.setX i (.cat a b)) env p = some (.nx (List.set env i (some (.opn (xs ++ ys)))), p2) := by
  rw [ex, evX]; unfold mSet mOpn mCat
  rw [h1]
  simp only [h2, if_pos (big _ hl)]
  rfl
theorem e_ovO {i : Nat} {ds : List D} (h : (env : List (Option Sl))[i]? = some (some (.opn ds))) : ev gm F (.ov i) env p = some (.list ds, p) := by
  rw [ev_ov]; unfold mOv; rw [h]
theorem e_rng1 {a : C} {b : Int} (h : ev gm F a env p = some (.int b, p1)) (hb : -1000 ≤ b ∧ b ≤ 1000) : evI gm F (.rng1 (.cons a .nil)) env p = some (rgD 0 b, p1) := by
  rw [evI]; exact rng1_eq (e_cons h e_nil) hb
end
def alT : C := .cmp .ne (.ov 1) (.lst .nil)
def alB : Ss := .cons (.pop (.tp [.nm 4, .nm 5]) 1)
  (.cons (.set 3 (.compIf (.nm 6) [6] (.rng1 (.cons (.bin .sub (.ov 0) (.k (.int 1))) .nil)) (.cmp .lt (.ix (.ov 5) (.ov 6)) (.ix (.ov 5) (.bin .add (.ov 6) (.k (.int 1))))) (.var 6)))
  (.cons (.ite [] (.cmp .eq (.ov 3) (.lst .nil)) (.cons (.apd 2 (.var 4))
  .nil) .nil)
  (.cons (.setX 1 (.cat (.ov 1) (.comp (.nm 6) [6] (.seq (.ov 3)) (.tup (.cons (.bin .add (.ov 4) (.lst (.cons (.var 6) .nil))) (.cons (.call 11 (.cons (.var 5) (.cons (.var 6) .nil)) .nil) .nil))))))
  .nil)))
def ascI (m : Nat) (o : List Int) : List Int := (asc o (m - 1)).map fun (i : Nat) => (i : Int)
theorem alB_ok (W j : Nat) (hj : 1 ≤ j) {m : Nat} (h1 : 1 ≤ m) (h8 : m ≤ 8) (L : List Pr) (q : Pr) (hq : WFp m q) (Fs : List (List Int)) (hL : L.length + 8 ≤ 100000) (hF : Fs.length ≤ 1000) (x3 x4 x5 x6 : Option Sl) (p : List D) :
    ∃ y3 y4 y5 y6, exs gm (sem gm W tbl j) W alB [some (.fro (.int (m : Int))), some (.opn ((L ++ [q]).map enc)), some (.opn (Fs.map iL)), x3, x4, x5, x6] p
      = some (.nx [some (.fro (.int (m : Int))), some (.opn ((L ++ kids m q).map enc)), some (.opn ((if asc q.2 (m - 1) = [] then Fs ++ [q.1] else Fs).map iL)), y3, y4, y5, y6], p) := by
  obtain ⟨r, o⟩ := q
  have hl : o.length = m := hq.1.length_eq.trans (rng_len m)
  have hr : r.length ≤ 28 := by
    have := inv_le o
    have h28 := tri28 h8
    have : r.length = inv o := hq.2
    rw [hl] at *
    omega
  refine ⟨some (.fro (iL (ascI m o))), some (.fro (iL r)), some (.fro (iL o)), x6, ?_⟩
  have a1 : ex gm (sem gm W tbl j) W (.pop (.tp [.nm 4, .nm 5]) 1) [some (.fro (.int (m : Int))), some (.opn ((L ++ [(r, o)]).map enc)), some (.opn (Fs.map iL)), x3, x4, x5, x6] p
      = some (.nx [some (.fro (.int (m : Int))), some (.opn (L.map enc)), some (.opn (Fs.map iL)), x3, some (.fro (iL r)), some (.fro (iL o)), x6], p) := by
    rw [List.map_append]
    refine pop_at (ds := L.map enc) (d := enc (r, o)) rfl ?_
    unfold enc
    rw [bT_tp, bA_cons, bT_nm]; simp only [Option.bind_some]; rw [bA_cons, bT_nm]; simp only [Option.bind_some]; rw [bA_nil]; rfl
  have hasc2 : (asc o (m - 1)).length ≤ 7 := by
    have := List.length_filter_le (fun i => decide (o.getD i 0 < o.getD (i + 1) 0)) (List.range (m - 1))
    rw [List.length_range] at this
    unfold asc; omega
  have a2 : ex gm (sem gm W tbl j) W (.set 3 (.compIf (.nm 6) [6] (.rng1 (.cons (.bin .sub (.ov 0) (.k (.int 1))) .nil)) (.cmp .lt (.ix (.ov 5) (.ov 6)) (.ix (.ov 5) (.bin .add (.ov 6) (.k (.int 1))))) (.var 6))) [some (.fro (.int (m : Int))), some (.opn (L.map enc)), some (.opn (Fs.map iL)), x3, some (.fro (iL r)), some (.fro (iL o)), x6] p
      = some (.nx [some (.fro (.int (m : Int))), some (.opn (L.map enc)), some (.opn (Fs.map iL)), some (.fro (iL (ascI m o))), some (.fro (iL r)), some (.fro (iL o)), x6], p) := by
    have e : rgD 0 ((m : Int) - 1) = (List.range (m - 1)).map fun (i : Nat) => PyData.int (i : Int) := by
      unfold rgD
      have : ((m : Int) - 1 - 0).toNat = m - 1 := by omega
      rw [this]
      apply List.map_congr_left
      intro i _
      rw [Int.zero_add]
    refine set_at (e_compIf (items := rgD 0 ((m : Int) - 1)) (e_rng1 (e_sub (e_ov rfl) (e_k _)) (by omega)) (by rw [e, List.length_map, List.length_range]; omega) ?_)
    rw [e]
    have := goC_filter (T := .nm 6) (env := wipeE [some (.fro (.int (m : Int))), some (.opn (L.map enc)), some (.opn (Fs.map iL)), x3, some (.fro (iL r)), some (.fro (iL o)), x6] [6]) (mt := mB (ev gm (sem gm W tbl j) (.cmp .lt (.ix (.ov 5) (.ov 6)) (.ix (.ov 5) (.bin .add (.ov 6) (.k (.int 1)))))))
      (me := ev gm (sem gm W tbl j) (.var 6)) (fun d => match d with | .int a => decide (o.getD a.toNat 0 < o.getD (a.toNat + 1) 0) | _ => false) _root_.id ((List.range (m - 1)).map fun (i : Nat) => PyData.int (i : Int)) p fun d hd => ?_
    · rw [List.map_id, List.filter_map] at this
      rw [this]
      unfold ascI asc
      rw [List.map_map]
      congr 2
    · obtain ⟨x, hx, rfl⟩ := List.mem_map.mp hd
      rw [List.mem_range] at hx
      have hx1 : ((x : Int)).toNat = x := Int.toNat_natCast x
      refine ⟨_, by rw [bT_nm], ?_, e_var rfl⟩
      have hplus : ((x : Int) + 1) = ((x + 1 : Nat) : Int) := by omega
      have g1 : ev gm (sem gm W tbl j) (.ix (.ov 5) (.ov 6)) (List.set (wipeE [some (.fro (.int (m : Int))), some (.opn (L.map enc)), some (.opn (Fs.map iL)), x3, some (.fro (iL r)), some (.fro (iL o)), x6] [6]) 6 (some (.fro (.int (x : Int))))) p = some (.int (o.getD x 0), p) := e_ix (e_ov rfl) (e_ov rfl) (by omega)
      have g2 : ev gm (sem gm W tbl j) (.ix (.ov 5) (.bin .add (.ov 6) (.k (.int 1)))) (List.set (wipeE [some (.fro (.int (m : Int))), some (.opn (L.map enc)), some (.opn (Fs.map iL)), x3, some (.fro (iL r)), some (.fro (iL o)), x6] [6]) 6 (some (.fro (.int (x : Int))))) p = some (.int (o.getD (x + 1) 0), p) := by
        refine e_ix (e_ov rfl) ?_ (by omega)
        rw [← hplus]
        exact e_addI (e_ov rfl) (e_k _)
      have := t_lt g1 g2
      rw [this]
      show some (_, p) = some (decide (o.getD ((x : Int)).toNat 0 < o.getD (((x : Int)).toNat + 1) 0), p)
      rw [hx1]
  have test : mB (ev gm (sem gm W tbl j) (.cmp .eq (.ov 3) (.lst .nil))) [some (.fro (.int (m : Int))), some (.opn (L.map enc)), some (.opn (Fs.map iL)), some (.fro (iL (ascI m o))), some (.fro (iL r)), some (.fro (iL o)), x6] p = some (decide (ascI m o = []), p) := by
    rw [ev_eq]
    exact mB_at (m2_eq (e_ov rfl) (e_lst e_nil (by decide)) (gEq_ints (ascI m o) []))
  have a3 : ex gm (sem gm W tbl j) W (.ite [] (.cmp .eq (.ov 3) (.lst .nil)) (.cons (.apd 2 (.var 4)) .nil) .nil) [some (.fro (.int (m : Int))), some (.opn (L.map enc)), some (.opn (Fs.map iL)), some (.fro (iL (ascI m o))), some (.fro (iL r)), some (.fro (iL o)), x6] p
      = some (.nx [some (.fro (.int (m : Int))), some (.opn (L.map enc)), some (.opn ((if asc o (m - 1) = [] then Fs ++ [r] else Fs).map iL)), some (.fro (iL (ascI m o))), some (.fro (iL r)), some (.fro (iL o)), x6], p) := by
    by_cases ha : asc o (m - 1) = []
    · have hi : ascI m o = [] := by unfold ascI; rw [ha]; rfl
      rw [decide_eq_true hi] at test
      rw [if_pos ha]
      refine (ite_t test).trans ?_
      have b := apd_at (F := sem gm W tbl j) (W := W) (i := 2) (c := .var 4) (env := [some (.fro (.int (m : Int))), some (.opn (L.map enc)), some (.opn (Fs.map iL)), some (.fro (iL (ascI m o))), some (.fro (iL r)), some (.fro (iL o)), x6]) (p := p) (p1 := p) (d := iL r) (ds := Fs.map iL) rfl (e_var rfl) (by rw [List.length_map]; exact hF)
      rw [exs_nx b, exs, List.map_append]; rfl
    · have hi : ¬ ascI m o = [] := by
        unfold ascI
        intro h
        exact ha (List.map_eq_nil_iff.mp h)
      rw [decide_eq_false hi] at test
      rw [if_neg ha]
      refine (ite_f test).trans ?_
      rw [exs]; rfl
  have hkl : (kids m (r, o)).length ≤ 7 := by unfold kids; rw [List.length_map]; exact hasc2
  have a4 : ex gm (sem gm W tbl j) W (.setX 1 (.cat (.ov 1) (.comp (.nm 6) [6] (.seq (.ov 3)) (.tup (.cons (.bin .add (.ov 4) (.lst (.cons (.var 6) .nil))) (.cons (.call 11 (.cons (.var 5) (.cons (.var 6) .nil)) .nil) .nil)))))) [some (.fro (.int (m : Int))), some (.opn (L.map enc)), some (.opn ((if asc o (m - 1) = [] then Fs ++ [r] else Fs).map iL)), some (.fro (iL (ascI m o))), some (.fro (iL r)), some (.fro (iL o)), x6] p
      = some (.nx [some (.fro (.int (m : Int))), some (.opn ((L ++ kids m (r, o)).map enc)), some (.opn ((if asc o (m - 1) = [] then Fs ++ [r] else Fs).map iL)), some (.fro (iL (ascI m o))), some (.fro (iL r)), some (.fro (iL o)), x6], p) := by
    have hk : ((ascI m o).map PyData.int).map (fun d => match d with | .int a => enc (r ++ [a], exch o a.toNat) | _ => .none) = (kids m (r, o)).map enc := by
      unfold ascI kids
      rw [List.map_map, List.map_map, List.map_map]
      apply List.map_congr_left
      intro i _
      show enc (r ++ [(i : Int)], exch o ((i : Int)).toNat) = enc (r ++ [(i : Int)], exch o i)
      rw [Int.toNat_natCast]
    rw [List.map_append, ← hk]
    refine setX_cat (e_ovO rfl) (e_comp (e_seq (e_ov rfl)) (by unfold ascI; rw [List.length_map, List.length_map]; omega) (goC_map (fun d => match d with | .int a => enc (r ++ [a], exch o a.toNat) | _ => .none) _ p fun d hd => ?_)) (by rw [hk, List.length_map, List.length_map]; omega)
    obtain ⟨a, ha, rfl⟩ := List.mem_map.mp hd
    unfold ascI at ha
    obtain ⟨i, hi, rfl⟩ := List.mem_map.mp ha
    obtain ⟨g1, g2⟩ := asc_mem hi
    refine ⟨_, by rw [bT_nm], ?_⟩
    show _ = some (enc (r ++ [(i : Int)], exch o ((i : Int)).toNat), p)
    rw [Int.toNat_natCast]
    unfold enc
    have happ : iL (r ++ [(i : Int)]) = .list (r.map PyData.int ++ [PyData.int (i : Int)]) := by simp [iL]
    show _ = some (PyData.tuple [iL (r ++ [(i : Int)]), iL (exch o i)], p)
    rw [happ]
    exact e_tup2 (e_add (e_ov rfl) (e_lst (e_cons (e_var rfl) e_nil) (by simp)) (by rw [List.length_map, List.length_singleton]; omega)) (e_call (r := .opn ((exch o i).map PyData.int)) shp_11 (e_cons (e_var rfl) (e_cons (e_var rfl) e_nil)) e_nil ⟨rfl, rfl, rfl⟩ (sem_lexchanged W j hj o i (by omega) (by omega) p))
  unfold alB
  rw [exs_nx a1, exs_nx a2, exs_nx a3, exs_nx a4, exs]
  rfl
end K73

set_option Elab.async false
set_option linter.all false
set_option maxRecDepth 100000
set_option maxHeartbeats 8000000
namespace K73
open PySem PySem.Spec L2 PV
open PyProof.Rows hiding St cutD

theorem alT_ok {F : Nat → Sm} (x0 x2 x3 x4 x5 x6 : Option Sl) (L : List Pr) (p : List D) : mB (ev gm F alT) [x0, some (.opn (L.map enc)), x2, x3, x4, x5, x6] p = some (!L.isEmpty, p) := by
  unfold alT
  rw [ev_ne]
  have h := gNe_nil (L.map enc) (shaped_enc L)
  have e : (L.map enc).isEmpty = L.isEmpty := by cases L <;> rfl
  rw [e] at h
  exact mB_at (m2_eq (e_ovO rfl) (e_lst e_nil (by decide)) h)
theorem al_loop (W j : Nat) (hj : 1 ≤ j) {m : Nat} (h1 : 1 ≤ m) (h8 : m ≤ 8) (p : List D) : ∀ (c : Nat) (L : List Pr) (Fs : List (List Int)) (x3 x4 x5 x6 : Option Sl), (∀ q ∈ L, WFp m q) → (∀ r ∈ Fs, r.length ≤ 100) → nd m L < c → nd m L ≤ 9000 → Fs.length + lv m L ≤ 1000 →
    ∃ (Fs' : List (List Int)) (y3 y4 y5 y6 : Option Sl), Fs'.length = Fs.length + lv m L ∧ (∀ r ∈ Fs', r.length ≤ 100) ∧ goW (mB (ev gm (sem gm W tbl j) alT)) (exs gm (sem gm W tbl j) W alB) c [some (.fro (.int (m : Int))), some (.opn (L.map enc)), some (.opn (Fs.map iL)), x3, x4, x5, x6] p
      = some (.nx [some (.fro (.int (m : Int))), some (.opn []), some (.opn (Fs'.map iL)), y3, y4, y5, y6], p) := by
  intro c
  induction c with
  | zero => exact fun L Fs x3 x4 x5 x6 _ _ h => absurd h (Nat.not_lt_zero _)
  | succ c ih =>
    intro L Fs x3 x4 x5 x6 hw hFl hc hn hF
    rcases List.eq_nil_or_concat L with rfl | ⟨L', q, rfl⟩
    · refine ⟨Fs, x3, x4, x5, x6, rfl, hFl, ?_⟩
      rw [goW]
      simp only [alT_ok, List.isEmpty_nil, Bool.not_true]
      rfl
    · rw [List.concat_eq_append] at *
      have hq : WFp m q := hw q (by simp)
      have hlen := nd_len (m := m) L'
      rw [nd_app] at hc hn
      rw [lv_app] at hF
      have hpos := cq_pos (m := m) q
      have hndq : nd m [q] = (cq m q).2 := by unfold nd; simp
      have hlvq : lv m [q] = (cq m q).1 := by unfold lv; simp
      obtain ⟨y3, y4, y5, y6, hb⟩ := alB_ok W j hj h1 h8 L' q hq Fs (by omega) (by omega) x3 x4 x5 x6 p
      have hr : q.1.length ≤ 28 := by
        have h := inv_le q.2
        have h28 := tri28 h8
        have hl : q.2.length = m := hq.1.length_eq.trans (rng_len m)
        rw [hl] at h
        have := hq.2
        omega
      have hne : (L' ++ [q]).isEmpty = false := by cases L' <;> rfl
      by_cases ha : asc q.2 (m - 1) = []
      · have hk : kids m q = [] := by unfold kids; rw [ha]; rfl
        have hcq := cq_leaf (m := m) (q := q) ha
        rw [hk, if_pos ha, List.append_nil] at hb
        rw [hcq] at hndq hlvq
        obtain ⟨Fs', z3, z4, z5, z6, e1, e2, e3⟩ := ih L' (Fs ++ [q.1]) y3 y4 y5 y6 (fun x hx => hw x (by simp [hx])) (fun x hx => by
          rcases List.mem_append.mp hx with hx | hx
          · exact hFl x hx
          · rw [List.mem_singleton] at hx; subst hx; omega) (by omega) (by omega) (by rw [List.length_append, List.length_singleton]; omega)
        refine ⟨Fs', z3, z4, z5, z6, ?_, e2, ?_⟩
        · rw [e1, lv_app, List.length_append, List.length_singleton]; omega
        · rw [goW]
          simp only [alT_ok, hne, Bool.not_false, hb]
          exact e3
      · have hcq := cq_kids hq ha
        rw [if_neg ha] at hb
        rw [hcq] at hndq hlvq
        obtain ⟨Fs', z3, z4, z5, z6, e1, e2, e3⟩ := ih (L' ++ kids m q) Fs y3 y4 y5 y6 (fun x hx => by
          rcases List.mem_append.mp hx with hx | hx
          · exact hw x (by simp [hx])
          · exact kids_wf hq x hx) hFl (by rw [nd_app]; omega) (by rw [nd_app]; omega) (by rw [lv_app]; omega)
        refine ⟨Fs', z3, z4, z5, z6, ?_, e2, ?_⟩
        · rw [e1, lv_app, lv_app]; omega
        · rw [goW]
          simp only [alT_ok, hne, Bool.not_false, hb]
          exact e3
theorem alike_iL (a b : List Int) : PySem.W.alike (iL a) (iL b) = true := by
  show PySem.W.alikeAll (a.map PyData.int) (b.map PyData.int) = true
  exact PySem.W.alike_ints a b
theorem sorted_rows (Fs : List (List Int)) (hl : Fs.length ≤ 1000) : ∃ l : List D, l.length = Fs.length ∧ gSorted [.list (Fs.map iL)] = some (.list l) := by
  refine ⟨(Fs.map iL).mergeSort (PySem.W.dataLe false _root_.id), by rw [List.length_mergeSort, List.length_map], ?_⟩
  have h1 : alikeOk (Fs.map iL) = true := by
    unfold alikeOk
    rw [Bool.and_eq_true, decide_eq_true_eq, List.length_map]
    refine ⟨?_, small _ hl⟩
    rw [List.all_eq_true]
    intro x hx
    obtain ⟨a, _, rfl⟩ := List.mem_map.mp hx
    rw [List.all_eq_true]
    intro y hy
    obtain ⟨b, _, rfl⟩ := List.mem_map.mp hy
    exact alike_iL a b
  have h2 : sortOk (Fs.map iL) = true := by
    unfold sortOk
    rw [Bool.or_eq_true]
    right
    rw [List.all_eq_true]
    intro x hx
    obtain ⟨a, _, rfl⟩ := List.mem_map.mp hx
    rfl
  have h3 : ((Fs.map iL).all fun d => decide (PyData.depth d ≤ 50)) = true := by
    rw [List.all_eq_true]
    intro x hx
    obtain ⟨a, _, rfl⟩ := List.mem_map.mp hx
    rw [decide_eq_true_eq]
    show PyData.depth (.list (a.map PyData.int)) ≤ 50
    rw [PyData.depth, depth_ints]; decide
  show (if alikeOk (Fs.map iL) && sortOk (Fs.map iL) && ((Fs.map iL).all fun d => decide (PyData.depth d ≤ 50)) then _ else none) = _
  rw [h1, h2, h3]; rfl
theorem sem_all_rows (W k : Nat) (hk : 2 ≤ k) (hW : 9000 < W) {m : Nat} (h1 : 1 ≤ m) (h8 : m ≤ 8) (hc : (cnt m (tri m) (rng m)).1 ≤ 1000 ∧ (cnt m (tri m) (rng m)).2 ≤ 9000) (p : List D) : ∃ l : List D, l.length = (cnt m (tri m) (rng m)).1 ∧ sem gm W tbl k 18 [.int (m : Int)] p = some (.fro (.list l), p) := by
  obtain ⟨j, rfl⟩ : ∃ j, k = j + 1 := ⟨k - 1, by omega⟩
  have hcq : cq m (([] : List Int), rng m) = cnt m (tri m) (rng m) := by
    unfold cq
    rw [inv_rng m h8]; rfl
  have hnd : nd m [(([] : List Int), rng m)] = (cnt m (tri m) (rng m)).2 := by unfold nd; simp [hcq]
  have hlv : lv m [(([] : List Int), rng m)] = (cnt m (tri m) (rng m)).1 := by unfold lv; simp [hcq]
  obtain ⟨Fs, y3, y4, y5, y6, e1, e2, e3⟩ := al_loop W j (by omega) h1 h8 p W [(([] : List Int), rng m)] [] none none none none (fun q hq => by
    rw [List.mem_singleton] at hq
    subst hq
    exact ⟨List.Perm.refl _, (inv_rng m h8).symm⟩) (fun r hr => (List.not_mem_nil hr).elim) (by omega) (by omega) (by rw [List.length_nil]; omega)
  rw [hlv, List.length_nil, Nat.zero_add] at e1
  obtain ⟨l, hl, hs⟩ := sorted_rows Fs (by omega)
  refine ⟨l, by omega, ?_⟩
  show runD gm (sem gm W tbl j) W d__law_all_rows [.int (m : Int)] p = _
  refine run_rt (f := d__law_all_rows) ?_
  rw [d__law_all_rows, b__law_all_rows]
  have a1 : ex gm (sem gm W tbl j) W (.setX2 1 2 (.lst (.cons (.tup (.cons (.lst .nil) (.cons (.lrg1 (.ov 0)) .nil))) .nil)) (.lst .nil)) [some (.fro (.int (m : Int))), none, none, none, none, none, none] p
      = some (.nx [some (.fro (.int (m : Int))), some (.opn ([(([] : List Int), rng m)].map enc)), some (.opn []), none, none, none, none], p) := by
    have h1 : evs gm (sem gm W tbl j) (.cons (.tup (.cons (.lst .nil) (.cons (.lrg1 (.ov 0)) .nil))) .nil) [some (.fro (.int (m : Int))), none, none, none, none, none, none] p = some ([enc (([] : List Int), rng m)], p) :=
      e_cons (e_tup2 (e_lst e_nil (by simp)) (e_lrg1 h8 rfl)) e_nil
    have h2 : evs gm (sem gm W tbl j) .nil [some (.fro (.int (m : Int))), none, none, none, none, none, none] p = some ([], p) := e_nil
    rw [ex, evX, evX]
    generalize evs gm (sem gm W tbl j) (.cons (.tup (.cons (.lst .nil) (.cons (.lrg1 (.ov 0)) .nil))) .nil) = M1 at h1 ⊢
    generalize evs gm (sem gm W tbl j) .nil = M2 at h2 ⊢
    have g1 : mSz M1 [some (.fro (.int (m : Int))), none, none, none, none, none, none] p = some ([enc (([] : List Int), rng m)], p) := by
      unfold mSz; rw [h1]; exact if_pos (e := none) (small 1 (by decide))
    have g2 : mSz M2 [some (.fro (.int (m : Int))), none, none, none, none, none, none] p = some ([], p) := by
      unfold mSz; rw [h2]; exact if_pos (e := none) (small 0 (by decide))
    unfold mSet2 mOpn
    simp only [g1, g2, Option.map_some, Option.bind_some]
    rfl
  have a2 : ex gm (sem gm W tbl j) W (.while alT alB) [some (.fro (.int (m : Int))), some (.opn ([(([] : List Int), rng m)].map enc)), some (.opn []), none, none, none, none] p
      = some (.nx [some (.fro (.int (m : Int))), some (.opn []), some (.opn (Fs.map iL)), y3, y4, y5, y6], p) := by
    rw [ex]
    exact e3
  unfold alT alB at a2
  refine (exs_nx a1).trans ?_
  rw [exs_nx a2]
  refine exs_rt ?_
  have hev : ev gm (sem gm W tbl j) (.app .sorted (.cons (.ov 2) .nil)) [some (.fro (.int (m : Int))), some (.opn []), some (.opn (Fs.map iL)), y3, y4, y5, y6] p = some (.list l, p) := by
    rw [ev, show gBlt .sorted = gSorted from rfl]
    have h0 : evs gm (sem gm W tbl j) (.cons (.ov 2) .nil) [some (.fro (.int (m : Int))), some (.opn []), some (.opn (Fs.map iL)), y3, y4, y5, y6] p = some ([.list (Fs.map iL)], p) := e_cons (e_ovO rfl) e_nil
    generalize evs gm (sem gm W tbl j) (.cons (.ov 2) .nil) = M at h0 ⊢
    unfold mApp
    rw [h0]
    simp only [Option.bind_some]
    rw [hs]
    rfl
  rw [ex, evX]
  · unfold mRet mFro; rw [hev]; rfl
  all_goals (intros; rename_i h; cases h)
end K73

set_option Elab.async false
set_option linter.all false
set_option maxRecDepth 100000
set_option maxHeartbeats 8000000
namespace K73
open PySem PySem.Spec L2 PV
open PyProof.Rows hiding St cutD

def isIntB : Option (Sl × List D) → Int → Bool
  | some (.fro (.int i), []), n => i == n
  | _, _ => false
theorem of_isIntB {r : Option (Sl × List D)} {n : Int} (h : isIntB r n = true) : r = some (.fro (.int n), []) := by
  unfold isIntB at h
  split at h
  · rw [beq_iff_eq] at h; subst h; rfl
  · cases h
theorem hm1 : sem gm 10000 tbl 11 10 [.int 1] [] = some (.fro (.int 1), []) := of_isIntB (by decide +kernel)
theorem hm2 : sem gm 10000 tbl 11 10 [.int 2] [] = some (.fro (.int 1), []) := of_isIntB (by decide +kernel)
theorem hm3 : sem gm 10000 tbl 11 10 [.int 3] [] = some (.fro (.int 2), []) := of_isIntB (by decide +kernel)
theorem hm4 : sem gm 10000 tbl 11 10 [.int 4] [] = some (.fro (.int 16), []) := of_isIntB (by decide +kernel)
theorem hm5 : sem gm 10000 tbl 11 10 [.int 5] [] = some (.fro (.int 768), []) := of_isIntB (by decide +kernel)
theorem hm6 : sem gm 10000 tbl 11 10 [.int 6] [] = some (.fro (.int 292864), []) := of_isIntB (by decide +kernel)
theorem hm7 : sem gm 10000 tbl 11 10 [.int 7] [] = some (.fro (.int 1100742656), []) := of_isIntB (by decide +kernel)
theorem hm8 : sem gm 10000 tbl 11 10 [.int 8] [] = some (.fro (.int 48608795688960), []) := of_isIntB (by decide +kernel)
theorem ar (m : Nat) (n c : Nat) (h1 : 1 ≤ m) (h8 : m ≤ 8) (hc : cnt m (tri m) (rng m) = (n, c)) (hn : n ≤ 1000) (hcc : c ≤ 9000) (env : PV.Env) (he : (env : List (Option Sl))[4]? = some (some (.fro (.int (m : Int))))) :
    ev gm (sem gm 10000 tbl 11) (.app .len (.cons (.call 18 (.cons (.var 4) .nil) .nil) .nil)) env [] = some (.int (n : Int), []) := by
  obtain ⟨l, hl, hs⟩ := sem_all_rows 10000 11 (by decide) (by decide) h1 h8 (by rw [hc]; exact ⟨hn, hcc⟩) []
  rw [hc] at hl
  have hl' : l.length = n := hl
  rw [← hl']
  exact e_len (e_call (r := .fro (.list l)) shp_18 (e_cons (e_var he) e_nil) e_nil ⟨rfl, rfl, rfl⟩ hs)
def tup5 : Cs := .cons (.k (.int 1)) (.cons (.k (.int 2)) (.cons (.k (.int 3)) (.cons (.k (.int 4)) (.cons (.k (.int 5)) .nil))))
def tup4 : Cs := .cons (.k (.int 5)) (.cons (.k (.int 6)) (.cons (.k (.int 7)) (.cons (.k (.int 8)) .nil)))
theorem seq5 (env : PV.Env) : evI gm (sem gm 10000 tbl 11) (.seq (.tup tup5)) env [] = some ([.int 1, .int 2, .int 3, .int 4, .int 5], []) := by
  have h : evs gm (sem gm 10000 tbl 11) tup5 env [] = some ([.int 1, .int 2, .int 3, .int 4, .int 5], []) := e_cons (e_k _) (e_cons (e_k _) (e_cons (e_k _) (e_cons (e_k _) (e_cons (e_k _) e_nil))))
  have h2 : ev gm (sem gm 10000 tbl 11) (.tup tup5) env [] = some (.tuple [.int 1, .int 2, .int 3, .int 4, .int 5], []) := by
    rw [ev]; unfold mTup; rw [h]; exact if_pos (e := none) (small 5 (by decide))
  rw [evI]; unfold mIt; rw [h2]
theorem seq4 (env : PV.Env) : evI gm (sem gm 10000 tbl 11) (.seq (.tup tup4)) env [] = some ([.int 5, .int 6, .int 7, .int 8], []) := by
  have h : evs gm (sem gm 10000 tbl 11) tup4 env [] = some ([.int 5, .int 6, .int 7, .int 8], []) := e_cons (e_k _) (e_cons (e_k _) (e_cons (e_k _) (e_cons (e_k _) e_nil)))
  have h2 : ev gm (sem gm 10000 tbl 11) (.tup tup4) env [] = some (.tuple [.int 5, .int 6, .int 7, .int 8], []) := by
    rw [ev]; unfold mTup; rw [h]; exact if_pos (e := none) (small 4 (by decide))
  rw [evI]; unfold mIt; rw [h2]
theorem goC_cons {T : Tg} {env e1 : PV.Env} {me : Ms D} {d y : D} {ds ys : List D} {p p1 p2 : List D} (h1 : bindT T d env = some e1) (h2 : me e1 p = some (y, p1)) (h3 : goC T env mYes me ds p1 = some (ys, p2)) : goC T env mYes me (d :: ds) p = some (y :: ys, p2) := by
  rw [goC, h1]
  simp only [Option.bind_some, mYes, if_true, h2, h3]
  rfl
theorem goC_nil {T : Tg} {env : PV.Env} {me : Ms D} {p : List D} : goC T env mYes me [] p = some ([], p) := by rw [goC]
theorem hmE (m : Int) (n : Int) (h : sem gm 10000 tbl 11 10 [.int m] [] = some (.fro (.int n), [])) (env : PV.Env) (he : (env : List (Option Sl))[4]? = some (some (.fro (.int m)))) : ev gm (sem gm 10000 tbl 11) (.call 20 (.cons (.var 4) .nil) .nil) env [] = some (.int n, []) :=
  e_call (r := .fro (.int n)) shp_20 (e_cons (e_var he) e_nil) e_nil ⟨rfl, rfl, rfl⟩ h
theorem lawB : ∃ p', exs gm (sem gm 10000 tbl 11) 10000 b_law2 (List.replicate 5 none) [] = some (.rt (.fro (.bool true)), p') := by
  refine ⟨[], ?_⟩
  have v1 : ev gm (sem gm 10000 tbl 11) (.comp (.nm 4) [4] (.seq (.tup tup5)) (.app .len (.cons (.call 18 (.cons (.var 4) .nil) .nil) .nil))) [none, none, none, none, none] [] = some (iL [1, 1, 2, 16, 768], []) :=
    e_comp (seq5 _) (by decide) (goC_cons (by rw [bT_nm]) (ar 1 1 1 (by decide) (by decide) cnt1 (by decide) (by decide) _ rfl) (goC_cons (by rw [bT_nm]) (ar 2 1 2 (by decide) (by decide) cnt2 (by decide) (by decide) _ rfl) (goC_cons (by rw [bT_nm]) (ar 3 2 7 (by decide) (by decide) cnt3 (by decide) (by decide) _ rfl)
      (goC_cons (by rw [bT_nm]) (ar 4 16 66 (by decide) (by decide) cnt4 (by decide) (by decide) _ rfl) (goC_cons (by rw [bT_nm]) (ar 5 768 3061 (by decide) (by decide) cnt5 (by decide) (by decide) _ rfl) goC_nil)))))
  have v2 : ev gm (sem gm 10000 tbl 11) (.comp (.nm 4) [4] (.seq (.tup tup5)) (.call 20 (.cons (.var 4) .nil) .nil)) [none, none, some (.fro (iL [1, 1, 2, 16, 768])), none, none] [] = some (iL [1, 1, 2, 16, 768], []) :=
    e_comp (seq5 _) (by decide) (goC_cons (by rw [bT_nm]) (hmE 1 1 hm1 _ rfl) (goC_cons (by rw [bT_nm]) (hmE 2 1 hm2 _ rfl) (goC_cons (by rw [bT_nm]) (hmE 3 2 hm3 _ rfl) (goC_cons (by rw [bT_nm]) (hmE 4 16 hm4 _ rfl) (goC_cons (by rw [bT_nm]) (hmE 5 768 hm5 _ rfl) goC_nil)))))
  have v3 : ev gm (sem gm 10000 tbl 11) (.comp (.nm 4) [4] (.seq (.tup tup4)) (.call 20 (.cons (.var 4) .nil) .nil)) [none, none, some (.fro (iL [1, 1, 2, 16, 768])), none, none] [] = some (iL [768, 292864, 1100742656, 48608795688960], []) :=
    e_comp (seq4 _) (by decide) (goC_cons (by rw [bT_nm]) (hmE 5 768 hm5 _ rfl) (goC_cons (by rw [bT_nm]) (hmE 6 292864 hm6 _ rfl) (goC_cons (by rw [bT_nm]) (hmE 7 1100742656 hm7 _ rfl) (goC_cons (by rw [bT_nm]) (hmE 8 48608795688960 hm8 _ rfl) goC_nil))))
  have x1 : sem gm 10000 tbl 11 14 [iL [1, 1, 2, 16, 768], iL [1, 1, 2, 16, 768]] [] = some (.fro (.bool true), []) := sem_exact 10000 2 11 (by decide) _ (exO_list 0 _ (by decide)) []
  have x2 : sem gm 10000 tbl 11 14 [iL [768, 292864, 1100742656, 48608795688960], iL [768, 292864, 1100742656, 48608795688960]] [] = some (.fro (.bool true), []) := sem_exact 10000 2 11 (by decide) _ (exO_list 0 _ (by decide)) []
  have a1 : ex gm (sem gm 10000 tbl 11) 10000 (.set 2 (.comp (.nm 4) [4] (.seq (.tup tup5)) (.app .len (.cons (.call 18 (.cons (.var 4) .nil) .nil) .nil)))) [none, none, none, none, none] [] = some (.nx [none, none, some (.fro (iL [1, 1, 2, 16, 768])), none, none], []) := set_at v1
  have t1 : mB (ev gm (sem gm 10000 tbl 11) (.not (.tst (.call 10 (.cons (.var 2) (.cons (.comp (.nm 4) [4] (.seq (.tup tup5)) (.call 20 (.cons (.var 4) .nil) .nil)) .nil)) .nil)))) [none, none, some (.fro (iL [1, 1, 2, 16, 768])), none, none] [] = some (false, []) :=
    t_not (t_tst (b := true) (e_call (r := .fro (.bool true)) shp_10 (e_cons (e_var rfl) (e_cons v2 e_nil)) e_nil ⟨rfl, rfl, rfl⟩ x1))
  have t2 : mB (ev gm (sem gm 10000 tbl 11) (.cmp .ne (.call 19 .nil (.cons (.k (.int 4)) .nil)) (.k (.int 16)))) [none, none, some (.fro (iL [1, 1, 2, 16, 768])), none, none] [] = some (false, []) := by
    rw [ev_ne]
    exact mB_at (m2_eq (e_call (r := .fro (.int 16)) shp_19 e_nil (e_cons (e_k _) e_nil) ⟨rfl, rfl, rfl⟩ hm4) (e_k _) (gNe_int 16 16))
  have a2 := ite_f (W := 10000) (a := .cons (.ret (.k (.bool false))) .nil) (b := .nil) (t_or t1 t2)
  have a3 : ex gm (sem gm 10000 tbl 11) 10000 (.ret (.call 10 (.cons (.lst (.cons (.k (.int 768)) (.cons (.k (.int 292864)) (.cons (.k (.int 1100742656)) (.cons (.k (.int 48608795688960)) .nil))))) (.cons (.comp (.nm 4) [4] (.seq (.tup tup4)) (.call 20 (.cons (.var 4) .nil) .nil)) .nil)) .nil)) [none, none, some (.fro (iL [1, 1, 2, 16, 768])), none, none] [] = some (.rt (.fro (.bool true)), []) := by
    have hl : ev gm (sem gm 10000 tbl 11) (.lst (.cons (.k (.int 768)) (.cons (.k (.int 292864)) (.cons (.k (.int 1100742656)) (.cons (.k (.int 48608795688960)) .nil))))) [none, none, some (.fro (iL [1, 1, 2, 16, 768])), none, none] [] = some (iL [768, 292864, 1100742656, 48608795688960], []) :=
      e_lst (e_cons (e_k _) (e_cons (e_k _) (e_cons (e_k _) (e_cons (e_k _) e_nil)))) (by decide)
    have hc := c_call shp_10 (e_cons hl (e_cons v3 e_nil)) e_nil ⟨rfl, rfl, rfl⟩ x2
    rw [ex, evX]
    unfold mRet
    rw [hc]
    rfl
  show exs gm (sem gm 10000 tbl 11) 10000 b_law2 [none, none, none, none, none] [] = _
  unfold b_law2
  unfold tup5 at a1 a2
  unfold tup4 at a3
  rw [exs_nx a1, exs_nx (a2.trans (by rw [exs]; rfl))]
  exact exs_rt a3
end K73

set_option Elab.async false
set_option linter.all false
set_option maxRecDepth 100000
set_option maxHeartbeats 8000000
namespace K73
open PySem PySem.Spec L2 PV
open PyProof.Rows hiding St cutD
abbrev FnP (K : PySem.W.Frag) (x : Str) (i : Nat) (dvs : List V) (f : Addr) (fd : FuncData) : Prop := FunD K x x (defArgs (top i)) (defBody (top i)) (defScope (top i)) dvs [] f fd
theorem fnp {K : PySem.W.Frag} {x : Str} {i : Nat} {f : Addr} {oc : Value} {od an : Option Addr} {osl : Array (Option Value)} {kV doc pm cdv ct : Value} (l : K.lookup f = some ⟨oc, od, .func (PySem.W.fnOf x x (defArgs (top i)) (defBody (top i)) (defScope (top i)) .none kV doc pm an cdv ct), osl⟩)
    (c : PySem.W.codeIn K cdv x = true) (k : PySem.W.keepIn K (.ref f) = true) : FnP K x i [] f (PySem.W.fnOf x x (defArgs (top i)) (defBody (top i)) (defScope (top i)) .none kV doc pm an cdv ct) := ⟨⟨oc, od, .none, kV, doc, pm, an, cdv, ct, osl, rfl, l, c, .inl ⟨rfl, rfl⟩, .inl rfl⟩, k⟩
theorem fnpD {K : PySem.W.Frag} {x : Str} {i : Nat} {f T : Addr} {oc : Value} {od an : Option Addr} {osl : Array (Option Value)} {kV doc pm cdv ct : Value} {cT : Value} {oT : Option Addr} {nT : Nat} {sT : Array (Option Value)} {tT : Addr} (l : K.lookup f = some ⟨oc, od, .func (PySem.W.fnOf x x (defArgs (top i)) (defBody (top i)) (defScope (top i)) (.ref T) kV doc pm an cdv ct), osl⟩)
    (c : PySem.W.codeIn K cdv x = true) (k : PySem.W.keepIn K (.ref f) = true) (lT : K.lookup T = some ⟨cT, oT, .seq #[.int 0 tT] nT, sT⟩) : FnP K x i [V.int 0] f (PySem.W.fnOf x x (defArgs (top i)) (defBody (top i)) (defScope (top i)) (.ref T) kV doc pm an cdv ct) :=
  ⟨⟨oc, od, .ref T, kV, doc, pm, an, cdv, ct, osl, rfl, l, c, .inr ⟨by simp, T, _, [.int 0 tT], nT, rfl, lT, rfl, .cons ⟨tT, rfl⟩ .nil⟩, .inl rfl⟩, k⟩
theorem ent {K : PySem.W.Frag} {x : Str} {i : Nat} {dvs : List V} {f : Addr} {fd : FuncData} {N ps : List Str} {df : Df} (F : FnP K x i dvs f fd) (h : okD N ps df (top i) = true) : EntOk K gm df (f, fd, ps) := by
  unfold okD at h
  obtain ⟨h, h3⟩ := and_t h
  obtain ⟨h1, h2⟩ := and_t h
  exact ⟨x, x, _, _, _, dvs, [], N, F, h1, h2, of_decide_eq_true h3⟩

structure Facts (K : PySem.W.Frag) (mg : Str → Option Value) where
  f0 : Addr
  d0 : FuncData
  F0 : FnP K "is_whole" 1 [] f0 d0
  m0 : mg "is_whole" = some (.ref f0)
  f1 : Addr
  d1 : FuncData
  F1 : FnP K "is_count" 2 [V.int 0] f1 d1
  m1 : mg "is_count" = some (.ref f1)
  f2 : Addr
  d2 : FuncData
  F2 : FnP K "check_many" 10 [] f2 d2
  m2 : mg "check_many" = some (.ref f2)
  f3 : Addr
  d3 : FuncData
  F3 : FnP K "are_counts_below" 11 [] f3 d3
  m3 : mg "are_counts_below" = some (.ref f3)
  f4 : Addr
  d4 : FuncData
  F4 : FnP K "exchanged" 12 [] f4 d4
  m4 : mg "exchanged" = some (.ref f4)
  f5 : Addr
  d5 : FuncData
  F5 : FnP K "is_row_there" 13 [] f5 d5
  m5 : mg "is_row_there" = some (.ref f5)
  f6 : Addr
  d6 : FuncData
  F6 : FnP K "is_exchange_row" 14 [] f6 d6
  m6 : mg "is_exchange_row" = some (.ref f6)
  f7 : Addr
  d7 : FuncData
  F7 : FnP K "check_row" 15 [] f7 d7
  m7 : mg "check_row" = some (.ref f7)
  f8 : Addr
  d8 : FuncData
  F8 : FnP K "order_there" 16 [] f8 d8
  m8 : mg "order_there" = some (.ref f8)
  f9 : Addr
  d9 : FuncData
  F9 : FnP K "order_behind" 17 [] f9 d9
  m9 : mg "order_behind" = some (.ref f9)
  f10 : Addr
  d10 : FuncData
  F10 : FnP K "how_many_rows" 18 [] f10 d10
  m10 : mg "how_many_rows" = some (.ref f10)
  f11 : Addr
  d11 : FuncData
  F11 : FnP K "_law_mixed" 21 [] f11 d11
  m11 : mg "_law_mixed" = some (.ref f11)
  f12 : Addr
  d12 : FuncData
  F12 : FnP K "_law_draw" 22 [] f12 d12
  m12 : mg "_law_draw" = some (.ref f12)
  f13 : Addr
  d13 : FuncData
  F13 : FnP K "_law_one_of" 24 [] f13 d13
  m13 : mg "_law_one_of" = some (.ref f13)
  f14 : Addr
  d14 : FuncData
  F14 : FnP K "_law_exact" 25 [] f14 d14
  m14 : mg "_law_exact" = some (.ref f14)
  f15 : Addr
  d15 : FuncData
  F15 : FnP K "_law_exchanged" 26 [] f15 d15
  m15 : mg "_law_exchanged" = some (.ref f15)
  f16 : Addr
  d16 : FuncData
  F16 : FnP K "_law_is_row" 27 [] f16 d16
  m16 : mg "_law_is_row" = some (.ref f16)
  f17 : Addr
  d17 : FuncData
  F17 : FnP K "_law_row" 28 [] f17 d17
  m17 : mg "_law_row" = some (.ref f17)
  f18 : Addr
  d18 : FuncData
  F18 : FnP K "_law_all_rows" 29 [] f18 d18
  m18 : mg "_law_all_rows" = some (.ref f18)
  f19 : Addr
  d19 : FuncData
  F19 : FnP K "_law_no_rows" 30 [] f19 d19
  m19 : mg "_law_no_rows" = some (.ref f19)
  f20 : Addr
  d20 : FuncData
  F20 : FnP K "_law_bent" 31 [] f20 d20
  m20 : mg "_law_bent" = some (.ref f20)
  f21 : Addr
  d21 : FuncData
  F21 : FnP K "_law_right" 32 [] f21 d21
  m21 : mg "_law_right" = some (.ref f21)
  f22 : Addr
  d22 : FuncData
  F22 : FnP K "_law_purse" 20 [] f22 d22
  m22 : mg "_law_purse" = some (.ref f22)
  f23 : Addr
  d23 : FuncData
  F23 : FnP K "_law_purses" 23 [] f23 d23
  m23 : mg "_law_purses" = some (.ref f23)
  f24 : Addr
  d24 : FuncData
  F24 : FnP K "law" 33 [] f24 d24
  m24 : mg "law" = some (.ref f24)
  b_all : mg "all" = none
  b_bool : mg "bool" = none
  b_dict : mg "dict" = none
  b_enumerate : mg "enumerate" = none
  b_int : mg "int" = none
  b_isinstance : mg "isinstance" = none
  b_len : mg "len" = none
  b_list : mg "list" = none
  b_max : mg "max" = none
  b_min : mg "min" = none
  b_range : mg "range" = none
  b_repr : mg "repr" = none
  b_sorted : mg "sorted" = none
  b_str : mg "str" = none
  b_sum : mg "sum" = none
  b_tuple : mg "tuple" = none
  b_zip : mg "zip" = none
section
variable {K : PySem.W.Frag} {mg : Str → Option Value}
def Facts.es (T : Facts K mg) : List Ent := [(T.f0, T.d0, P_is_whole), (T.f1, T.d1, P_is_count), (T.f2, T.d2, P_check_many), (T.f3, T.d3, P_are_counts_below), (T.f4, T.d4, P_exchanged), (T.f5, T.d5, P_is_row_there), (T.f6, T.d6, P_is_exchange_row), (T.f7, T.d7, P_check_row), (T.f8, T.d8, P_order_there), (T.f9, T.d9, P_order_behind), (T.f10, T.d10, P_how_many_rows), (T.f11, T.d11, P__law_mixed), (T.f12, T.d12, P__law_draw), (T.f13, T.d13, P__law_one_of), (T.f14, T.d14, P__law_exact), (T.f15, T.d15, P__law_exchanged), (T.f16, T.d16, P__law_is_row), (T.f17, T.d17, P__law_row), (T.f18, T.d18, P__law_all_rows), (T.f19, T.d19, P__law_no_rows), (T.f20, T.d20, P__law_bent), (T.f21, T.d21, P__law_right)]
theorem sh0 (T : Facts K mg) : ShpB K mg tbl T.es ⟨"is_whole", 0, 1, 1, [], [0], []⟩ :=
  ⟨⟨_, [], [], rfl, T.m0, T.F0.kp, bindsP_no (ps := P_is_whole) T.F0 1 [] [0] fun _ _ _ _ _ _ us ws l1 l2 => match us, ws, l1, l2 with | [a0], [], _, _ => rfl, .nil, fun Hf => .nil, rfl⟩, rfl⟩
theorem sh1 (T : Facts K mg) : ShpB K mg tbl T.es ⟨"is_count", 1, 2, 2, [], [0, 1], [.int 0]⟩ := by
  obtain ⟨dls, v, b⟩ := bindsP_d (ps := P_is_count) T.F1 (by simp) 2 [] [0, 1] fun _ _ _ _ _ _ _ us ws its l1 l2 l3 => match us, ws, its, l1, l2, l3 with | [a0, a1], [], [i0], _, _, _ => ⟨_, rfl, rfl⟩
  exact ⟨⟨_, [V.int 0], dls, rfl, T.m1, T.F1.kp, b, v, fun Hf => .cons (.int 0) .nil, rfl⟩, rfl⟩
theorem sh2 (T : Facts K mg) : ShpB K mg tbl T.es ⟨"is_count", 1, 2, 1, [], [0, 1], [.int 0]⟩ := by
  obtain ⟨dls, v, b⟩ := bindsP_d (ps := P_is_count) T.F1 (by simp) 1 [] [0, 1] fun _ _ _ _ _ _ _ us ws its l1 l2 l3 => match us, ws, its, l1, l2, l3 with | [a0], [], [i0], _, _, _ => ⟨_, rfl, rfl⟩
  exact ⟨⟨_, [V.int 0], dls, rfl, T.m1, T.F1.kp, b, v, fun Hf => .cons (.int 0) .nil, rfl⟩, rfl⟩
theorem sh3 (T : Facts K mg) : ShpB K mg tbl T.es ⟨"are_counts_below", 3, 2, 2, [], [0, 1], []⟩ :=
  ⟨⟨_, [], [], rfl, T.m3, T.F3.kp, bindsP_no (ps := P_are_counts_below) T.F3 2 [] [0, 1] fun _ _ _ _ _ _ us ws l1 l2 => match us, ws, l1, l2 with | [a0, a1], [], _, _ => rfl, .nil, fun Hf => .nil, rfl⟩, rfl⟩
theorem sh4 (T : Facts K mg) : ShpB K mg tbl T.es ⟨"exchanged", 4, 2, 2, [], [0, 1], []⟩ :=
  ⟨⟨_, [], [], rfl, T.m4, T.F4.kp, bindsP_no (ps := P_exchanged) T.F4 2 [] [0, 1] fun _ _ _ _ _ _ us ws l1 l2 => match us, ws, l1, l2 with | [a0, a1], [], _, _ => rfl, .nil, fun Hf => .nil, rfl⟩, rfl⟩
theorem sh5 (T : Facts K mg) : ShpB K mg tbl T.es ⟨"check_many", 2, 1, 1, [], [0], []⟩ :=
  ⟨⟨_, [], [], rfl, T.m2, T.F2.kp, bindsP_no (ps := P_check_many) T.F2 1 [] [0] fun _ _ _ _ _ _ us ws l1 l2 => match us, ws, l1, l2 with | [a0], [], _, _ => rfl, .nil, fun Hf => .nil, rfl⟩, rfl⟩
theorem sh6 (T : Facts K mg) : ShpB K mg tbl T.es ⟨"is_row_there", 5, 2, 2, [], [0, 1], []⟩ :=
  ⟨⟨_, [], [], rfl, T.m5, T.F5.kp, bindsP_no (ps := P_is_row_there) T.F5 2 [] [0, 1] fun _ _ _ _ _ _ us ws l1 l2 => match us, ws, l1, l2 with | [a0, a1], [], _, _ => rfl, .nil, fun Hf => .nil, rfl⟩, rfl⟩
theorem sh7 (T : Facts K mg) : ShpB K mg tbl T.es ⟨"check_row", 7, 2, 2, [], [0, 1], []⟩ :=
  ⟨⟨_, [], [], rfl, T.m7, T.F7.kp, bindsP_no (ps := P_check_row) T.F7 2 [] [0, 1] fun _ _ _ _ _ _ us ws l1 l2 => match us, ws, l1, l2 with | [a0, a1], [], _, _ => rfl, .nil, fun Hf => .nil, rfl⟩, rfl⟩
theorem sh8 (T : Facts K mg) : ShpB K mg tbl T.es ⟨"order_there", 8, 2, 2, [], [0, 1], []⟩ :=
  ⟨⟨_, [], [], rfl, T.m8, T.F8.kp, bindsP_no (ps := P_order_there) T.F8 2 [] [0, 1] fun _ _ _ _ _ _ us ws l1 l2 => match us, ws, l1, l2 with | [a0, a1], [], _, _ => rfl, .nil, fun Hf => .nil, rfl⟩, rfl⟩
theorem sh9 (T : Facts K mg) : ShpB K mg tbl T.es ⟨"_law_mixed", 11, 3, 3, [], [0, 1, 2], []⟩ :=
  ⟨⟨_, [], [], rfl, T.m11, T.F11.kp, bindsP_no (ps := P__law_mixed) T.F11 3 [] [0, 1, 2] fun _ _ _ _ _ _ us ws l1 l2 => match us, ws, l1, l2 with | [a0, a1, a2], [], _, _ => rfl, .nil, fun Hf => .nil, rfl⟩, rfl⟩
theorem sh10 (T : Facts K mg) : ShpB K mg tbl T.es ⟨"_law_exact", 14, 2, 2, [], [0, 1], []⟩ :=
  ⟨⟨_, [], [], rfl, T.m14, T.F14.kp, bindsP_no (ps := P__law_exact) T.F14 2 [] [0, 1] fun _ _ _ _ _ _ us ws l1 l2 => match us, ws, l1, l2 with | [a0, a1], [], _, _ => rfl, .nil, fun Hf => .nil, rfl⟩, rfl⟩
theorem sh11 (T : Facts K mg) : ShpB K mg tbl T.es ⟨"_law_exchanged", 15, 2, 2, [], [0, 1], []⟩ :=
  ⟨⟨_, [], [], rfl, T.m15, T.F15.kp, bindsP_no (ps := P__law_exchanged) T.F15 2 [] [0, 1] fun _ _ _ _ _ _ us ws l1 l2 => match us, ws, l1, l2 with | [a0, a1], [], _, _ => rfl, .nil, fun Hf => .nil, rfl⟩, rfl⟩
theorem sh12 (T : Facts K mg) : ShpB K mg tbl T.es ⟨"_law_no_rows", 19, 1, 1, [], [0], []⟩ :=
  ⟨⟨_, [], [], rfl, T.m19, T.F19.kp, bindsP_no (ps := P__law_no_rows) T.F19 1 [] [0] fun _ _ _ _ _ _ us ws l1 l2 => match us, ws, l1, l2 with | [a0], [], _, _ => rfl, .nil, fun Hf => .nil, rfl⟩, rfl⟩
theorem sh13 (T : Facts K mg) : ShpB K mg tbl T.es ⟨"_law_is_row", 16, 2, 2, [], [0, 1], []⟩ :=
  ⟨⟨_, [], [], rfl, T.m16, T.F16.kp, bindsP_no (ps := P__law_is_row) T.F16 2 [] [0, 1] fun _ _ _ _ _ _ us ws l1 l2 => match us, ws, l1, l2 with | [a0, a1], [], _, _ => rfl, .nil, fun Hf => .nil, rfl⟩, rfl⟩
theorem sh14 (T : Facts K mg) : ShpB K mg tbl T.es ⟨"is_exchange_row", 6, 2, 0, ["value", "many"], [1, 0], []⟩ :=
  ⟨⟨_, [], [], rfl, T.m6, T.F6.kp, bindsP_no (ps := P_is_exchange_row) T.F6 0 ["value", "many"] [1, 0] fun _ _ _ _ _ _ us ws l1 l2 => match us, ws, l1, l2 with | [], [w0, w1], _, _ => rfl, .nil, fun Hf => .nil, rfl⟩, rfl⟩
theorem sh15 (T : Facts K mg) : ShpB K mg tbl T.es ⟨"is_exchange_row", 6, 2, 2, [], [0, 1], []⟩ :=
  ⟨⟨_, [], [], rfl, T.m6, T.F6.kp, bindsP_no (ps := P_is_exchange_row) T.F6 2 [] [0, 1] fun _ _ _ _ _ _ us ws l1 l2 => match us, ws, l1, l2 with | [a0, a1], [], _, _ => rfl, .nil, fun Hf => .nil, rfl⟩, rfl⟩
theorem sh16 (T : Facts K mg) : ShpB K mg tbl T.es ⟨"order_behind", 9, 3, 3, [], [0, 1, 2], []⟩ :=
  ⟨⟨_, [], [], rfl, T.m9, T.F9.kp, bindsP_no (ps := P_order_behind) T.F9 3 [] [0, 1, 2] fun _ _ _ _ _ _ us ws l1 l2 => match us, ws, l1, l2 with | [a0, a1, a2], [], _, _ => rfl, .nil, fun Hf => .nil, rfl⟩, rfl⟩
theorem sh17 (T : Facts K mg) : ShpB K mg tbl T.es ⟨"order_behind", 9, 3, 0, ["steps", "row", "many"], [2, 1, 0], []⟩ :=
  ⟨⟨_, [], [], rfl, T.m9, T.F9.kp, bindsP_no (ps := P_order_behind) T.F9 0 ["steps", "row", "many"] [2, 1, 0] fun _ _ _ _ _ _ us ws l1 l2 => match us, ws, l1, l2 with | [], [w0, w1, w2], _, _ => rfl, .nil, fun Hf => .nil, rfl⟩, rfl⟩
theorem sh18 (T : Facts K mg) : ShpB K mg tbl T.es ⟨"_law_all_rows", 18, 1, 1, [], [0], []⟩ :=
  ⟨⟨_, [], [], rfl, T.m18, T.F18.kp, bindsP_no (ps := P__law_all_rows) T.F18 1 [] [0] fun _ _ _ _ _ _ us ws l1 l2 => match us, ws, l1, l2 with | [a0], [], _, _ => rfl, .nil, fun Hf => .nil, rfl⟩, rfl⟩
theorem sh19 (T : Facts K mg) : ShpB K mg tbl T.es ⟨"how_many_rows", 10, 1, 0, ["many"], [0], []⟩ :=
  ⟨⟨_, [], [], rfl, T.m10, T.F10.kp, bindsP_no (ps := P_how_many_rows) T.F10 0 ["many"] [0] fun _ _ _ _ _ _ us ws l1 l2 => match us, ws, l1, l2 with | [], [w0], _, _ => rfl, .nil, fun Hf => .nil, rfl⟩, rfl⟩
theorem sh20 (T : Facts K mg) : ShpB K mg tbl T.es ⟨"how_many_rows", 10, 1, 1, [], [0], []⟩ :=
  ⟨⟨_, [], [], rfl, T.m10, T.F10.kp, bindsP_no (ps := P_how_many_rows) T.F10 1 [] [0] fun _ _ _ _ _ _ us ws l1 l2 => match us, ws, l1, l2 with | [a0], [], _, _ => rfl, .nil, fun Hf => .nil, rfl⟩, rfl⟩
theorem psh0 (T : Facts K mg) : PShpB K mg tbl T.es ⟨"_law_draw", 12, 1⟩ :=
  ⟨⟨_, rfl, T.m12, T.F12.kp, bindsP_no (ps := P__law_draw) T.F12 2 [] (List.range 2) fun _ _ _ _ _ _ us ws l1 l2 => match us, ws, l1, l2 with | [a0, a1], [], _, _ => rfl, rfl⟩, rfl⟩
theorem psh1 (T : Facts K mg) : PShpB K mg tbl T.es ⟨"_law_one_of", 13, 1⟩ :=
  ⟨⟨_, rfl, T.m13, T.F13.kp, bindsP_no (ps := P__law_one_of) T.F13 2 [] (List.range 2) fun _ _ _ _ _ _ us ws l1 l2 => match us, ws, l1, l2 with | [a0, a1], [], _, _ => rfl, rfl⟩, rfl⟩
theorem psh2 (T : Facts K mg) : PShpB K mg tbl T.es ⟨"_law_row", 17, 1⟩ :=
  ⟨⟨_, rfl, T.m17, T.F17.kp, bindsP_no (ps := P__law_row) T.F17 2 [] (List.range 2) fun _ _ _ _ _ _ us ws l1 l2 => match us, ws, l1, l2 with | [a0, a1], [], _, _ => rfl, rfl⟩, rfl⟩
theorem psh3 (T : Facts K mg) : PShpB K mg tbl T.es ⟨"_law_bent", 20, 2⟩ :=
  ⟨⟨_, rfl, T.m20, T.F20.kp, bindsP_no (ps := P__law_bent) T.F20 3 [] (List.range 3) fun _ _ _ _ _ _ us ws l1 l2 => match us, ws, l1, l2 with | [a0, a1, a2], [], _, _ => rfl, rfl⟩, rfl⟩
theorem psh4 (T : Facts K mg) : PShpB K mg tbl T.es ⟨"_law_right", 21, 0⟩ :=
  ⟨⟨_, rfl, T.m21, T.F21.kp, bindsP_no (ps := P__law_right) T.F21 1 [] (List.range 1) fun _ _ _ _ _ _ us ws l1 l2 => match us, ws, l1, l2 with | [a0], [], _, _ => rfl, rfl⟩, rfl⟩
theorem text (T : Facts K mg) : TextOk K mg gm tbl T.es where
  blt := List.forall_mem_cons.mpr ⟨T.b_all, List.forall_mem_cons.mpr ⟨T.b_bool, List.forall_mem_cons.mpr ⟨T.b_dict, List.forall_mem_cons.mpr ⟨T.b_enumerate, List.forall_mem_cons.mpr ⟨T.b_int, List.forall_mem_cons.mpr ⟨T.b_isinstance, List.forall_mem_cons.mpr ⟨T.b_len, List.forall_mem_cons.mpr ⟨T.b_list, List.forall_mem_cons.mpr ⟨T.b_max, List.forall_mem_cons.mpr ⟨T.b_range, List.forall_mem_cons.mpr ⟨T.b_repr, List.forall_mem_cons.mpr ⟨T.b_sorted, List.forall_mem_cons.mpr ⟨T.b_str, List.forall_mem_cons.mpr ⟨T.b_tuple, List.forall_mem_cons.mpr ⟨T.b_zip, fun _ h => (List.not_mem_nil h).elim⟩⟩⟩⟩⟩⟩⟩⟩⟩⟩⟩⟩⟩⟩⟩
  gcd := fun h => nomatch h
  ents := .cons (ent (N := N_is_whole) T.F0 ok_is_whole) (.cons (ent (N := N_is_count) T.F1 ok_is_count) (.cons (ent (N := N_check_many) T.F2 ok_check_many) (.cons (ent (N := N_are_counts_below) T.F3 ok_are_counts_below) (.cons (ent (N := N_exchanged) T.F4 ok_exchanged) (.cons (ent (N := N_is_row_there) T.F5 ok_is_row_there) (.cons (ent (N := N_is_exchange_row) T.F6 ok_is_exchange_row) (.cons (ent (N := N_check_row) T.F7 ok_check_row) (.cons (ent (N := N_order_there) T.F8 ok_order_there) (.cons (ent (N := N_order_behind) T.F9 ok_order_behind) (.cons (ent (N := N_how_many_rows) T.F10 ok_how_many_rows) (.cons (ent (N := N__law_mixed) T.F11 ok__law_mixed) (.cons (ent (N := N__law_draw) T.F12 ok__law_draw) (.cons (ent (N := N__law_one_of) T.F13 ok__law_one_of) (.cons (ent (N := N__law_exact) T.F14 ok__law_exact) (.cons (ent (N := N__law_exchanged) T.F15 ok__law_exchanged) (.cons (ent (N := N__law_is_row) T.F16 ok__law_is_row) (.cons (ent (N := N__law_row) T.F17 ok__law_row) (.cons (ent (N := N__law_all_rows) T.F18 ok__law_all_rows) (.cons (ent (N := N__law_no_rows) T.F19 ok__law_no_rows) (.cons (ent (N := N__law_bent) T.F20 ok__law_bent) (.cons (ent (N := N__law_right) T.F21 ok__law_right) (.nil))))))))))))))))))))))
  shp := List.forall_mem_cons.mpr ⟨sh0 T, List.forall_mem_cons.mpr ⟨sh1 T, List.forall_mem_cons.mpr ⟨sh2 T, List.forall_mem_cons.mpr ⟨sh3 T, List.forall_mem_cons.mpr ⟨sh4 T, List.forall_mem_cons.mpr ⟨sh5 T, List.forall_mem_cons.mpr ⟨sh6 T, List.forall_mem_cons.mpr ⟨sh7 T, List.forall_mem_cons.mpr ⟨sh8 T, List.forall_mem_cons.mpr ⟨sh9 T, List.forall_mem_cons.mpr ⟨sh10 T, List.forall_mem_cons.mpr ⟨sh11 T, List.forall_mem_cons.mpr ⟨sh12 T, List.forall_mem_cons.mpr ⟨sh13 T, List.forall_mem_cons.mpr ⟨sh14 T, List.forall_mem_cons.mpr ⟨sh15 T, List.forall_mem_cons.mpr ⟨sh16 T, List.forall_mem_cons.mpr ⟨sh17 T, List.forall_mem_cons.mpr ⟨sh18 T, List.forall_mem_cons.mpr ⟨sh19 T, List.forall_mem_cons.mpr ⟨sh20 T, fun _ h => (List.not_mem_nil h).elim⟩⟩⟩⟩⟩⟩⟩⟩⟩⟩⟩⟩⟩⟩⟩⟩⟩⟩⟩⟩⟩
  pshp := List.forall_mem_cons.mpr ⟨psh0 T, List.forall_mem_cons.mpr ⟨psh1 T, List.forall_mem_cons.mpr ⟨psh2 T, List.forall_mem_cons.mpr ⟨psh3 T, List.forall_mem_cons.mpr ⟨psh4 T, fun _ h => (List.not_mem_nil h).elim⟩⟩⟩⟩⟩
theorem law_fn {P : Program} {w : World} {base : Heap} (T : Facts K mg) : FnG P w K mg base CX0 12 T.f24 T.d24 ["script"] (spLaw K 63) := by
  have A := (text_ok (P := P) (w := w) (base := base) (text T) 10000 11).1
  have G : FnG P w K mg base CX0 1 T.f22 T.d22 ["script", "at"] (spPurse K) := purse_ok (k := 0) T.F22 (by decide +kernel) (by decide +kernel) (by decide +kernel) (by decide +kernel) (List.forall_mem_cons.mpr ⟨T.b_int, List.forall_mem_cons.mpr ⟨T.b_max, List.forall_mem_cons.mpr ⟨T.b_sum, fun _ h => (List.not_mem_nil h).elim⟩⟩⟩)
  have bp : BindsP K T.d22 ["script", "at"] 2 [] [0, 1] [] := bindsP_no T.F22 2 [] [0, 1] fun _ _ _ _ _ _ us ws l1 l2 => match us, ws, l1, l2 with | [a0, a1], [], _, _ => rfl
  have bq : BindsP K T.d23 ["script", "few"] 2 [] [0, 1] [] := bindsP_no T.F23 2 [] [0, 1] fun _ _ _ _ _ _ us ws l1 l2 => match us, ws, l1, l2 with | [a0, a1], [], _, _ => rfl
  have H : FnG P w K mg base CX0 2 T.f23 T.d23 ["script", "few"] (spPs K) := purses_ok (k := 1) T.F23 (by decide +kernel) (by decide +kernel) (by decide +kernel) (by decide +kernel) (by decide +kernel) ⟨T.b_range, T.b_max, T.b_min, T.b_len⟩ (G.mono (by decide)) T.m22 T.F22.kp bp
  exact law_ok (k := 11) (N := N_law) (i := 1) (W := 10000) (cb := b_law1) (cr := b_law2) T.F24 A (by decide +kernel) rfl (by decide +kernel) rfl (by decide +kernel) (by decide +kernel) H (by decide) T.m23 T.F23.kp bq (by decide) (by decide +kernel) (by decide +kernel)
    (fun p hp => lawA 10000 11 (by decide) (by decide) p hp) lawB
end
end K73

set_option Elab.async false
set_option linter.all false
set_option maxRecDepth 100000
set_option maxHeartbeats 8000000
namespace K73
open PySem PySem.Spec L2 PV
open PyProof.Rows hiding St cutD

theorem all_mk {l : PySem.W.OpenLaw} {w : World} {K : PySem.W.Frag} {h : Heap} {mg : Str → Option Value} {fa : Addr} (X : K.In h) (G : h.Ns mainGlobals mg) (hfa : mg "law" = some (.ref fa))
    {f0 f1 f2 f3 f4 f5 f6 f7 f8 f9 f10 f11 f12 f13 f14 f15 f16 f17 f18 f19 f20 f21 f22 f23 f24 T1 t1 : Addr} {od0 an0 od1 an1 od2 an2 od3 an3 od4 an4 od5 an5 od6 an6 od7 an7 od8 an8 od9 an9 od10 an10 od11 an11 od12 an12 od13 an13 od14 an14 od15 an15 od16 an16 od17 an17 od18 an18 od19 an19 od20 an20 od21 an21 od22 an22 od23 an23 od24 an24 oT : Option Addr} {sl0 sl1 sl2 sl3 sl4 sl5 sl6 sl7 sl8 sl9 sl10 sl11 sl12 sl13 sl14 sl15 sl16 sl17 sl18 sl19 sl20 sl21 sl22 sl23 sl24 sT : Array (Option Value)} {nT : Nat}
    {oc0 kV0 dc0 pm0 cd0 ct0 oc1 kV1 dc1 pm1 cd1 ct1 oc2 kV2 dc2 pm2 cd2 ct2 oc3 kV3 dc3 pm3 cd3 ct3 oc4 kV4 dc4 pm4 cd4 ct4 oc5 kV5 dc5 pm5 cd5 ct5 oc6 kV6 dc6 pm6 cd6 ct6 oc7 kV7 dc7 pm7 cd7 ct7 oc8 kV8 dc8 pm8 cd8 ct8 oc9 kV9 dc9 pm9 cd9 ct9 oc10 kV10 dc10 pm10 cd10 ct10 oc11 kV11 dc11 pm11 cd11 ct11 oc12 kV12 dc12 pm12 cd12 ct12 oc13 kV13 dc13 pm13 cd13 ct13 oc14 kV14 dc14 pm14 cd14 ct14 oc15 kV15 dc15 pm15 cd15 ct15 oc16 kV16 dc16 pm16 cd16 ct16 oc17 kV17 dc17 pm17 cd17 ct17 oc18 kV18 dc18 pm18 cd18 ct18 oc19 kV19 dc19 pm19 cd19 ct19 oc20 kV20 dc20 pm20 cd20 ct20 oc21 kV21 dc21 pm21 cd21 ct21 oc22 kV22 dc22 pm22 cd22 ct22 oc23 kV23 dc23 pm23 cd23 ct23 oc24 kV24 dc24 pm24 cd24 ct24 cT : Value}
    (a0 : PySem.W.nsIn K mainGlobals "is_whole" = some (some (.ref f0))) (l0 : K.lookup f0 = some ⟨oc0, od0, .func (PySem.W.fnOf "is_whole" "is_whole" (defArgs (top 1)) (defBody (top 1)) (defScope (top 1)) .none kV0 dc0 pm0 an0 cd0 ct0), sl0⟩) (c0 : PySem.W.codeIn K cd0 "is_whole" = true) (k0 : PySem.W.keepIn K (.ref f0) = true)
    (a1 : PySem.W.nsIn K mainGlobals "is_count" = some (some (.ref f1))) (l1 : K.lookup f1 = some ⟨oc1, od1, .func (PySem.W.fnOf "is_count" "is_count" (defArgs (top 2)) (defBody (top 2)) (defScope (top 2)) (.ref T1) kV1 dc1 pm1 an1 cd1 ct1), sl1⟩) (c1 : PySem.W.codeIn K cd1 "is_count" = true) (k1 : PySem.W.keepIn K (.ref f1) = true)
    (lT : K.lookup T1 = some ⟨cT, oT, .seq #[.int 0 t1] nT, sT⟩)
    (a2 : PySem.W.nsIn K mainGlobals "check_many" = some (some (.ref f2))) (l2 : K.lookup f2 = some ⟨oc2, od2, .func (PySem.W.fnOf "check_many" "check_many" (defArgs (top 10)) (defBody (top 10)) (defScope (top 10)) .none kV2 dc2 pm2 an2 cd2 ct2), sl2⟩) (c2 : PySem.W.codeIn K cd2 "check_many" = true) (k2 : PySem.W.keepIn K (.ref f2) = true)
    (a3 : PySem.W.nsIn K mainGlobals "are_counts_below" = some (some (.ref f3))) (l3 : K.lookup f3 = some ⟨oc3, od3, .func (PySem.W.fnOf "are_counts_below" "are_counts_below" (defArgs (top 11)) (defBody (top 11)) (defScope (top 11)) .none kV3 dc3 pm3 an3 cd3 ct3), sl3⟩) (c3 : PySem.W.codeIn K cd3 "are_counts_below" = true) (k3 : PySem.W.keepIn K (.ref f3) = true)
    (a4 : PySem.W.nsIn K mainGlobals "exchanged" = some (some (.ref f4))) (l4 : K.lookup f4 = some ⟨oc4, od4, .func (PySem.W.fnOf "exchanged" "exchanged" (defArgs (top 12)) (defBody (top 12)) (defScope (top 12)) .none kV4 dc4 pm4 an4 cd4 ct4), sl4⟩) (c4 : PySem.W.codeIn K cd4 "exchanged" = true) (k4 : PySem.W.keepIn K (.ref f4) = true)
    (a5 : PySem.W.nsIn K mainGlobals "is_row_there" = some (some (.ref f5))) (l5 : K.lookup f5 = some ⟨oc5, od5, .func (PySem.W.fnOf "is_row_there" "is_row_there" (defArgs (top 13)) (defBody (top 13)) (defScope (top 13)) .none kV5 dc5 pm5 an5 cd5 ct5), sl5⟩) (c5 : PySem.W.codeIn K cd5 "is_row_there" = true) (k5 : PySem.W.keepIn K (.ref f5) = true)
    (a6 : PySem.W.nsIn K mainGlobals "is_exchange_row" = some (some (.ref f6))) (l6 : K.lookup f6 = some ⟨oc6, od6, .func (PySem.W.fnOf "is_exchange_row" "is_exchange_row" (defArgs (top 14)) (defBody (top 14)) (defScope (top 14)) .none kV6 dc6 pm6 an6 cd6 ct6), sl6⟩) (c6 : PySem.W.codeIn K cd6 "is_exchange_row" = true) (k6 : PySem.W.keepIn K (.ref f6) = true)
    (a7 : PySem.W.nsIn K mainGlobals "check_row" = some (some (.ref f7))) (l7 : K.lookup f7 = some ⟨oc7, od7, .func (PySem.W.fnOf "check_row" "check_row" (defArgs (top 15)) (defBody (top 15)) (defScope (top 15)) .none kV7 dc7 pm7 an7 cd7 ct7), sl7⟩) (c7 : PySem.W.codeIn K cd7 "check_row" = true) (k7 : PySem.W.keepIn K (.ref f7) = true)
    (a8 : PySem.W.nsIn K mainGlobals "order_there" = some (some (.ref f8))) (l8 : K.lookup f8 = some ⟨oc8, od8, .func (PySem.W.fnOf "order_there" "order_there" (defArgs (top 16)) (defBody (top 16)) (defScope (top 16)) .none kV8 dc8 pm8 an8 cd8 ct8), sl8⟩) (c8 : PySem.W.codeIn K cd8 "order_there" = true) (k8 : PySem.W.keepIn K (.ref f8) = true)
    (a9 : PySem.W.nsIn K mainGlobals "order_behind" = some (some (.ref f9))) (l9 : K.lookup f9 = some ⟨oc9, od9, .func (PySem.W.fnOf "order_behind" "order_behind" (defArgs (top 17)) (defBody (top 17)) (defScope (top 17)) .none kV9 dc9 pm9 an9 cd9 ct9), sl9⟩) (c9 : PySem.W.codeIn K cd9 "order_behind" = true) (k9 : PySem.W.keepIn K (.ref f9) = true)
    (a10 : PySem.W.nsIn K mainGlobals "how_many_rows" = some (some (.ref f10))) (l10 : K.lookup f10 = some ⟨oc10, od10, .func (PySem.W.fnOf "how_many_rows" "how_many_rows" (defArgs (top 18)) (defBody (top 18)) (defScope (top 18)) .none kV10 dc10 pm10 an10 cd10 ct10), sl10⟩) (c10 : PySem.W.codeIn K cd10 "how_many_rows" = true) (k10 : PySem.W.keepIn K (.ref f10) = true)
    (a11 : PySem.W.nsIn K mainGlobals "_law_mixed" = some (some (.ref f11))) (l11 : K.lookup f11 = some ⟨oc11, od11, .func (PySem.W.fnOf "_law_mixed" "_law_mixed" (defArgs (top 21)) (defBody (top 21)) (defScope (top 21)) .none kV11 dc11 pm11 an11 cd11 ct11), sl11⟩) (c11 : PySem.W.codeIn K cd11 "_law_mixed" = true) (k11 : PySem.W.keepIn K (.ref f11) = true)
    (a12 : PySem.W.nsIn K mainGlobals "_law_draw" = some (some (.ref f12))) (l12 : K.lookup f12 = some ⟨oc12, od12, .func (PySem.W.fnOf "_law_draw" "_law_draw" (defArgs (top 22)) (defBody (top 22)) (defScope (top 22)) .none kV12 dc12 pm12 an12 cd12 ct12), sl12⟩) (c12 : PySem.W.codeIn K cd12 "_law_draw" = true) (k12 : PySem.W.keepIn K (.ref f12) = true)
    (a13 : PySem.W.nsIn K mainGlobals "_law_one_of" = some (some (.ref f13))) (l13 : K.lookup f13 = some ⟨oc13, od13, .func (PySem.W.fnOf "_law_one_of" "_law_one_of" (defArgs (top 24)) (defBody (top 24)) (defScope (top 24)) .none kV13 dc13 pm13 an13 cd13 ct13), sl13⟩) (c13 : PySem.W.codeIn K cd13 "_law_one_of" = true) (k13 : PySem.W.keepIn K (.ref f13) = true)
    (a14 : PySem.W.nsIn K mainGlobals "_law_exact" = some (some (.ref f14))) (l14 : K.lookup f14 = some ⟨oc14, od14, .func (PySem.W.fnOf "_law_exact" "_law_exact" (defArgs (top 25)) (defBody (top 25)) (defScope (top 25)) .none kV14 dc14 pm14 an14 cd14 ct14), sl14⟩) (c14 : PySem.W.codeIn K cd14 "_law_exact" = true) (k14 : PySem.W.keepIn K (.ref f14) = true)
    (a15 : PySem.W.nsIn K mainGlobals "_law_exchanged" = some (some (.ref f15))) (l15 : K.lookup f15 = some ⟨oc15, od15, .func (PySem.W.fnOf "_law_exchanged" "_law_exchanged" (defArgs (top 26)) (defBody (top 26)) (defScope (top 26)) .none kV15 dc15 pm15 an15 cd15 ct15), sl15⟩) (c15 : PySem.W.codeIn K cd15 "_law_exchanged" = true) (k15 : PySem.W.keepIn K (.ref f15) = true)
    (a16 : PySem.W.nsIn K mainGlobals "_law_is_row" = some (some (.ref f16))) (l16 : K.lookup f16 = some ⟨oc16, od16, .func (PySem.W.fnOf "_law_is_row" "_law_is_row" (defArgs (top 27)) (defBody (top 27)) (defScope (top 27)) .none kV16 dc16 pm16 an16 cd16 ct16), sl16⟩) (c16 : PySem.W.codeIn K cd16 "_law_is_row" = true) (k16 : PySem.W.keepIn K (.ref f16) = true)
    (a17 : PySem.W.nsIn K mainGlobals "_law_row" = some (some (.ref f17))) (l17 : K.lookup f17 = some ⟨oc17, od17, .func (PySem.W.fnOf "_law_row" "_law_row" (defArgs (top 28)) (defBody (top 28)) (defScope (top 28)) .none kV17 dc17 pm17 an17 cd17 ct17), sl17⟩) (c17 : PySem.W.codeIn K cd17 "_law_row" = true) (k17 : PySem.W.keepIn K (.ref f17) = true)
    (a18 : PySem.W.nsIn K mainGlobals "_law_all_rows" = some (some (.ref f18))) (l18 : K.lookup f18 = some ⟨oc18, od18, .func (PySem.W.fnOf "_law_all_rows" "_law_all_rows" (defArgs (top 29)) (defBody (top 29)) (defScope (top 29)) .none kV18 dc18 pm18 an18 cd18 ct18), sl18⟩) (c18 : PySem.W.codeIn K cd18 "_law_all_rows" = true) (k18 : PySem.W.keepIn K (.ref f18) = true)
    (a19 : PySem.W.nsIn K mainGlobals "_law_no_rows" = some (some (.ref f19))) (l19 : K.lookup f19 = some ⟨oc19, od19, .func (PySem.W.fnOf "_law_no_rows" "_law_no_rows" (defArgs (top 30)) (defBody (top 30)) (defScope (top 30)) .none kV19 dc19 pm19 an19 cd19 ct19), sl19⟩) (c19 : PySem.W.codeIn K cd19 "_law_no_rows" = true) (k19 : PySem.W.keepIn K (.ref f19) = true)
    (a20 : PySem.W.nsIn K mainGlobals "_law_bent" = some (some (.ref f20))) (l20 : K.lookup f20 = some ⟨oc20, od20, .func (PySem.W.fnOf "_law_bent" "_law_bent" (defArgs (top 31)) (defBody (top 31)) (defScope (top 31)) .none kV20 dc20 pm20 an20 cd20 ct20), sl20⟩) (c20 : PySem.W.codeIn K cd20 "_law_bent" = true) (k20 : PySem.W.keepIn K (.ref f20) = true)
    (a21 : PySem.W.nsIn K mainGlobals "_law_right" = some (some (.ref f21))) (l21 : K.lookup f21 = some ⟨oc21, od21, .func (PySem.W.fnOf "_law_right" "_law_right" (defArgs (top 32)) (defBody (top 32)) (defScope (top 32)) .none kV21 dc21 pm21 an21 cd21 ct21), sl21⟩) (c21 : PySem.W.codeIn K cd21 "_law_right" = true) (k21 : PySem.W.keepIn K (.ref f21) = true)
    (a22 : PySem.W.nsIn K mainGlobals "_law_purse" = some (some (.ref f22))) (l22 : K.lookup f22 = some ⟨oc22, od22, .func (PySem.W.fnOf "_law_purse" "_law_purse" (defArgs (top 20)) (defBody (top 20)) (defScope (top 20)) .none kV22 dc22 pm22 an22 cd22 ct22), sl22⟩) (c22 : PySem.W.codeIn K cd22 "_law_purse" = true) (k22 : PySem.W.keepIn K (.ref f22) = true)
    (a23 : PySem.W.nsIn K mainGlobals "_law_purses" = some (some (.ref f23))) (l23 : K.lookup f23 = some ⟨oc23, od23, .func (PySem.W.fnOf "_law_purses" "_law_purses" (defArgs (top 23)) (defBody (top 23)) (defScope (top 23)) .none kV23 dc23 pm23 an23 cd23 ct23), sl23⟩) (c23 : PySem.W.codeIn K cd23 "_law_purses" = true) (k23 : PySem.W.keepIn K (.ref f23) = true)
    (a24 : PySem.W.nsIn K mainGlobals "law" = some (some (.ref f24))) (l24 : K.lookup f24 = some ⟨oc24, od24, .func (PySem.W.fnOf "law" "law" (defArgs (top 33)) (defBody (top 33)) (defScope (top 33)) .none kV24 dc24 pm24 an24 cd24 ct24), sl24⟩) (c24 : PySem.W.codeIn K cd24 "law" = true) (k24 : PySem.W.keepIn K (.ref f24) = true)
    (z_all : PySem.W.nsIn K mainGlobals "all" = some none)
    (z_bool : PySem.W.nsIn K mainGlobals "bool" = some none)
    (z_dict : PySem.W.nsIn K mainGlobals "dict" = some none)
    (z_enumerate : PySem.W.nsIn K mainGlobals "enumerate" = some none)
    (z_int : PySem.W.nsIn K mainGlobals "int" = some none)
    (z_isinstance : PySem.W.nsIn K mainGlobals "isinstance" = some none)
    (z_len : PySem.W.nsIn K mainGlobals "len" = some none)
    (z_list : PySem.W.nsIn K mainGlobals "list" = some none)
    (z_max : PySem.W.nsIn K mainGlobals "max" = some none)
    (z_min : PySem.W.nsIn K mainGlobals "min" = some none)
    (z_range : PySem.W.nsIn K mainGlobals "range" = some none)
    (z_repr : PySem.W.nsIn K mainGlobals "repr" = some none)
    (z_sorted : PySem.W.nsIn K mainGlobals "sorted" = some none)
    (z_str : PySem.W.nsIn K mainGlobals "str" = some none)
    (z_sum : PySem.W.nsIn K mainGlobals "sum" = some none)
    (z_tuple : PySem.W.nsIn K mainGlobals "tuple" = some none)
    (z_zip : PySem.W.nsIn K mainGlobals "zip" = some none)
    : ∃ fd : FuncData, (∀ (s : Shared) (u : Value), BindsTo s fd ⟨[u], []⟩ [("script", u)]) ∧ ∀ base : Heap, K.In base → base.Ns mainGlobals mg → FnG l.prog w K mg base CX0 12 fa fd ["script"] (spLaw K 63) := by
  have e0 : fa = f24 := by
    have e := hfa.symm.trans (PySem.W.mg_of X G a24)
    cases e
    rfl
  have law_T : ∃ T : Facts K mg, T.f24 = f24 ∧ T.d24 = PySem.W.fnOf "law" "law" (defArgs (top 33)) (defBody (top 33)) (defScope (top 33)) .none kV24 dc24 pm24 an24 cd24 ct24 := ⟨{ f0 := f0, d0 := _, f1 := f1, d1 := _, f2 := f2, d2 := _, f3 := f3, d3 := _, f4 := f4, d4 := _, f5 := f5, d5 := _, f6 := f6, d6 := _, f7 := f7, d7 := _, f8 := f8, d8 := _, f9 := f9, d9 := _, f10 := f10, d10 := _, f11 := f11, d11 := _, f12 := f12, d12 := _, f13 := f13, d13 := _, f14 := f14, d14 := _, f15 := f15, d15 := _, f16 := f16, d16 := _, f17 := f17, d17 := _, f18 := f18, d18 := _, f19 := f19, d19 := _, f20 := f20, d20 := _, f21 := f21, d21 := _, f22 := f22, d22 := _, f23 := f23, d23 := _, f24 := f24, d24 := _, F0 := fnp l0 c0 k0, m0 := PySem.W.mg_of X G a0, F1 := fnpD l1 c1 k1 lT, m1 := PySem.W.mg_of X G a1, F2 := fnp l2 c2 k2, m2 := PySem.W.mg_of X G a2, F3 := fnp l3 c3 k3, m3 := PySem.W.mg_of X G a3, F4 := fnp l4 c4 k4, m4 := PySem.W.mg_of X G a4, F5 := fnp l5 c5 k5, m5 := PySem.W.mg_of X G a5, F6 := fnp l6 c6 k6, m6 := PySem.W.mg_of X G a6, F7 := fnp l7 c7 k7, m7 := PySem.W.mg_of X G a7, F8 := fnp l8 c8 k8, m8 := PySem.W.mg_of X G a8, F9 := fnp l9 c9 k9, m9 := PySem.W.mg_of X G a9, F10 := fnp l10 c10 k10, m10 := PySem.W.mg_of X G a10, F11 := fnp l11 c11 k11, m11 := PySem.W.mg_of X G a11, F12 := fnp l12 c12 k12, m12 := PySem.W.mg_of X G a12, F13 := fnp l13 c13 k13, m13 := PySem.W.mg_of X G a13, F14 := fnp l14 c14 k14, m14 := PySem.W.mg_of X G a14, F15 := fnp l15 c15 k15, m15 := PySem.W.mg_of X G a15, F16 := fnp l16 c16 k16, m16 := PySem.W.mg_of X G a16, F17 := fnp l17 c17 k17, m17 := PySem.W.mg_of X G a17, F18 := fnp l18 c18 k18, m18 := PySem.W.mg_of X G a18, F19 := fnp l19 c19 k19, m19 := PySem.W.mg_of X G a19, F20 := fnp l20 c20 k20, m20 := PySem.W.mg_of X G a20, F21 := fnp l21 c21 k21, m21 := PySem.W.mg_of X G a21, F22 := fnp l22 c22 k22, m22 := PySem.W.mg_of X G a22, F23 := fnp l23 c23 k23, m23 := PySem.W.mg_of X G a23, F24 := fnp l24 c24 k24, m24 := PySem.W.mg_of X G a24, b_all := PySem.W.mg_none_of X G z_all, b_bool := PySem.W.mg_none_of X G z_bool, b_dict := PySem.W.mg_none_of X G z_dict, b_enumerate := PySem.W.mg_none_of X G z_enumerate, b_int := PySem.W.mg_none_of X G z_int, b_isinstance := PySem.W.mg_none_of X G z_isinstance, b_len := PySem.W.mg_none_of X G z_len, b_list := PySem.W.mg_none_of X G z_list, b_max := PySem.W.mg_none_of X G z_max, b_min := PySem.W.mg_none_of X G z_min, b_range := PySem.W.mg_none_of X G z_range, b_repr := PySem.W.mg_none_of X G z_repr, b_sorted := PySem.W.mg_none_of X G z_sorted, b_str := PySem.W.mg_none_of X G z_str, b_sum := PySem.W.mg_none_of X G z_sum, b_tuple := PySem.W.mg_none_of X G z_tuple, b_zip := PySem.W.mg_none_of X G z_zip }, rfl, rfl⟩
  obtain ⟨T, e1, e2⟩ := law_T
  refine ⟨T.d24, fun s v => ?_, fun base _ _ => ?_⟩
  · rw [e2]; exact .of_eq rfl
  · rw [e0, ← e1]; exact law_fn T
end K73

open PySem PySem.W PyProof.Rows in
set_option maxRecDepth 100000 in
set_option maxHeartbeats 0 in
theorem PySem.Challenge.cw_straightcuts_k73_whole_rows_of_exchanges_holds : PySem.Challenge.rw_straightcuts_k73_whole_rows_of_exchanges.Holds := by
  w_on; o_law; k_head; (case hw => w_witness2)
  k_fill
  refine PV.walk_ofG (n := 63) (k := 12) (x := "script") (l := PySem.Challenge.rw_straightcuts_k73_whole_rows_of_exchanges) rfl (by decide) rfl ⟨rfl, by decide, by decide⟩ (fun w h Y => PySem.W.kIn_of Y) ?F
  case F =>
    intro w mg fa h KX G hmg
    refine' K73.all_mk KX G hmg ?a0 ?l0 ?c0 ?k0 ?a1 ?l1 ?c1 ?k1 ?lT ?a2 ?l2 ?c2 ?k2 ?a3 ?l3 ?c3 ?k3 ?a4 ?l4 ?c4 ?k4 ?a5 ?l5 ?c5 ?k5 ?a6 ?l6 ?c6 ?k6 ?a7 ?l7 ?c7 ?k7 ?a8 ?l8 ?c8 ?k8 ?a9 ?l9 ?c9 ?k9 ?a10 ?l10 ?c10 ?k10 ?a11 ?l11 ?c11 ?k11 ?a12 ?l12 ?c12 ?k12 ?a13 ?l13 ?c13 ?k13 ?a14 ?l14 ?c14 ?k14 ?a15 ?l15 ?c15 ?k15 ?a16 ?l16 ?c16 ?k16 ?a17 ?l17 ?c17 ?k17 ?a18 ?l18 ?c18 ?k18 ?a19 ?l19 ?c19 ?k19 ?a20 ?l20 ?c20 ?k20 ?a21 ?l21 ?c21 ?k21 ?a22 ?l22 ?c22 ?k22 ?a23 ?l23 ?c23 ?k23 ?a24 ?l24 ?c24 ?k24 ?z_all ?z_bool ?z_dict ?z_enumerate ?z_int ?z_isinstance ?z_len ?z_list ?z_max ?z_min ?z_range ?z_repr ?z_sorted ?z_str ?z_sum ?z_tuple ?z_zip
    (case a0 => k_is)
    (case l0 => k_is)
    (case c0 => k_is)
    (case k0 => k_is)
    (case a1 => k_is)
    (case l1 => k_is)
    (case c1 => k_is)
    (case k1 => k_is)
    (case lT => k_is)
    (case a2 => k_is)
    (case l2 => k_is)
    (case c2 => k_is)
    (case k2 => k_is)
    (case a3 => k_is)
    (case l3 => k_is)
    (case c3 => k_is)
    (case k3 => k_is)
    (case a4 => k_is)
    (case l4 => k_is)
    (case c4 => k_is)
    (case k4 => k_is)
    (case a5 => k_is)
    (case l5 => k_is)
    (case c5 => k_is)
    (case k5 => k_is)
    (case a6 => k_is)
    (case l6 => k_is)
    (case c6 => k_is)
    (case k6 => k_is)
    (case a7 => k_is)
    (case l7 => k_is)
    (case c7 => k_is)
    (case k7 => k_is)
    (case a8 => k_is)
    (case l8 => k_is)
    (case c8 => k_is)
    (case k8 => k_is)
    (case a9 => k_is)
    (case l9 => k_is)
    (case c9 => k_is)
    (case k9 => k_is)
    (case a10 => k_is)
    (case l10 => k_is)
    (case c10 => k_is)
    (case k10 => k_is)
    (case a11 => k_is)
    (case l11 => k_is)
    (case c11 => k_is)
    (case k11 => k_is)
    (case a12 => k_is)
    (case l12 => k_is)
    (case c12 => k_is)
    (case k12 => k_is)
    (case a13 => k_is)
    (case l13 => k_is)
    (case c13 => k_is)
    (case k13 => k_is)
    (case a14 => k_is)
    (case l14 => k_is)
    (case c14 => k_is)
    (case k14 => k_is)
    (case a15 => k_is)
    (case l15 => k_is)
    (case c15 => k_is)
    (case k15 => k_is)
    (case a16 => k_is)
    (case l16 => k_is)
    (case c16 => k_is)
    (case k16 => k_is)
    (case a17 => k_is)
    (case l17 => k_is)
    (case c17 => k_is)
    (case k17 => k_is)
    (case a18 => k_is)
    (case l18 => k_is)
    (case c18 => k_is)
    (case k18 => k_is)
    (case a19 => k_is)
    (case l19 => k_is)
    (case c19 => k_is)
    (case k19 => k_is)
    (case a20 => k_is)
    (case l20 => k_is)
    (case c20 => k_is)
    (case k20 => k_is)
    (case a21 => k_is)
    (case l21 => k_is)
    (case c21 => k_is)
    (case k21 => k_is)
    (case a22 => k_is)
    (case l22 => k_is)
    (case c22 => k_is)
    (case k22 => k_is)
    (case a23 => k_is)
    (case l23 => k_is)
    (case c23 => k_is)
    (case k23 => k_is)
    (case a24 => k_is)
    (case l24 => k_is)
    (case c24 => k_is)
    (case k24 => k_is)
    (case z_all => k_is)
    (case z_bool => k_is)
    (case z_dict => k_is)
    (case z_enumerate => k_is)
    (case z_int => k_is)
    (case z_isinstance => k_is)
    (case z_len => k_is)
    (case z_list => k_is)
    (case z_max => k_is)
    (case z_min => k_is)
    (case z_range => k_is)
    (case z_repr => k_is)
    (case z_sorted => k_is)
    (case z_str => k_is)
    (case z_sum => k_is)
    (case z_tuple => k_is)
    (case z_zip => k_is)
