import PyProof.Rows.All
import Wide.All
import OpenK.AllK
import Wide.FinOn
import HandS.ForMost
import HandS.Exc
import HandS.More
import HandS.Defaults
import HandS.Codes
import HandS.IsInst
import HandS.Wide
import HandS.Steps
import HandS.TupAny
import HandS.StrMore
import HandS.Strs
import HandS.Zip
import HandS.HeadHook1
import HandS.HeadHook2
import HandS.HeadHook3
import HandS.HeadHook4
import Lean
import KE.KStateDown
import HandS.Ends
import HandS.Words
import HandS.WordsExc
import HandS.Head0
import HandS.Head1
import HandS.Head2
import HandS.Head3
import HandS.Head4
import HandS.HeadEnd
import HandS.Walk
import PyProof.Draws
import KE.IntTextLaws
import PyProof.StrLawsFrom
import PySem.Challenge.RW_oldhands_k89_whole_one_text_each

section
set_option Elab.async false
set_option linter.all false
set_option maxRecDepth 100000
set_option maxHeartbeats 4000000
namespace OH
open PySem PySem.Spec PyProof.Rows L2
/-! ### names of the built-ins -/
theorem bt_len : bootBuiltins "len" = some (.builtin "len") := PySem.boot_len
theorem bt_all : bootBuiltins "all" = some (.builtin "all") := PyProof.Rows.boot_all
theorem bt_isinstance : bootBuiltins "isinstance" = some (.builtin "isinstance") := PyProof.Rows.boot_isinstance
theorem bt_sorted : bootBuiltins "sorted" = some (.builtin "sorted") := PyProof.Rows.boot_sorted
theorem bt_sum : bootBuiltins "sum" = some (.builtin "sum") := PyProof.Rows.boot_sum
theorem bt_min : bootBuiltins "min" = some (.builtin "min") := PyProof.Rows.boot_min
theorem bt_ord : bootBuiltins "ord" = some (.builtin "ord") := PyProof.Rows.boot_ord
theorem bt_int : bootBuiltins "int" = some (.type "int") := PyProof.Rows.boot_int
theorem bt_str : bootBuiltins "str" = some (.type "str") := PyProof.Rows.boot_str
theorem bt_bool : bootBuiltins "bool" = some (.type "bool") := PyProof.Rows.boot_bool
theorem bt_tuple : bootBuiltins "tuple" = some (.type "tuple") := PyProof.Rows.boot_tuple
theorem bt_set : bootBuiltins "set" = some (.type "set") := PyProof.Rows.boot_set

/-! ### a def told by the head -/
section
variable {P : Program} {w : World} {K : PySem.W.Frag} {mg : Str → Option Value} {base : Heap}
abbrev Tells (K : PySem.W.Frag) (mg : Str → Option Value) (x : Str) (st : Stmt) : Prop := ∃ f fd, FunD K x x (defArgs st) (defBody st) (defScope st) [] [] f fd ∧ mg x = some (.ref f)
abbrev TellsM (K : PySem.W.Frag) (C : Addr) (x q : Str) (st : Stmt) : Prop := ∃ f fd, FunD K x q (defArgs st) (defBody st) (defScope st) [] [] f fd ∧ Cls K C ∧ Meth K C x f
abbrev BindH (x q : Str) (st : Stmt) (ps : List Str) : Prop := ∀ (kV doc pm : Value) (an : Option Addr) (cdv ct : Value) (us : List Value), us.length = ps.length → bindArgs (PySem.W.fnOf x q (defArgs st) (defBody st) (defScope st) .none kV doc pm an cdv ct) ⟨us, []⟩ = pure (ps.zip us)
/-- the body of a def -/
abbrev BodyH (P : Program) (w : World) (K : PySem.W.Frag) (mg : Str → Option Value) (base : Heap) (k : Nat) (q : Str) (st : Stmt) (N : List Str) (sp : Sp) : Prop :=
  ∀ (f : Addr) (cdv : Value) (A : Around) (outer : List Env) (s : Shared) (H : Hp) (vs : List V) (Q : VK) (E : XK), Room k (A.deeper (envOfC q (defScope st) s.heap.objs.size f cdv)) → sp vs H Q E →
    ∃ t, PSs (cxOf C8.CX0 P w K mg base N q (defScope st) f cdv A outer s H E).nox (defBody st) t ∧ t { nx := fun _ H' => Q .non H', rt := Q } (start N vs) H
theorem calD {x : Str} {st : Stmt} {N ps : List Str} {k : Nat} {sp : Sp} (h : Tells K mg x st) (S : FnScope N ps (defScope st)) (hb : BindH x x st ps) (len : ∀ vs H Q E, sp vs H Q E → vs.length = ps.length)
    (body : BodyH P w K mg base k x st N sp) : C8.Cal P w K mg base (k + 1) x sp [] := by
  obtain ⟨f, fd, F, hm⟩ := h
  refine ⟨f, fd, ps, [], F.ok S len (fun cdv A outer s H vs Q E hr hs => ?_), hm, F.kp, F.bindsN hb, .nil⟩
  obtain ⟨t, h1, h2⟩ := body f cdv A outer s H vs Q E hr hs
  exact ⟨t, h1.nox, h2⟩
theorem metD {C : Addr} {x q : Str} {st : Stmt} {N ps : List Str} {k : Nat} {sp : Sp} (h : TellsM K C x q st) (S : FnScope N ps (defScope st)) (hb : BindH x q st ps) (len : ∀ vs H Q E, sp vs H Q E → vs.length = ps.length)
    (body : BodyH P w K mg base k q st N sp) : C8.Met P w K mg base (k + 1) C x sp [] := by
  obtain ⟨f, fd, F, hc, hm⟩ := h
  refine ⟨f, fd, ps, [], hc, hm, F.ok S len (fun cdv A outer s H vs Q E hr hs => ?_), F.bindsN hb, .nil⟩
  obtain ⟨t, h1, h2⟩ := body f cdv A outer s H vs Q E hr hs
  exact ⟨t, h1.nox, h2⟩
theorem cal_mono {x : Str} {k j : Nat} {sp : Sp} (h : C8.Cal P w K mg base k x sp []) (e : k = j) : C8.Cal P w K mg base j x sp [] := e ▸ h
end

/-! ### rules -/
section
variable {X : Cx} {a b c d : Expr} {pos : Pos} {ta tb tc td : TE}
def tChain3 (r r' r'' : R2) (ta tb tc td : TE) : TE := fun σ H Q => ta σ H fun x H1 => tb σ H1 fun y H2 => r x y H2 fun z H3 => ∃ k, z = .bl k ∧
  (if k = true then tc σ H3 fun w' H4 => r' y w' H4 fun z' H5 => ∃ k', z' = .bl k' ∧ (if k' = true then td σ H5 fun u H6 => r'' w' u H6 Q else Q (.bl false) H5) else Q (.bl false) H3)
theorem pe_chain3 {op op' op'' : CmpOp} {r r' r'' : R2} (ho : OpR X (compareOp op) r) (ho' : OpR X (compareOp op') r') (ho'' : OpR X (compareOp op'') r'') (ha : PE X a ta) (hb : PE X b tb) (hc : PE X c tc) (hd : PE X d td)
    (hm : lastMarks [op, op', op''] [b, c, d] = false := by with_unfolding_all rfl) : PE X (.Compare a [op, op', op''] [b, c, d] pos) (tChain3 r r' r'' ta tb tc td) := by
  refine ⟨fun pins s σ H Q I h => ?_⟩
  refine Compare_chain (thn (ha.run pins s σ H _ I h) fun v s1 ⟨x, H1, I1, r1, q1⟩ => chain_link ?_) hm
  refine thn (hb.run pins s1 σ H1 _ I1 q1) fun u s2 ⟨y, H2, I2, r2, q2⟩ => ?_
  refine thn (ho pins s2 σ H2 x y v u _ I2 r1 r2 q2) fun d' s3 ⟨z, H3, I3, r3, k, e, q3⟩ => ?_
  subst e
  cases r3
  refine wpAny_truthy_bool ?_
  cases k with
  | false => exact ite_ff ⟨.bl false, H3, I3, rfl, q3⟩
  | true =>
    refine ite_tt (chain_link ?_)
    refine thn (hc.run pins s3 σ H3 _ I3 q3) fun w' s4 ⟨y', H4, I4, r4, q4⟩ => ?_
    refine thn (ho' pins s4 σ H4 y y' u w' _ I4 r2 r4 q4) fun d2 s5 ⟨z', H5, I5, r5, k', e', q5⟩ => ?_
    subst e'
    cases r5
    refine wpAny_truthy_bool ?_
    cases k' with
    | false => exact ite_ff ⟨.bl false, H5, I5, rfl, q5⟩
    | true => exact ite_tt (chain_last (thn (hd.run pins s5 σ H5 _ I5 q5) fun w2 s6 ⟨z2, H6, I6, r6, q6⟩ => ho'' pins s6 σ H6 y' z2 w' w2 Q I6 r4 r6 q6))
/-- a key that stands in a written dict -/
def rInTab (K : PySem.W.Frag) (w : World) (b : Bool) : R2 := fun x y H Q => ∃ z p v, x = .str z ∧ y = .ref p ∧ (p == sysModules) = false ∧ KDct K w p z v ∧ Q (.bl b) H
theorem op_in_tab : OpR X (compareOp .In) (rInTab X.K X.w true) := by
  intro pins s σ H x y v u Q I rx ry h
  obtain ⟨z, p, v0, rfl, rfl, lo, ⟨es, n, u0, hl, hk, e, ru⟩, q⟩ := h
  exact op_in_kd ⟨hl, hk, lo⟩ pins s σ H _ _ v u Q I rx ry ⟨z, _, rfl, rfl, e, q⟩
theorem op_notIn_tab : OpR X (compareOp .NotIn) (rInTab X.K X.w false) := by
  intro pins s σ H x y v u Q I rx ry h
  obtain ⟨z, p, v0, rfl, rfl, lo, ⟨es, n, u0, hl, hk, e, ru⟩, q⟩ := h
  exact op_notIn_kd ⟨hl, hk, lo⟩ pins s σ H _ _ v u Q I rx ry ⟨z, _, rfl, rfl, e, q⟩
end

theorem if_t {b : Bool} {A B : Prop} (hb : b = true) (h : A) : if b = true then A else B := by
  rw [if_pos hb]
  exact h
theorem if_f {b : Bool} {A B : Prop} (hb : b = false) (h : B) : if b = true then A else B := by
  rw [if_neg (by rw [hb]; exact Bool.false_ne_true)]
  exact h
theorem bl_t {Q : V → Hp → Prop} {b : Bool} {H : Hp} (hb : b = true) (k : Q (.bl true) H) : Q (.bl b) H := by
  rw [hb]
  exact k
theorem bl_f {Q : V → Hp → Prop} {b : Bool} {H : Hp} (hb : b = false) (k : Q (.bl false) H) : Q (.bl b) H := by
  rw [hb]
  exact k
/-! ### heaps -/
/-- all that was tracked is as it was, but for what stands at places of M -/
def Kx (M : Addr → Prop) (H H' : Hp) : Prop := ∀ a o, ¬ M a → H a = some o → H' a = some o
abbrev M0 : Addr → Prop := fun _ => False
abbrev M1 (r : Addr) : Addr → Prop := fun a => a = r
abbrev M2 (r m : Addr) : Addr → Prop := fun a => a = r ∨ a = m
theorem Kx.refl (M : Addr → Prop) (H : Hp) : Kx M H H := fun _ _ _ h => h
theorem Kx.trans {M : Addr → Prop} {H H1 H2 : Hp} (a : Kx M H H1) (b : Kx M H1 H2) : Kx M H H2 := fun p o n h => b p o n (a p o n h)
theorem Kx.new {M : Addr → Prop} {H : Hp} {p : Addr} (o : HO) (h : H p = none) : Kx M H (upd H p o) := fun a u _ e => by
  rw [upd_ne (ne_of_none e h)]
  exact e
theorem Kx.put {M : Addr → Prop} {H : Hp} {p : Addr} (o : HO) (h : M p) : Kx M H (upd H p o) := fun a u n e => by
  have q : a ≠ p := fun z => n (by rw [z]; exact h)
  rw [upd_ne q]
  exact e
/-- what H does not know may change -/
theorem Kx.mut {M : Addr → Prop} {H H' : Hp} {p : Addr} (e : Kx M H H') (o : HO) (h : H p = none) : Kx M H (upd H' p o) := fun a u n ha => by
  rw [upd_ne (ne_of_none ha h)]
  exact e a u n ha
theorem Kx.wide {M N : Addr → Prop} {H H' : Hp} (h : ∀ a, M a → N a) (e : Kx M H H') : Kx N H H' := fun a o n => e a o fun m => n (h a m)
/-- places that H does not know may be left out -/
theorem Kx.less {M N : Addr → Prop} {H H' : Hp} (h : ∀ a, M a → N a ∨ H a = none) (e : Kx M H H') : Kx N H H' := fun a o n ha => e a o (fun m => by
  rcases h a m with z | z
  · exact n z
  · rw [z] at ha
    cases ha) ha
theorem Kx.same {M : Addr → Prop} {H H' : Hp} (e : Same H H') : Kx M H H' := fun a o _ h => e a o h
theorem Kx.to {H H' : Hp} (e : Kx M0 H H') : Same H H' := fun a o h => e a o (fun z => z) h
theorem Kx.fresh {H H' : Hp} {p : Addr} (e : Kx M0 H H') (h : H' p = none) : H p = none := e.to.free h
theorem Kx.free {M : Addr → Prop} {H H' : Hp} {p : Addr} (e : Kx M H H') (hm : ¬ M p) (h : H' p = none) : H p = none := by
  cases q : H p with
  | none => rfl
  | some o =>
    rw [e p o hm q] at h
    cases h
/-- no tuple stands at places of M -/
def NoT (M : Addr → Prop) (H : Hp) : Prop := ∀ a, M a → (∀ xs, H a ≠ some (.tup xs)) ∧ ∀ o xs, H a ≠ some (.frz o (.tup xs))
theorem NoT.zero {H : Hp} : NoT M0 H := fun _ h => h.elim
theorem NoT.one {H : Hp} {r : Addr} {xs : List V} (h : H r = some (.lst xs)) : NoT (M1 r) H := fun a e => by
  have e' : a = r := e
  subst e'
  exact ⟨fun ys q => (by rw [h] at q; cases q), fun o ys q => (by rw [h] at q; cases q)⟩
theorem NoT.two {H : Hp} {r m : Addr} {xs ys : List V} (h : H r = some (.lst xs)) (h' : H m = some (.lst ys)) : NoT (M2 r m) H := fun a e => by
  rcases e with e | e
  · exact NoT.one h a e
  · exact NoT.one h' a e
theorem NoT.ins {H : Hp} {r C dx : Addr} {fs : List (Str × V)} (h : H r = some (.ins C dx fs)) : NoT (M1 r) H := fun a e => by
  have e' : a = r := e
  subst e'
  exact ⟨fun ys q => (by rw [h] at q; cases q), fun o ys q => (by rw [h] at q; cases q)⟩
theorem Kx.sqT {M : Addr → Prop} {K : PySem.W.Frag} {H H' : Hp} {a : Addr} {xs : List V} (e : Kx M H H') (n : NoT M H) (h : SqT K H a xs) : SqT K H' a xs := by
  rcases h with (h | ⟨o, h⟩) | h
  · exact .inl (.inl (e a _ (fun m => (n a m).1 _ h) h))
  · exact .inl (.inr ⟨o, e a _ (fun m => (n a m).2 _ _ h) h⟩)
  · exact .inr h

/-! ### data of ints, texts and tuples -/
mutual
inductive Rp (K : PySem.W.Frag) (H : Hp) : V → PyData → Prop
  | int (i : Int) : Rp K H (.int i) (.int i)
  | str (x : Str) : Rp K H (.str x) (.str x)
  | tup {a : Addr} {xs : List V} {ds : List PyData} : SqT K H a xs → RpA K H xs ds → Rp K H (.ref a) (.tuple ds)
inductive RpA (K : PySem.W.Frag) (H : Hp) : List V → List PyData → Prop
  | nil : RpA K H [] []
  | cons {v : V} {vs : List V} {d : PyData} {ds : List PyData} : Rp K H v d → RpA K H vs ds → RpA K H (v :: vs) (d :: ds)
end
section
variable {K : PySem.W.Frag} {H H' : Hp} {M : Addr → Prop}
mutual
theorem Rp.keep (e : ∀ a xs, SqT K H a xs → SqT K H' a xs) : ∀ {v : V} {d : PyData}, Rp K H v d → Rp K H' v d
  | _, _, .int i => .int i
  | _, _, .str x => .str x
  | _, _, .tup h a => .tup (e _ _ h) (Rp.keepA e a)
theorem Rp.keepA (e : ∀ a xs, SqT K H a xs → SqT K H' a xs) : ∀ {vs : List V} {ds : List PyData}, RpA K H vs ds → RpA K H' vs ds
  | _, _, .nil => .nil
  | _, _, .cons h t => .cons (Rp.keep e h) (Rp.keepA e t)
end
mutual
theorem Rp.dp : ∀ {v : V} {d : PyData}, Rp K H v d → Dp K H v d
  | _, _, .int i => .int i
  | _, _, .str x => .str x
  | _, _, .tup h a => .tup h (Rp.dpA a)
theorem Rp.dpA : ∀ {vs : List V} {ds : List PyData}, RpA K H vs ds → DpAll K H vs ds
  | _, _, .nil => .nil
  | _, _, .cons h t => .cons (Rp.dp h) (Rp.dpA t)
end
theorem Rp.kx {v : V} {d : PyData} (h : Rp K H v d) (e : Kx M H H') (n : NoT M H) : Rp K H' v d := h.keep fun _ _ q => e.sqT n q
theorem RpA.kx {vs : List V} {ds : List PyData} (h : RpA K H vs ds) (e : Kx M H H') (n : NoT M H) : RpA K H' vs ds := Rp.keepA (fun _ _ q => e.sqT n q) h
theorem Rp.sm {v : V} {d : PyData} (h : Rp K H v d) (e : Same H H') : Rp K H' v d := h.kx (Kx.same (M := M0) e) NoT.zero
theorem RpA.sm {vs : List V} {ds : List PyData} (h : RpA K H vs ds) (e : Same H H') : RpA K H' vs ds := h.kx (Kx.same (M := M0) e) NoT.zero
theorem Rp.int_of {v : V} {i : Int} (h : Rp K H v (.int i)) : v = .int i := by
  cases h
  rfl
theorem Rp.str_of {v : V} {x : Str} (h : Rp K H v (.str x)) : v = .str x := by
  cases h
  rfl
theorem Rp.tup_of {v : V} {ds : List PyData} (h : Rp K H v (.tuple ds)) : ∃ a xs, v = .ref a ∧ SqT K H a xs ∧ RpA K H xs ds := by
  cases h with
  | tup h1 h2 => exact ⟨_, _, rfl, h1, h2⟩
theorem RpA.nil_of {vs : List V} (h : RpA K H vs []) : vs = [] := by
  cases h
  rfl
theorem RpA.cons_of {vs : List V} {d : PyData} {ds : List PyData} (h : RpA K H vs (d :: ds)) : ∃ v r, vs = v :: r ∧ Rp K H v d ∧ RpA K H r ds := by
  cases h with
  | cons h1 h2 => exact ⟨_, _, rfl, h1, h2⟩
theorem RpA.length : ∀ {vs : List V} {ds : List PyData}, RpA K H vs ds → vs.length = ds.length
  | _, _, .nil => rfl
  | _, _, .cons _ t => congrArg Nat.succ (RpA.length t)
theorem RpA.get : ∀ {vs : List V} {ds : List PyData} {i : Nat} {d : PyData}, RpA K H vs ds → ds[i]? = some d → ∃ v, vs[i]? = some v ∧ Rp K H v d
  | _, _, _, _, .nil, h => by simp at h
  | _, _, 0, _, .cons h _, e => by
    simp at e
    subst e
    exact ⟨_, rfl, h⟩
  | _, _, i + 1, d, .cons _ t, e => by
    obtain ⟨v, h1, h2⟩ := RpA.get (i := i) (d := d) t (by simpa using e)
    exact ⟨v, by simpa using h1, h2⟩
theorem RpA.append : ∀ {vs ws : List V} {ds es : List PyData}, RpA K H vs ds → RpA K H ws es → RpA K H (vs ++ ws) (ds ++ es)
  | _, _, _, _, .nil, q => q
  | _, _, _, _, .cons h t, q => .cons h (RpA.append t q)
theorem RpA.snoc {vs : List V} {v : V} {ds : List PyData} {d : PyData} (h : RpA K H vs ds) (q : Rp K H v d) : RpA K H (vs ++ [v]) (ds ++ [d]) := h.append (.cons q .nil)
theorem RpA.strs : ∀ {vs : List V} {xs : List Str}, RpA K H vs (xs.map PyData.str) → vs = xs.map V.str
  | _, [], h => h.nil_of
  | _, x :: xs, h => by
    obtain ⟨v, r, rfl, h1, h2⟩ := RpA.cons_of h
    rw [h1.str_of, RpA.strs h2]
    rfl
theorem RpA.of_strs : ∀ {xs : List Str}, RpA K H (xs.map V.str) (xs.map PyData.str)
  | [] => .nil
  | x :: xs => .cons (.str x) RpA.of_strs
end
end OH
end

section
set_option Elab.async false
set_option linter.all false
set_option maxRecDepth 100000
set_option maxHeartbeats 4000000
namespace OH
open PySem PySem.Spec PyProof.Rows L2
def top (i : Nat) : Stmt := PySem.Challenge.pw_oldhands_k89_whole_one_text_each.main.body.getD i (.Pass ⟨0, 0, 0, 0⟩)
abbrev s_is_name : Stmt := top 15
theorem sc_is_name : FnScope ["text", "sign"] ["text"] (defScope s_is_name) := ⟨rfl, rfl, rfl, by decide +kernel, rfl, by decide +kernel, by decide +kernel⟩
abbrev s_is_whole : Stmt := top 16
theorem sc_is_whole : FnScope ["thing"] ["thing"] (defScope s_is_whole) := ⟨rfl, rfl, rfl, by decide +kernel, rfl, by decide +kernel, by decide +kernel⟩
abbrev s_is_count : Stmt := top 17
theorem sc_is_count : FnScope ["thing", "most"] ["thing", "most"] (defScope s_is_count) := ⟨rfl, rfl, rfl, by decide +kernel, rfl, by decide +kernel, by decide +kernel⟩
abbrev s_are_names : Stmt := top 18
theorem sc_are_names : FnScope ["things", "thing"] ["things"] (defScope s_are_names) := ⟨rfl, rfl, rfl, by decide +kernel, rfl, by decide +kernel, by decide +kernel⟩
abbrev s_is_number_kind : Stmt := top 19
theorem sc_is_number_kind : FnScope ["kind"] ["kind"] (defScope s_is_number_kind) := ⟨rfl, rfl, rfl, by decide +kernel, rfl, by decide +kernel, by decide +kernel⟩
abbrev s_is_choice_kind : Stmt := top 20
theorem sc_is_choice_kind : FnScope ["kind"] ["kind"] (defScope s_is_choice_kind) := ⟨rfl, rfl, rfl, by decide +kernel, rfl, by decide +kernel, by decide +kernel⟩
abbrev s_is_field : Stmt := top 21
theorem sc_is_field : FnScope ["thing"] ["thing"] (defScope s_is_field) := ⟨rfl, rfl, rfl, by decide +kernel, rfl, by decide +kernel, by decide +kernel⟩
abbrev s_are_fields : Stmt := top 22
theorem sc_are_fields : FnScope ["things", "names", "thing"] ["things"] (defScope s_are_fields) := ⟨rfl, rfl, rfl, by decide +kernel, rfl, by decide +kernel, by decide +kernel⟩
abbrev s_field_kind : Stmt := top 23
theorem sc_field_kind : FnScope ["kind", "name", "other", "inner"] ["kind", "name"] (defScope s_field_kind) := ⟨rfl, rfl, rfl, by decide +kernel, rfl, by decide +kernel, by decide +kernel⟩
abbrev s_has_key : Stmt := top 24
theorem sc_has_key : FnScope ["kind", "key", "inner"] ["kind", "key"] (defScope s_has_key) := ⟨rfl, rfl, rfl, by decide +kernel, rfl, by decide +kernel, by decide +kernel⟩
abbrev s_kinds_within : Stmt := top 25
theorem sc_kinds_within : FnScope ["kind", "word", "found", "name", "inner"] ["kind"] (defScope s_kinds_within) := ⟨rfl, rfl, rfl, by decide +kernel, rfl, by decide +kernel, by decide +kernel⟩
abbrev s_kinds_left : Stmt := top 26
theorem sc_kinds_left : FnScope ["kind", "deep", "left", "within", "inner"] ["kind", "deep", "left"] (defScope s_kinds_left) := ⟨rfl, rfl, rfl, by decide +kernel, rfl, by decide +kernel, by decide +kernel⟩
abbrev s_made_kind : Stmt := top 27
theorem sc_made_kind : FnScope ["kind"] ["kind"] (defScope s_made_kind) := ⟨rfl, rfl, rfl, by decide +kernel, rfl, by decide +kernel, by decide +kernel⟩
abbrev s_is_sign : Stmt := top 29
theorem sc_is_sign : FnScope ["sign"] ["sign"] (defScope s_is_sign) := ⟨rfl, rfl, rfl, by decide +kernel, rfl, by decide +kernel, by decide +kernel⟩
abbrev s_in_brackets : Stmt := top 33
theorem sc_in_brackets : FnScope ["word", "texts"] ["word", "texts"] (defScope s_in_brackets) := ⟨rfl, rfl, rfl, by decide +kernel, rfl, by decide +kernel, by decide +kernel⟩
abbrev s_pairs_text : Stmt := top 34
theorem sc_pairs_text : FnScope ["pairs", "name", "text"] ["pairs"] (defScope s_pairs_text) := ⟨rfl, rfl, rfl, by decide +kernel, rfl, by decide +kernel, by decide +kernel⟩
abbrev s_kind_text : Stmt := top 35
theorem sc_kind_text : FnScope ["kind", "word", "name", "inner"] ["kind"] (defScope s_kind_text) := ⟨rfl, rfl, rfl, by decide +kernel, rfl, by decide +kernel, by decide +kernel⟩
abbrev s_quoted : Stmt := top 36
theorem sc_quoted : FnScope ["text"] ["text"] (defScope s_quoted) := ⟨rfl, rfl, rfl, by decide +kernel, rfl, by decide +kernel, by decide +kernel⟩
abbrev s_value_text : Stmt := top 37
theorem sc_value_text : FnScope ["value", "items", "item", "name", "inner"] ["value"] (defScope s_value_text) := ⟨rfl, rfl, rfl, by decide +kernel, rfl, by decide +kernel, by decide +kernel⟩
abbrev s_part_text : Stmt := top 38
theorem sc_part_text : FnScope ["sort", "part"] ["sort", "part"] (defScope s_part_text) := ⟨rfl, rfl, rfl, by decide +kernel, rfl, by decide +kernel, by decide +kernel⟩
abbrev s_turn_text : Stmt := top 39
theorem sc_turn_text : FnScope ["turn", "word", "sort", "part"] ["turn"] (defScope s_turn_text) := ⟨rfl, rfl, rfl, by decide +kernel, rfl, by decide +kernel, by decide +kernel⟩
abbrev s_piece_text : Stmt := top 40
theorem sc_piece_text : FnScope ["piece", "word", "sort", "part"] ["piece"] (defScope s_piece_text) := ⟨rfl, rfl, rfl, by decide +kernel, rfl, by decide +kernel, by decide +kernel⟩
abbrev s_path_text : Stmt := top 41
theorem sc_path_text : FnScope ["path", "name"] ["path"] (defScope s_path_text) := ⟨rfl, rfl, rfl, by decide +kernel, rfl, by decide +kernel, by decide +kernel⟩
abbrev s_change_text : Stmt := top 42
theorem sc_change_text : FnScope ["change"] ["change"] (defScope s_change_text) := ⟨rfl, rfl, rfl, by decide +kernel, rfl, by decide +kernel, by decide +kernel⟩
abbrev s_run_end : Stmt := top 50
theorem sc_run_end : FnScope ["text", "at", "signs"] ["text", "at", "signs"] (defScope s_run_end) := ⟨rfl, rfl, rfl, by decide +kernel, rfl, by decide +kernel, by decide +kernel⟩
abbrev s_quoted_end : Stmt := top 51
theorem sc_quoted_end : FnScope ["text", "at", "end", "sign"] ["text", "at"] (defScope s_quoted_end) := ⟨rfl, rfl, rfl, by decide +kernel, rfl, by decide +kernel, by decide +kernel⟩
abbrev s_number_end : Stmt := top 52
theorem sc_number_end : FnScope ["text", "at", "first", "end"] ["text", "at"] (defScope s_number_end) := ⟨rfl, rfl, rfl, by decide +kernel, rfl, by decide +kernel, by decide +kernel⟩
abbrev s_words_of : Stmt := top 53
theorem sc_words_of : FnScope ["text", "found", "at", "sign", "end"] ["text"] (defScope s_words_of) := ⟨rfl, rfl, rfl, by decide +kernel, rfl, by decide +kernel, by decide +kernel⟩
abbrev s_TextReader_init : Stmt := inClass (top 54) 0
theorem sc_TextReader_init : FnScope ["self", "text"] ["self", "text"] (defScope s_TextReader_init) := ⟨rfl, rfl, rfl, by decide +kernel, rfl, by decide +kernel, by decide +kernel⟩
abbrev s_TextReader_next_is : Stmt := inClass (top 54) 1
theorem sc_TextReader_next_is : FnScope ["self", "sign"] ["self", "sign"] (defScope s_TextReader_next_is) := ⟨rfl, rfl, rfl, by decide +kernel, rfl, by decide +kernel, by decide +kernel⟩
abbrev s_TextReader_due : Stmt := inClass (top 54) 2
theorem sc_TextReader_due : FnScope ["self", "sign"] ["self", "sign"] (defScope s_TextReader_due) := ⟨rfl, rfl, rfl, by decide +kernel, rfl, by decide +kernel, by decide +kernel⟩
abbrev s_TextReader_taken : Stmt := inClass (top 54) 3
theorem sc_TextReader_taken : FnScope ["self", "sort", "found", "word"] ["self", "sort"] (defScope s_TextReader_taken) := ⟨rfl, rfl, rfl, by decide +kernel, rfl, by decide +kernel, by decide +kernel⟩
abbrev s_TextReader_opened : Stmt := inClass (top 54) 4
theorem sc_TextReader_opened : FnScope ["self", "sign"] ["self", "sign"] (defScope s_TextReader_opened) := ⟨rfl, rfl, rfl, by decide +kernel, rfl, by decide +kernel, by decide +kernel⟩
abbrev s_TextReader_closed : Stmt := inClass (top 54) 5
theorem sc_TextReader_closed : FnScope ["self", "sign"] ["self", "sign"] (defScope s_TextReader_closed) := ⟨rfl, rfl, rfl, by decide +kernel, rfl, by decide +kernel, by decide +kernel⟩
abbrev s_TextReader_ended : Stmt := inClass (top 54) 6
theorem sc_TextReader_ended : FnScope ["self", "found"] ["self", "found"] (defScope s_TextReader_ended) := ⟨rfl, rfl, rfl, by decide +kernel, rfl, by decide +kernel, by decide +kernel⟩
abbrev s_TextReader_goes_on : Stmt := inClass (top 54) 7
theorem sc_TextReader_goes_on : FnScope ["self", "many", "closing"] ["self", "many", "closing"] (defScope s_TextReader_goes_on) := ⟨rfl, rfl, rfl, by decide +kernel, rfl, by decide +kernel, by decide +kernel⟩
abbrev s_TextReader_names : Stmt := inClass (top 54) 8
theorem sc_TextReader_names : FnScope ["self", "closing", "found"] ["self", "closing"] (defScope s_TextReader_names) := ⟨rfl, rfl, rfl, by decide +kernel, rfl, by decide +kernel, by decide +kernel⟩
abbrev s_TextReader_kind_pairs : Stmt := inClass (top 54) 9
theorem sc_TextReader_kind_pairs : FnScope ["self", "found", "name"] ["self"] (defScope s_TextReader_kind_pairs) := ⟨rfl, rfl, rfl, by decide +kernel, rfl, by decide +kernel, by decide +kernel⟩
abbrev s_TextReader_name_pairs : Stmt := inClass (top 54) 10
theorem sc_TextReader_name_pairs : FnScope ["self", "found", "name"] ["self"] (defScope s_TextReader_name_pairs) := ⟨rfl, rfl, rfl, by decide +kernel, rfl, by decide +kernel, by decide +kernel⟩
abbrev s_TextReader_value_pairs : Stmt := inClass (top 54) 11
theorem sc_TextReader_value_pairs : FnScope ["self", "found", "name"] ["self"] (defScope s_TextReader_value_pairs) := ⟨rfl, rfl, rfl, by decide +kernel, rfl, by decide +kernel, by decide +kernel⟩
abbrev s_TextReader_values : Stmt := inClass (top 54) 12
theorem sc_TextReader_values : FnScope ["self", "closing", "found"] ["self", "closing"] (defScope s_TextReader_values) := ⟨rfl, rfl, rfl, by decide +kernel, rfl, by decide +kernel, by decide +kernel⟩
abbrev s_TextReader_kind_parts : Stmt := inClass (top 54) 13
theorem sc_TextReader_kind_parts : FnScope ["self", "word", "most", "inner", "key"] ["self", "word"] (defScope s_TextReader_kind_parts) := ⟨rfl, rfl, rfl, by decide +kernel, rfl, by decide +kernel, by decide +kernel⟩
abbrev s_TextReader_kind : Stmt := inClass (top 54) 14
theorem sc_TextReader_kind : FnScope ["self", "word", "found"] ["self"] (defScope s_TextReader_kind) := ⟨rfl, rfl, rfl, by decide +kernel, rfl, by decide +kernel, by decide +kernel⟩
abbrev s_TextReader_value : Stmt := inClass (top 54) 15
theorem sc_TextReader_value : FnScope ["self", "sort", "word", "found"] ["self"] (defScope s_TextReader_value) := ⟨rfl, rfl, rfl, by decide +kernel, rfl, by decide +kernel, by decide +kernel⟩
abbrev s_TextReader_part : Stmt := inClass (top 54) 16
theorem sc_TextReader_part : FnScope ["self", "sort"] ["self", "sort"] (defScope s_TextReader_part) := ⟨rfl, rfl, rfl, by decide +kernel, rfl, by decide +kernel, by decide +kernel⟩
abbrev s_TextReader_parts : Stmt := inClass (top 54) 17
theorem sc_TextReader_parts : FnScope ["self", "sorts", "found", "sort"] ["self", "sorts"] (defScope s_TextReader_parts) := ⟨rfl, rfl, rfl, by decide +kernel, rfl, by decide +kernel, by decide +kernel⟩
abbrev s_TextReader_turn : Stmt := inClass (top 54) 18
theorem sc_TextReader_turn : FnScope ["self", "word", "forth", "found"] ["self"] (defScope s_TextReader_turn) := ⟨rfl, rfl, rfl, by decide +kernel, rfl, by decide +kernel, by decide +kernel⟩
abbrev s_TextReader_piece : Stmt := inClass (top 54) 19
theorem sc_TextReader_piece : FnScope ["self", "word", "found"] ["self"] (defScope s_TextReader_piece) := ⟨rfl, rfl, rfl, by decide +kernel, rfl, by decide +kernel, by decide +kernel⟩
abbrev s_TextReader_path : Stmt := inClass (top 54) 20
theorem sc_TextReader_path : FnScope ["self", "found", "sort"] ["self"] (defScope s_TextReader_path) := ⟨rfl, rfl, rfl, by decide +kernel, rfl, by decide +kernel, by decide +kernel⟩
abbrev s_read_kind : Stmt := top 55
theorem sc_read_kind : FnScope ["text", "reader"] ["text"] (defScope s_read_kind) := ⟨rfl, rfl, rfl, by decide +kernel, rfl, by decide +kernel, by decide +kernel⟩
abbrev s_read_turn : Stmt := top 56
theorem sc_read_turn : FnScope ["text", "reader"] ["text"] (defScope s_read_turn) := ⟨rfl, rfl, rfl, by decide +kernel, rfl, by decide +kernel, by decide +kernel⟩
abbrev s_read_piece : Stmt := top 57
theorem sc_read_piece : FnScope ["text", "reader"] ["text"] (defScope s_read_piece) := ⟨rfl, rfl, rfl, by decide +kernel, rfl, by decide +kernel, by decide +kernel⟩
abbrev s_read_change : Stmt := top 58
theorem sc_read_change : FnScope ["text", "reader", "path"] ["text"] (defScope s_read_change) := ⟨rfl, rfl, rfl, by decide +kernel, rfl, by decide +kernel, by decide +kernel⟩
abbrev s_law_cell_at : Stmt := top 60
theorem sc_law_cell_at : FnScope ["script", "k"] ["script", "k"] (defScope s_law_cell_at) := ⟨rfl, rfl, rfl, by decide +kernel, rfl, by decide +kernel, by decide +kernel⟩
abbrev s_law_mixed : Stmt := top 61
theorem sc_law_mixed : FnScope ["cell", "k", "stir"] ["cell", "k"] (defScope s_law_mixed) := ⟨rfl, rfl, rfl, by decide +kernel, rfl, by decide +kernel, by decide +kernel⟩
abbrev s_law_own : Stmt := top 62
theorem sc_law_own : FnScope ["script", "k", "turn", "cell", "found", "j"] ["script", "k", "turn"] (defScope s_law_own) := ⟨rfl, rfl, rfl, by decide +kernel, rfl, by decide +kernel, by decide +kernel⟩
abbrev s_law_digit : Stmt := top 63
theorem sc_law_digit : FnScope ["row", "many", "digit"] ["row", "many"] (defScope s_law_digit) := ⟨rfl, rfl, rfl, by decide +kernel, rfl, by decide +kernel, by decide +kernel⟩
abbrev s_law_names : Stmt := top 64
theorem sc_law_names : FnScope ["row", "many", "base", "tail", "way", "words", "k"] ["row", "many"] (defScope s_law_names) := ⟨rfl, rfl, rfl, by decide +kernel, rfl, by decide +kernel, by decide +kernel⟩
abbrev s_law_number_kind : Stmt := top 65
theorem sc_law_number_kind : FnScope ["row", "low", "high"] ["row"] (defScope s_law_number_kind) := ⟨rfl, rfl, rfl, by decide +kernel, rfl, by decide +kernel, by decide +kernel⟩
abbrev s_law_leaf_kind : Stmt := top 66
theorem sc_law_leaf_kind : FnScope ["row", "way", "words"] ["row"] (defScope s_law_leaf_kind) := ⟨rfl, rfl, rfl, by decide +kernel, rfl, by decide +kernel, by decide +kernel⟩
abbrev s_law_record_kind : Stmt := top 67
theorem sc_law_record_kind : FnScope ["row", "deep", "room", "many", "fields", "name"] ["row", "deep", "room"] (defScope s_law_record_kind) := ⟨rfl, rfl, rfl, by decide +kernel, rfl, by decide +kernel, by decide +kernel⟩
abbrev s_law_rows_kind : Stmt := top 68
theorem sc_law_rows_kind : FnScope ["row", "deep", "room", "names", "key", "fields", "name", "inner"] ["row", "deep", "room"] (defScope s_law_rows_kind) := ⟨rfl, rfl, rfl, by decide +kernel, rfl, by decide +kernel, by decide +kernel⟩
abbrev s_law_kind : Stmt := top 69
theorem sc_law_kind : FnScope ["row", "deep", "room", "way"] ["row", "deep", "room"] (defScope s_law_kind) := ⟨rfl, rfl, rfl, by decide +kernel, rfl, by decide +kernel, by decide +kernel⟩
abbrev s_law_text : Stmt := top 70
theorem sc_law_text : FnScope ["row", "most", "signs", "k"] ["row", "most"] (defScope s_law_text) := ⟨rfl, rfl, rfl, by decide +kernel, rfl, by decide +kernel, by decide +kernel⟩
abbrev s_law_word : Stmt := top 71
theorem sc_law_word : FnScope ["row", "word", "k"] ["row"] (defScope s_law_word) := ⟨rfl, rfl, rfl, by decide +kernel, rfl, by decide +kernel, by decide +kernel⟩
abbrev s_law_any_number : Stmt := top 72
theorem sc_law_any_number : FnScope ["row"] ["row"] (defScope s_law_any_number) := ⟨rfl, rfl, rfl, by decide +kernel, rfl, by decide +kernel, by decide +kernel⟩
abbrev s_law_any_value : Stmt := top 73
theorem sc_law_any_value : FnScope ["row", "deep", "way", "many", "k"] ["row", "deep"] (defScope s_law_any_value) := ⟨rfl, rfl, rfl, by decide +kernel, rfl, by decide +kernel, by decide +kernel⟩
abbrev s_law_any_turn : Stmt := top 74
theorem sc_law_any_turn : FnScope ["row", "deep", "way", "forth", "k"] ["row", "deep"] (defScope s_law_any_turn) := ⟨rfl, rfl, rfl, by decide +kernel, rfl, by decide +kernel, by decide +kernel⟩
abbrev s_law_any_piece : Stmt := top 75
theorem sc_law_any_piece : FnScope ["row", "way", "one", "two", "three", "four"] ["row"] (defScope s_law_any_piece) := ⟨rfl, rfl, rfl, by decide +kernel, rfl, by decide +kernel, by decide +kernel⟩
abbrev s_law_any_path : Stmt := top 76
theorem sc_law_any_path : FnScope ["row", "k"] ["row"] (defScope s_law_any_path) := ⟨rfl, rfl, rfl, by decide +kernel, rfl, by decide +kernel, by decide +kernel⟩
abbrev s_law_nearly : Stmt := top 77
theorem sc_law_nearly : FnScope ["thing", "row", "at", "part"] ["thing", "row"] (defScope s_law_nearly) := ⟨rfl, rfl, rfl, by decide +kernel, rfl, by decide +kernel, by decide +kernel⟩
abbrev s_law_some : Stmt := top 78
theorem sc_law_some : FnScope ["row", "sort", "found", "k"] ["row", "sort"] (defScope s_law_some) := ⟨rfl, rfl, rfl, by decide +kernel, rfl, by decide +kernel, by decide +kernel⟩
abbrev s_law_text_of : Stmt := top 79
theorem sc_law_text_of : FnScope ["sort", "thing"] ["sort", "thing"] (defScope s_law_text_of) := ⟨rfl, rfl, rfl, by decide +kernel, rfl, by decide +kernel, by decide +kernel⟩
abbrev s_law_read : Stmt := top 80
theorem sc_law_read : FnScope ["sort", "text"] ["sort", "text"] (defScope s_law_read) := ⟨rfl, rfl, rfl, by decide +kernel, rfl, by decide +kernel, by decide +kernel⟩
abbrev s_law : Stmt := top 81
theorem sc_law : FnScope ["script", "k", "sort", "row", "some", "texts", "a", "b", "found", "thing"] ["script"] (defScope s_law) := ⟨rfl, rfl, rfl, by decide +kernel, rfl, by decide +kernel, by decide +kernel⟩
def d_is_name : He.DefD := ⟨("is_name", none), "is_name", "is_name", defArgs s_is_name, defBody s_is_name, defScope s_is_name, [], []⟩
def d_is_whole : He.DefD := ⟨("is_whole", none), "is_whole", "is_whole", defArgs s_is_whole, defBody s_is_whole, defScope s_is_whole, [], []⟩
def d_is_count : He.DefD := ⟨("is_count", none), "is_count", "is_count", defArgs s_is_count, defBody s_is_count, defScope s_is_count, [], []⟩
def d_are_names : He.DefD := ⟨("are_names", none), "are_names", "are_names", defArgs s_are_names, defBody s_are_names, defScope s_are_names, [], []⟩
def d_is_number_kind : He.DefD := ⟨("is_number_kind", none), "is_number_kind", "is_number_kind", defArgs s_is_number_kind, defBody s_is_number_kind, defScope s_is_number_kind, [], []⟩
def d_is_choice_kind : He.DefD := ⟨("is_choice_kind", none), "is_choice_kind", "is_choice_kind", defArgs s_is_choice_kind, defBody s_is_choice_kind, defScope s_is_choice_kind, [], []⟩
def d_is_field : He.DefD := ⟨("is_field", none), "is_field", "is_field", defArgs s_is_field, defBody s_is_field, defScope s_is_field, [], []⟩
def d_are_fields : He.DefD := ⟨("are_fields", none), "are_fields", "are_fields", defArgs s_are_fields, defBody s_are_fields, defScope s_are_fields, [], []⟩
def d_field_kind : He.DefD := ⟨("field_kind", none), "field_kind", "field_kind", defArgs s_field_kind, defBody s_field_kind, defScope s_field_kind, [], []⟩
def d_has_key : He.DefD := ⟨("has_key", none), "has_key", "has_key", defArgs s_has_key, defBody s_has_key, defScope s_has_key, [], []⟩
def d_kinds_within : He.DefD := ⟨("kinds_within", none), "kinds_within", "kinds_within", defArgs s_kinds_within, defBody s_kinds_within, defScope s_kinds_within, [], []⟩
def d_kinds_left : He.DefD := ⟨("kinds_left", none), "kinds_left", "kinds_left", defArgs s_kinds_left, defBody s_kinds_left, defScope s_kinds_left, [], []⟩
def d_made_kind : He.DefD := ⟨("made_kind", none), "made_kind", "made_kind", defArgs s_made_kind, defBody s_made_kind, defScope s_made_kind, [], []⟩
def d_is_sign : He.DefD := ⟨("is_sign", none), "is_sign", "is_sign", defArgs s_is_sign, defBody s_is_sign, defScope s_is_sign, [], []⟩
def d_in_brackets : He.DefD := ⟨("in_brackets", none), "in_brackets", "in_brackets", defArgs s_in_brackets, defBody s_in_brackets, defScope s_in_brackets, [], []⟩
def d_pairs_text : He.DefD := ⟨("pairs_text", none), "pairs_text", "pairs_text", defArgs s_pairs_text, defBody s_pairs_text, defScope s_pairs_text, [], []⟩
def d_kind_text : He.DefD := ⟨("kind_text", none), "kind_text", "kind_text", defArgs s_kind_text, defBody s_kind_text, defScope s_kind_text, [], []⟩
def d_quoted : He.DefD := ⟨("quoted", none), "quoted", "quoted", defArgs s_quoted, defBody s_quoted, defScope s_quoted, [], []⟩
def d_value_text : He.DefD := ⟨("value_text", none), "value_text", "value_text", defArgs s_value_text, defBody s_value_text, defScope s_value_text, [], []⟩
def d_part_text : He.DefD := ⟨("part_text", none), "part_text", "part_text", defArgs s_part_text, defBody s_part_text, defScope s_part_text, [], []⟩
def d_turn_text : He.DefD := ⟨("turn_text", none), "turn_text", "turn_text", defArgs s_turn_text, defBody s_turn_text, defScope s_turn_text, [], []⟩
def d_piece_text : He.DefD := ⟨("piece_text", none), "piece_text", "piece_text", defArgs s_piece_text, defBody s_piece_text, defScope s_piece_text, [], []⟩
def d_path_text : He.DefD := ⟨("path_text", none), "path_text", "path_text", defArgs s_path_text, defBody s_path_text, defScope s_path_text, [], []⟩
def d_change_text : He.DefD := ⟨("change_text", none), "change_text", "change_text", defArgs s_change_text, defBody s_change_text, defScope s_change_text, [], []⟩
def d_run_end : He.DefD := ⟨("run_end", none), "run_end", "run_end", defArgs s_run_end, defBody s_run_end, defScope s_run_end, [], []⟩
def d_quoted_end : He.DefD := ⟨("quoted_end", none), "quoted_end", "quoted_end", defArgs s_quoted_end, defBody s_quoted_end, defScope s_quoted_end, [], []⟩
def d_number_end : He.DefD := ⟨("number_end", none), "number_end", "number_end", defArgs s_number_end, defBody s_number_end, defScope s_number_end, [], []⟩
def d_words_of : He.DefD := ⟨("words_of", none), "words_of", "words_of", defArgs s_words_of, defBody s_words_of, defScope s_words_of, [], []⟩
def d_TextReader_init : He.DefD := ⟨("TextReader", some "__init__"), "__init__", "TextReader.__init__", defArgs s_TextReader_init, defBody s_TextReader_init, defScope s_TextReader_init, [], []⟩
def d_TextReader_next_is : He.DefD := ⟨("TextReader", some "next_is"), "next_is", "TextReader.next_is", defArgs s_TextReader_next_is, defBody s_TextReader_next_is, defScope s_TextReader_next_is, [], []⟩
def d_TextReader_due : He.DefD := ⟨("TextReader", some "due"), "due", "TextReader.due", defArgs s_TextReader_due, defBody s_TextReader_due, defScope s_TextReader_due, [], []⟩
def d_TextReader_taken : He.DefD := ⟨("TextReader", some "taken"), "taken", "TextReader.taken", defArgs s_TextReader_taken, defBody s_TextReader_taken, defScope s_TextReader_taken, [], []⟩
def d_TextReader_opened : He.DefD := ⟨("TextReader", some "opened"), "opened", "TextReader.opened", defArgs s_TextReader_opened, defBody s_TextReader_opened, defScope s_TextReader_opened, [], []⟩
def d_TextReader_closed : He.DefD := ⟨("TextReader", some "closed"), "closed", "TextReader.closed", defArgs s_TextReader_closed, defBody s_TextReader_closed, defScope s_TextReader_closed, [], []⟩
def d_TextReader_ended : He.DefD := ⟨("TextReader", some "ended"), "ended", "TextReader.ended", defArgs s_TextReader_ended, defBody s_TextReader_ended, defScope s_TextReader_ended, [], []⟩
def d_TextReader_goes_on : He.DefD := ⟨("TextReader", some "goes_on"), "goes_on", "TextReader.goes_on", defArgs s_TextReader_goes_on, defBody s_TextReader_goes_on, defScope s_TextReader_goes_on, [], []⟩
def d_TextReader_names : He.DefD := ⟨("TextReader", some "names"), "names", "TextReader.names", defArgs s_TextReader_names, defBody s_TextReader_names, defScope s_TextReader_names, [], []⟩
def d_TextReader_kind_pairs : He.DefD := ⟨("TextReader", some "kind_pairs"), "kind_pairs", "TextReader.kind_pairs", defArgs s_TextReader_kind_pairs, defBody s_TextReader_kind_pairs, defScope s_TextReader_kind_pairs, [], []⟩
def d_TextReader_name_pairs : He.DefD := ⟨("TextReader", some "name_pairs"), "name_pairs", "TextReader.name_pairs", defArgs s_TextReader_name_pairs, defBody s_TextReader_name_pairs, defScope s_TextReader_name_pairs, [], []⟩
def d_TextReader_value_pairs : He.DefD := ⟨("TextReader", some "value_pairs"), "value_pairs", "TextReader.value_pairs", defArgs s_TextReader_value_pairs, defBody s_TextReader_value_pairs, defScope s_TextReader_value_pairs, [], []⟩
def d_TextReader_values : He.DefD := ⟨("TextReader", some "values"), "values", "TextReader.values", defArgs s_TextReader_values, defBody s_TextReader_values, defScope s_TextReader_values, [], []⟩
def d_TextReader_kind_parts : He.DefD := ⟨("TextReader", some "kind_parts"), "kind_parts", "TextReader.kind_parts", defArgs s_TextReader_kind_parts, defBody s_TextReader_kind_parts, defScope s_TextReader_kind_parts, [], []⟩
def d_TextReader_kind : He.DefD := ⟨("TextReader", some "kind"), "kind", "TextReader.kind", defArgs s_TextReader_kind, defBody s_TextReader_kind, defScope s_TextReader_kind, [], []⟩
def d_TextReader_value : He.DefD := ⟨("TextReader", some "value"), "value", "TextReader.value", defArgs s_TextReader_value, defBody s_TextReader_value, defScope s_TextReader_value, [], []⟩
def d_TextReader_part : He.DefD := ⟨("TextReader", some "part"), "part", "TextReader.part", defArgs s_TextReader_part, defBody s_TextReader_part, defScope s_TextReader_part, [], []⟩
def d_TextReader_parts : He.DefD := ⟨("TextReader", some "parts"), "parts", "TextReader.parts", defArgs s_TextReader_parts, defBody s_TextReader_parts, defScope s_TextReader_parts, [], []⟩
def d_TextReader_turn : He.DefD := ⟨("TextReader", some "turn"), "turn", "TextReader.turn", defArgs s_TextReader_turn, defBody s_TextReader_turn, defScope s_TextReader_turn, [], []⟩
def d_TextReader_piece : He.DefD := ⟨("TextReader", some "piece"), "piece", "TextReader.piece", defArgs s_TextReader_piece, defBody s_TextReader_piece, defScope s_TextReader_piece, [], []⟩
def d_TextReader_path : He.DefD := ⟨("TextReader", some "path"), "path", "TextReader.path", defArgs s_TextReader_path, defBody s_TextReader_path, defScope s_TextReader_path, [], []⟩
def d_read_kind : He.DefD := ⟨("read_kind", none), "read_kind", "read_kind", defArgs s_read_kind, defBody s_read_kind, defScope s_read_kind, [], []⟩
def d_read_turn : He.DefD := ⟨("read_turn", none), "read_turn", "read_turn", defArgs s_read_turn, defBody s_read_turn, defScope s_read_turn, [], []⟩
def d_read_piece : He.DefD := ⟨("read_piece", none), "read_piece", "read_piece", defArgs s_read_piece, defBody s_read_piece, defScope s_read_piece, [], []⟩
def d_read_change : He.DefD := ⟨("read_change", none), "read_change", "read_change", defArgs s_read_change, defBody s_read_change, defScope s_read_change, [], []⟩
def d_law_cell_at : He.DefD := ⟨("_law_cell_at", none), "_law_cell_at", "_law_cell_at", defArgs s_law_cell_at, defBody s_law_cell_at, defScope s_law_cell_at, [], []⟩
def d_law_mixed : He.DefD := ⟨("_law_mixed", none), "_law_mixed", "_law_mixed", defArgs s_law_mixed, defBody s_law_mixed, defScope s_law_mixed, [], []⟩
def d_law_own : He.DefD := ⟨("_law_own", none), "_law_own", "_law_own", defArgs s_law_own, defBody s_law_own, defScope s_law_own, [], []⟩
def d_law_digit : He.DefD := ⟨("_law_digit", none), "_law_digit", "_law_digit", defArgs s_law_digit, defBody s_law_digit, defScope s_law_digit, [], []⟩
def d_law_names : He.DefD := ⟨("_law_names", none), "_law_names", "_law_names", defArgs s_law_names, defBody s_law_names, defScope s_law_names, [], []⟩
def d_law_number_kind : He.DefD := ⟨("_law_number_kind", none), "_law_number_kind", "_law_number_kind", defArgs s_law_number_kind, defBody s_law_number_kind, defScope s_law_number_kind, [], []⟩
def d_law_leaf_kind : He.DefD := ⟨("_law_leaf_kind", none), "_law_leaf_kind", "_law_leaf_kind", defArgs s_law_leaf_kind, defBody s_law_leaf_kind, defScope s_law_leaf_kind, [], []⟩
def d_law_record_kind : He.DefD := ⟨("_law_record_kind", none), "_law_record_kind", "_law_record_kind", defArgs s_law_record_kind, defBody s_law_record_kind, defScope s_law_record_kind, [], []⟩
def d_law_rows_kind : He.DefD := ⟨("_law_rows_kind", none), "_law_rows_kind", "_law_rows_kind", defArgs s_law_rows_kind, defBody s_law_rows_kind, defScope s_law_rows_kind, [], []⟩
def d_law_kind : He.DefD := ⟨("_law_kind", none), "_law_kind", "_law_kind", defArgs s_law_kind, defBody s_law_kind, defScope s_law_kind, [], []⟩
def d_law_text : He.DefD := ⟨("_law_text", none), "_law_text", "_law_text", defArgs s_law_text, defBody s_law_text, defScope s_law_text, [], []⟩
def d_law_word : He.DefD := ⟨("_law_word", none), "_law_word", "_law_word", defArgs s_law_word, defBody s_law_word, defScope s_law_word, [], []⟩
def d_law_any_number : He.DefD := ⟨("_law_any_number", none), "_law_any_number", "_law_any_number", defArgs s_law_any_number, defBody s_law_any_number, defScope s_law_any_number, [], []⟩
def d_law_any_value : He.DefD := ⟨("_law_any_value", none), "_law_any_value", "_law_any_value", defArgs s_law_any_value, defBody s_law_any_value, defScope s_law_any_value, [], []⟩
def d_law_any_turn : He.DefD := ⟨("_law_any_turn", none), "_law_any_turn", "_law_any_turn", defArgs s_law_any_turn, defBody s_law_any_turn, defScope s_law_any_turn, [], []⟩
def d_law_any_piece : He.DefD := ⟨("_law_any_piece", none), "_law_any_piece", "_law_any_piece", defArgs s_law_any_piece, defBody s_law_any_piece, defScope s_law_any_piece, [], []⟩
def d_law_any_path : He.DefD := ⟨("_law_any_path", none), "_law_any_path", "_law_any_path", defArgs s_law_any_path, defBody s_law_any_path, defScope s_law_any_path, [], []⟩
def d_law_nearly : He.DefD := ⟨("_law_nearly", none), "_law_nearly", "_law_nearly", defArgs s_law_nearly, defBody s_law_nearly, defScope s_law_nearly, [], []⟩
def d_law_some : He.DefD := ⟨("_law_some", none), "_law_some", "_law_some", defArgs s_law_some, defBody s_law_some, defScope s_law_some, [], []⟩
def d_law_text_of : He.DefD := ⟨("_law_text_of", none), "_law_text_of", "_law_text_of", defArgs s_law_text_of, defBody s_law_text_of, defScope s_law_text_of, [], []⟩
def d_law_read : He.DefD := ⟨("_law_read", none), "_law_read", "_law_read", defArgs s_law_read, defBody s_law_read, defScope s_law_read, [], []⟩
def d_law : He.DefD := ⟨("law", none), "law", "law", defArgs s_law, defBody s_law, defScope s_law, [], []⟩
def fn : List He.DefD := [d_is_name, d_is_whole, d_is_count, d_are_names, d_is_number_kind, d_is_choice_kind, d_is_field, d_are_fields, d_field_kind, d_has_key, d_kinds_within, d_kinds_left, d_made_kind, d_is_sign, d_in_brackets, d_pairs_text, d_kind_text, d_quoted, d_value_text, d_part_text, d_turn_text, d_piece_text, d_path_text, d_change_text, d_run_end, d_quoted_end, d_number_end, d_words_of, d_TextReader_init, d_TextReader_next_is, d_TextReader_due, d_TextReader_taken, d_TextReader_opened, d_TextReader_closed, d_TextReader_ended, d_TextReader_goes_on, d_TextReader_names, d_TextReader_kind_pairs, d_TextReader_name_pairs, d_TextReader_value_pairs, d_TextReader_values, d_TextReader_kind_parts, d_TextReader_kind, d_TextReader_value, d_TextReader_part, d_TextReader_parts, d_TextReader_turn, d_TextReader_piece, d_TextReader_path, d_read_kind, d_read_turn, d_read_piece, d_read_change, d_law_cell_at, d_law_mixed, d_law_own, d_law_digit, d_law_names, d_law_number_kind, d_law_leaf_kind, d_law_record_kind, d_law_rows_kind, d_law_kind, d_law_text, d_law_word, d_law_any_number, d_law_any_value, d_law_any_turn, d_law_any_piece, d_law_any_path, d_law_nearly, d_law_some, d_law_text_of, d_law_read, d_law]
def fa0 : List He.Fa := [.glo "is_name", .glo "is_whole", .glo "is_count", .glo "are_names", .glo "is_number_kind", .glo "is_choice_kind", .glo "is_field", .glo "are_fields", .glo "field_kind", .glo "has_key", .glo "kinds_within", .glo "kinds_left", .glo "made_kind", .glo "is_sign", .glo "in_brackets", .glo "pairs_text", .glo "kind_text", .glo "quoted", .glo "value_text", .glo "part_text", .glo "turn_text", .glo "piece_text", .glo "path_text", .glo "change_text", .glo "run_end", .glo "quoted_end", .glo "number_end", .glo "words_of", .glo "read_kind", .glo "read_turn", .glo "read_piece", .glo "read_change", .glo "_law_cell_at", .glo "_law_mixed", .glo "_law_own"]
def fa1 : List He.Fa := [.glo "_law_digit", .glo "_law_names", .glo "_law_number_kind", .glo "_law_leaf_kind", .glo "_law_record_kind", .glo "_law_rows_kind", .glo "_law_kind", .glo "_law_text", .glo "_law_word", .glo "_law_any_number", .glo "_law_any_value", .glo "_law_any_turn", .glo "_law_any_piece", .glo "_law_any_path", .glo "_law_nearly", .glo "_law_some", .glo "_law_text_of", .glo "_law_read", .glo "law", .free "len", .free "all", .free "isinstance", .free "set", .free "sorted", .free "zip", .free "range", .free "str", .free "int", .free "bool", .free "tuple", .free "sum", .free "min", .free "ord", .str "LETTERS_kinds" "abcdefghijklmnopqrstuvwxyz", .int "LONGEST_NAME" 8]
def fa2 : List He.Fa := [.str "EACH" "each", .int "MOST_NUMBER" 1000000000000000000000000000000, .int "MOST_SIGNS" 60, .int "MOST_WORDS" 8, .int "MOST_ITEMS" 8, .int "MOST_FIELDS" 8, .int "MOST_KINDS" 40, .int "DEEPEST" 5, .glo "TURNS", .glo "PIECES", .str "LETTERS_texts" "abcdefghijklmnopqrstuvwxyz", .str "FIGURES" "0123456789", .str "SIGNS" "()[]{},:;/", .int "LONGEST" 8, .int "MOST_FIGURES" 60, .int "MOST_DEEP" 40, .glo "TextReader", .cls "TextReader", .mkr "TextReader", .noat "TextReader" "words", .noat "TextReader" "at", .noat "TextReader" "deep", .meth "TextReader" "next_is", .meth "TextReader" "due", .meth "TextReader" "taken", .meth "TextReader" "opened", .meth "TextReader" "closed", .meth "TextReader" "ended", .meth "TextReader" "goes_on", .meth "TextReader" "names", .meth "TextReader" "kind_pairs", .meth "TextReader" "name_pairs", .meth "TextReader" "value_pairs", .meth "TextReader" "values", .meth "TextReader" "kind_parts"]
def fa3 : List He.Fa := [.meth "TextReader" "kind", .meth "TextReader" "value", .meth "TextReader" "part", .meth "TextReader" "parts", .meth "TextReader" "turn", .meth "TextReader" "piece", .meth "TextReader" "path"]
def fa : List He.Fa := fa0 ++ fa1 ++ fa2 ++ fa3
def ts : List He.Tab := [(fun K => He.ga K "TURNS", ["bounds", "scale", "shrink", "figures", "number", "cut", "first", "one", "out", "items"]), (fun K => He.ga K "PIECES", ["put", "drop", "name", "sink", "lift", "turn", "split", "join", "part", "whole"])]
abbrev Rr : PySem.W.OpenRow := PySem.W.OpenLaw.row PySem.Challenge.rw_oldhands_k89_whole_one_text_each
def turnsKV : List (Str × He.Dv) := [("bounds", .str "mm"), ("scale", .str "m"), ("shrink", .str "m"), ("figures", .str "m"), ("number", .str "mm"), ("cut", .str "m"), ("first", .str "m"), ("one", .str "m"), ("out", .str ""), ("items", .str "t")]
def piecesKV : List (Str × He.Dv) := [("put", .str "nkv"), ("drop", .str "nv"), ("name", .str "nn"), ("sink", .str "nn"), ("lift", .str "nn"), ("turn", .str "nt"), ("split", .str "nsnn"), ("join", .str "nnsn"), ("part", .str "nmnn"), ("whole", .str "nnmnmm")]
def exB (K : PySem.W.Frag) : Bool := He.valsB K (He.ga K "TURNS") turnsKV && (He.valsB K (He.ga K "PIECES") piecesKV && (!(He.ga K "TURNS" == sysModules) && !(He.ga K "PIECES" == sysModules)))
def loose0 : List PySem.Str := ["HandError", "BadKind", "BadText", "LETTERS_kinds", "LONGEST_NAME", "EACH", "MOST_NUMBER", "MOST_SIGNS", "MOST_WORDS", "MOST_ITEMS", "MOST_FIELDS", "MOST_KINDS", "DEEPEST", "is_name", "is_whole", "is_count", "are_names", "is_number_kind", "is_choice_kind", "is_field", "are_fields", "field_kind", "has_key", "kinds_within", "kinds_left", "made_kind", "is_sign", "TURNS", "PIECES", "in_brackets"]
def loose1 : List PySem.Str := ["pairs_text", "kind_text", "quoted", "value_text", "part_text", "turn_text", "piece_text", "path_text", "change_text", "LETTERS_texts", "FIGURES", "SIGNS", "LONGEST", "MOST_FIGURES", "MOST_DEEP", "run_end", "quoted_end", "number_end", "words_of", "TextReader", "read_kind", "read_turn", "read_piece", "read_change", "_law_cell_at", "_law_mixed", "_law_own", "_law_digit", "_law_names", "_law_number_kind"]
def loose2 : List PySem.Str := ["_law_leaf_kind", "_law_record_kind", "_law_rows_kind", "_law_kind", "_law_text", "_law_word", "_law_any_number", "_law_any_value", "_law_any_turn", "_law_any_piece", "_law_any_path", "_law_nearly", "_law_some", "_law_text_of", "_law_read"]
def loose : List PySem.Str := loose0 ++ loose1 ++ loose2
abbrev lawPlace : Nat := 81

/-- what the head tells of the text -/
structure Txt (w : World) (K : PySem.W.Frag) (mg : Str → Option Value) : Prop where
  ex : ∃ h : Heap, K.In h ∧ h.Ns mainGlobals mg ∧ He.SaysX fa fn ts [] exB w h K
section
variable {w : World} {K : PySem.W.Frag} {mg : Str → Option Value}
theorem Txt.fact (T : Txt w K mg) (i : Nat) {f : He.Fa} (h : fa[i]? = some f := by rfl) : f.ok K = true := by
  obtain ⟨_, _, _, c⟩ := T.ex
  exact c.t.d.fact i h
theorem Txt.free (T : Txt w K mg) (i : Nat) {x : Str} (h : fa[i]? = some (.free x) := by rfl) : mg x = none := by
  obtain ⟨_, X, G, c⟩ := T.ex
  exact He.free_ok X G (c.t.d.fact i h)
theorem Txt.glo (T : Txt w K mg) (i : Nat) {x : Str} (h : fa[i]? = some (.glo x) := by rfl) : mg x = some (.ref (He.ga K x)) := by
  obtain ⟨_, X, G, c⟩ := T.ex
  exact He.glo_ok X G (c.t.d.fact i h)
theorem Txt.int (T : Txt w K mg) (i : Nat) {x : Str} {n : Int} (h : fa[i]? = some (.int x n) := by rfl) : ∃ u, mg x = some u ∧ RelV (.int n) u := by
  obtain ⟨_, X, G, c⟩ := T.ex
  obtain ⟨t, e⟩ := He.int_ok X G (c.t.d.fact i h)
  exact ⟨_, e, t, rfl⟩
theorem Txt.str (T : Txt w K mg) (i : Nat) {x z : Str} (h : fa[i]? = some (.str x z) := by rfl) : ∃ u, mg x = some u ∧ RelV (.str z) u := by
  obtain ⟨_, X, G, c⟩ := T.ex
  obtain ⟨t, e⟩ := He.str_ok X G (c.t.d.fact i h)
  exact ⟨_, e, t, rfl⟩
theorem Txt.ref (T : Txt w K mg) (i : Nat) {x : Str} (h : fa[i]? = some (.glo x) := by rfl) : ∃ u, mg x = some u ∧ RelV (.ref (He.ga K x)) u := ⟨_, T.glo i h, rfl⟩
theorem Txt.def_ (T : Txt w K mg) (j i : Nat) {d : He.DefD} {x : Str} (h : fn[j]? = some d := by rfl) (hg : fa[i]? = some (.glo x) := by rfl) (e : d.at_ = (x, none) := by rfl) :
    ∃ f fd, FunD K d.name d.qual d.params d.body d.scope (d.dvs K) (d.kws K) f fd ∧ mg x = some (.ref f) := by
  obtain ⟨_, X, G, c⟩ := T.ex
  obtain ⟨fd, F⟩ := c.t.d.def_ j h
  rw [e] at F
  exact ⟨_, fd, F, He.glo_ok X G (c.t.d.fact i hg)⟩
abbrev TRc (K : PySem.W.Frag) : Addr := He.ga K "TextReader"
theorem Txt.met_ (T : Txt w K mg) (j i : Nat) {d : He.DefD} {m : Str} (h : fn[j]? = some d := by rfl) (hg : fa[i]? = some (.meth "TextReader" m) := by rfl) (e : d.at_ = (("TextReader" : Str), some m) := by rfl) :
    ∃ f fd, FunD K d.name d.qual d.params d.body d.scope (d.dvs K) (d.kws K) f fd ∧ Cls K (TRc K) ∧ Meth K (TRc K) m f := by
  obtain ⟨_, X, G, c⟩ := T.ex
  obtain ⟨fd, F⟩ := c.t.d.def_ j h
  rw [e] at F
  exact ⟨_, fd, F, He.cls_ok (c.t.d.fact 87), He.meth_ok (c.t.d.fact i hg)⟩
theorem Txt.m_len (T : Txt w K mg) : mg "len" = none := T.free 54
theorem Txt.m_all (T : Txt w K mg) : mg "all" = none := T.free 55
theorem Txt.m_isinstance (T : Txt w K mg) : mg "isinstance" = none := T.free 56
theorem Txt.m_set (T : Txt w K mg) : mg "set" = none := T.free 57
theorem Txt.m_sorted (T : Txt w K mg) : mg "sorted" = none := T.free 58
theorem Txt.m_zip (T : Txt w K mg) : mg "zip" = none := T.free 59
theorem Txt.m_range (T : Txt w K mg) : mg "range" = none := T.free 60
theorem Txt.m_str (T : Txt w K mg) : mg "str" = none := T.free 61
theorem Txt.m_int (T : Txt w K mg) : mg "int" = none := T.free 62
theorem Txt.m_bool (T : Txt w K mg) : mg "bool" = none := T.free 63
theorem Txt.m_tuple (T : Txt w K mg) : mg "tuple" = none := T.free 64
theorem Txt.m_sum (T : Txt w K mg) : mg "sum" = none := T.free 65
theorem Txt.m_min (T : Txt w K mg) : mg "min" = none := T.free 66
theorem Txt.m_ord (T : Txt w K mg) : mg "ord" = none := T.free 67
theorem Txt.g_LETTERS_kinds (T : Txt w K mg) : ∃ u, mg "LETTERS_kinds" = some u ∧ RelV (.str "abcdefghijklmnopqrstuvwxyz") u := T.str 68
theorem Txt.g_LONGEST_NAME (T : Txt w K mg) : ∃ u, mg "LONGEST_NAME" = some u ∧ RelV (.int 8) u := T.int 69
theorem Txt.g_EACH (T : Txt w K mg) : ∃ u, mg "EACH" = some u ∧ RelV (.str "each") u := T.str 70
theorem Txt.g_MOST_NUMBER (T : Txt w K mg) : ∃ u, mg "MOST_NUMBER" = some u ∧ RelV (.int 1000000000000000000000000000000) u := T.int 71
theorem Txt.g_MOST_SIGNS (T : Txt w K mg) : ∃ u, mg "MOST_SIGNS" = some u ∧ RelV (.int 60) u := T.int 72
theorem Txt.g_MOST_WORDS (T : Txt w K mg) : ∃ u, mg "MOST_WORDS" = some u ∧ RelV (.int 8) u := T.int 73
theorem Txt.g_MOST_ITEMS (T : Txt w K mg) : ∃ u, mg "MOST_ITEMS" = some u ∧ RelV (.int 8) u := T.int 74
theorem Txt.g_MOST_FIELDS (T : Txt w K mg) : ∃ u, mg "MOST_FIELDS" = some u ∧ RelV (.int 8) u := T.int 75
theorem Txt.g_MOST_KINDS (T : Txt w K mg) : ∃ u, mg "MOST_KINDS" = some u ∧ RelV (.int 40) u := T.int 76
theorem Txt.g_DEEPEST (T : Txt w K mg) : ∃ u, mg "DEEPEST" = some u ∧ RelV (.int 5) u := T.int 77
theorem Txt.g_TURNS (T : Txt w K mg) : ∃ u, mg "TURNS" = some u ∧ RelV (.ref (He.ga K "TURNS")) u := T.ref 78
theorem Txt.low_TURNS (T : Txt w K mg) : (He.ga K "TURNS" == sysModules) = false := by
  obtain ⟨_, _, _, c⟩ := T.ex
  obtain ⟨_, h2⟩ := He.ba c.more
  obtain ⟨_, h4⟩ := He.ba h2
  obtain ⟨h5, h6⟩ := He.ba h4
  cases q : (He.ga K "TURNS" == sysModules) with
  | false => rfl
  | true =>
    rw [q] at h5
    cases h5
theorem Txt.k_TURNS (T : Txt w K mg) {x z : Str} (h : (x, He.Dv.str z) ∈ turnsKV) : KDct K w (He.ga K "TURNS") x (.str z) := by
  obtain ⟨_, _, _, c⟩ := T.ex
  obtain ⟨es, n, D⟩ := c.t.tab 0 (t := _) rfl
  obtain ⟨h1, h2⟩ := He.ba c.more
  obtain ⟨h3, _⟩ := He.ba h2
  obtain ⟨u, e1, e2⟩ := He.valsB_ok h1 h
  exact ⟨es, n, u, D.at_, D.lit, e1, e2⟩
theorem Txt.g_PIECES (T : Txt w K mg) : ∃ u, mg "PIECES" = some u ∧ RelV (.ref (He.ga K "PIECES")) u := T.ref 79
theorem Txt.low_PIECES (T : Txt w K mg) : (He.ga K "PIECES" == sysModules) = false := by
  obtain ⟨_, _, _, c⟩ := T.ex
  obtain ⟨_, h2⟩ := He.ba c.more
  obtain ⟨_, h4⟩ := He.ba h2
  obtain ⟨h5, h6⟩ := He.ba h4
  cases q : (He.ga K "PIECES" == sysModules) with
  | false => rfl
  | true =>
    rw [q] at h6
    cases h6
theorem Txt.k_PIECES (T : Txt w K mg) {x z : Str} (h : (x, He.Dv.str z) ∈ piecesKV) : KDct K w (He.ga K "PIECES") x (.str z) := by
  obtain ⟨_, _, _, c⟩ := T.ex
  obtain ⟨es, n, D⟩ := c.t.tab 1 (t := _) rfl
  obtain ⟨h1, h2⟩ := He.ba c.more
  obtain ⟨h3, _⟩ := He.ba h2
  obtain ⟨u, e1, e2⟩ := He.valsB_ok h3 h
  exact ⟨es, n, u, D.at_, D.lit, e1, e2⟩
theorem Txt.g_LETTERS_texts (T : Txt w K mg) : ∃ u, mg "LETTERS_texts" = some u ∧ RelV (.str "abcdefghijklmnopqrstuvwxyz") u := T.str 80
theorem Txt.g_FIGURES (T : Txt w K mg) : ∃ u, mg "FIGURES" = some u ∧ RelV (.str "0123456789") u := T.str 81
theorem Txt.g_SIGNS (T : Txt w K mg) : ∃ u, mg "SIGNS" = some u ∧ RelV (.str "()[]{},:;/") u := T.str 82
theorem Txt.g_LONGEST (T : Txt w K mg) : ∃ u, mg "LONGEST" = some u ∧ RelV (.int 8) u := T.int 83
theorem Txt.g_MOST_FIGURES (T : Txt w K mg) : ∃ u, mg "MOST_FIGURES" = some u ∧ RelV (.int 60) u := T.int 84
theorem Txt.g_MOST_DEEP (T : Txt w K mg) : ∃ u, mg "MOST_DEEP" = some u ∧ RelV (.int 40) u := T.int 85
theorem Txt.cl (T : Txt w K mg) : Cls K (TRc K) := He.cls_ok (T.fact 87)
theorem Txt.mkr (T : Txt w K mg) : Mk K (TRc K) (He.ma K (TRc K) "__init__") := He.mkr_ok (T.fact 88)
theorem Txt.tr (T : Txt w K mg) : mg "TextReader" = some (.ref (TRc K)) := T.glo 86
theorem Txt.no_words (T : Txt w K mg) : NoAttr K (TRc K) "words" := He.noat_ok (T.fact 89)
theorem Txt.no_at (T : Txt w K mg) : NoAttr K (TRc K) "at" := He.noat_ok (T.fact 90)
theorem Txt.no_deep (T : Txt w K mg) : NoAttr K (TRc K) "deep" := He.noat_ok (T.fact 91)
theorem tell_is_name (T : Txt w K mg) : Tells K mg "is_name" s_is_name := T.def_ 0 0
theorem bind_is_name : BindH "is_name" "is_name" s_is_name ["text"] := fun _ _ _ _ _ _ us hl => match us, hl with | [_], _ => rfl
theorem tell_is_whole (T : Txt w K mg) : Tells K mg "is_whole" s_is_whole := T.def_ 1 1
theorem bind_is_whole : BindH "is_whole" "is_whole" s_is_whole ["thing"] := fun _ _ _ _ _ _ us hl => match us, hl with | [_], _ => rfl
theorem tell_is_count (T : Txt w K mg) : Tells K mg "is_count" s_is_count := T.def_ 2 2
theorem bind_is_count : BindH "is_count" "is_count" s_is_count ["thing", "most"] := fun _ _ _ _ _ _ us hl => match us, hl with | [_, _], _ => rfl
theorem tell_are_names (T : Txt w K mg) : Tells K mg "are_names" s_are_names := T.def_ 3 3
theorem bind_are_names : BindH "are_names" "are_names" s_are_names ["things"] := fun _ _ _ _ _ _ us hl => match us, hl with | [_], _ => rfl
theorem tell_is_number_kind (T : Txt w K mg) : Tells K mg "is_number_kind" s_is_number_kind := T.def_ 4 4
theorem bind_is_number_kind : BindH "is_number_kind" "is_number_kind" s_is_number_kind ["kind"] := fun _ _ _ _ _ _ us hl => match us, hl with | [_], _ => rfl
theorem tell_is_choice_kind (T : Txt w K mg) : Tells K mg "is_choice_kind" s_is_choice_kind := T.def_ 5 5
theorem bind_is_choice_kind : BindH "is_choice_kind" "is_choice_kind" s_is_choice_kind ["kind"] := fun _ _ _ _ _ _ us hl => match us, hl with | [_], _ => rfl
theorem tell_is_field (T : Txt w K mg) : Tells K mg "is_field" s_is_field := T.def_ 6 6
theorem bind_is_field : BindH "is_field" "is_field" s_is_field ["thing"] := fun _ _ _ _ _ _ us hl => match us, hl with | [_], _ => rfl
theorem tell_are_fields (T : Txt w K mg) : Tells K mg "are_fields" s_are_fields := T.def_ 7 7
theorem bind_are_fields : BindH "are_fields" "are_fields" s_are_fields ["things"] := fun _ _ _ _ _ _ us hl => match us, hl with | [_], _ => rfl
theorem tell_field_kind (T : Txt w K mg) : Tells K mg "field_kind" s_field_kind := T.def_ 8 8
theorem bind_field_kind : BindH "field_kind" "field_kind" s_field_kind ["kind", "name"] := fun _ _ _ _ _ _ us hl => match us, hl with | [_, _], _ => rfl
theorem tell_has_key (T : Txt w K mg) : Tells K mg "has_key" s_has_key := T.def_ 9 9
theorem bind_has_key : BindH "has_key" "has_key" s_has_key ["kind", "key"] := fun _ _ _ _ _ _ us hl => match us, hl with | [_, _], _ => rfl
theorem tell_kinds_within (T : Txt w K mg) : Tells K mg "kinds_within" s_kinds_within := T.def_ 10 10
theorem bind_kinds_within : BindH "kinds_within" "kinds_within" s_kinds_within ["kind"] := fun _ _ _ _ _ _ us hl => match us, hl with | [_], _ => rfl
theorem tell_kinds_left (T : Txt w K mg) : Tells K mg "kinds_left" s_kinds_left := T.def_ 11 11
theorem bind_kinds_left : BindH "kinds_left" "kinds_left" s_kinds_left ["kind", "deep", "left"] := fun _ _ _ _ _ _ us hl => match us, hl with | [_, _, _], _ => rfl
theorem tell_made_kind (T : Txt w K mg) : Tells K mg "made_kind" s_made_kind := T.def_ 12 12
theorem bind_made_kind : BindH "made_kind" "made_kind" s_made_kind ["kind"] := fun _ _ _ _ _ _ us hl => match us, hl with | [_], _ => rfl
theorem tell_is_sign (T : Txt w K mg) : Tells K mg "is_sign" s_is_sign := T.def_ 13 13
theorem bind_is_sign : BindH "is_sign" "is_sign" s_is_sign ["sign"] := fun _ _ _ _ _ _ us hl => match us, hl with | [_], _ => rfl
theorem tell_in_brackets (T : Txt w K mg) : Tells K mg "in_brackets" s_in_brackets := T.def_ 14 14
theorem bind_in_brackets : BindH "in_brackets" "in_brackets" s_in_brackets ["word", "texts"] := fun _ _ _ _ _ _ us hl => match us, hl with | [_, _], _ => rfl
theorem tell_pairs_text (T : Txt w K mg) : Tells K mg "pairs_text" s_pairs_text := T.def_ 15 15
theorem bind_pairs_text : BindH "pairs_text" "pairs_text" s_pairs_text ["pairs"] := fun _ _ _ _ _ _ us hl => match us, hl with | [_], _ => rfl
theorem tell_kind_text (T : Txt w K mg) : Tells K mg "kind_text" s_kind_text := T.def_ 16 16
theorem bind_kind_text : BindH "kind_text" "kind_text" s_kind_text ["kind"] := fun _ _ _ _ _ _ us hl => match us, hl with | [_], _ => rfl
theorem tell_quoted (T : Txt w K mg) : Tells K mg "quoted" s_quoted := T.def_ 17 17
theorem bind_quoted : BindH "quoted" "quoted" s_quoted ["text"] := fun _ _ _ _ _ _ us hl => match us, hl with | [_], _ => rfl
theorem tell_value_text (T : Txt w K mg) : Tells K mg "value_text" s_value_text := T.def_ 18 18
theorem bind_value_text : BindH "value_text" "value_text" s_value_text ["value"] := fun _ _ _ _ _ _ us hl => match us, hl with | [_], _ => rfl
theorem tell_part_text (T : Txt w K mg) : Tells K mg "part_text" s_part_text := T.def_ 19 19
theorem bind_part_text : BindH "part_text" "part_text" s_part_text ["sort", "part"] := fun _ _ _ _ _ _ us hl => match us, hl with | [_, _], _ => rfl
theorem tell_turn_text (T : Txt w K mg) : Tells K mg "turn_text" s_turn_text := T.def_ 20 20
theorem bind_turn_text : BindH "turn_text" "turn_text" s_turn_text ["turn"] := fun _ _ _ _ _ _ us hl => match us, hl with | [_], _ => rfl
theorem tell_piece_text (T : Txt w K mg) : Tells K mg "piece_text" s_piece_text := T.def_ 21 21
theorem bind_piece_text : BindH "piece_text" "piece_text" s_piece_text ["piece"] := fun _ _ _ _ _ _ us hl => match us, hl with | [_], _ => rfl
theorem tell_path_text (T : Txt w K mg) : Tells K mg "path_text" s_path_text := T.def_ 22 22
theorem bind_path_text : BindH "path_text" "path_text" s_path_text ["path"] := fun _ _ _ _ _ _ us hl => match us, hl with | [_], _ => rfl
theorem tell_change_text (T : Txt w K mg) : Tells K mg "change_text" s_change_text := T.def_ 23 23
theorem bind_change_text : BindH "change_text" "change_text" s_change_text ["change"] := fun _ _ _ _ _ _ us hl => match us, hl with | [_], _ => rfl
theorem tell_run_end (T : Txt w K mg) : Tells K mg "run_end" s_run_end := T.def_ 24 24
theorem bind_run_end : BindH "run_end" "run_end" s_run_end ["text", "at", "signs"] := fun _ _ _ _ _ _ us hl => match us, hl with | [_, _, _], _ => rfl
theorem tell_quoted_end (T : Txt w K mg) : Tells K mg "quoted_end" s_quoted_end := T.def_ 25 25
theorem bind_quoted_end : BindH "quoted_end" "quoted_end" s_quoted_end ["text", "at"] := fun _ _ _ _ _ _ us hl => match us, hl with | [_, _], _ => rfl
theorem tell_number_end (T : Txt w K mg) : Tells K mg "number_end" s_number_end := T.def_ 26 26
theorem bind_number_end : BindH "number_end" "number_end" s_number_end ["text", "at"] := fun _ _ _ _ _ _ us hl => match us, hl with | [_, _], _ => rfl
theorem tell_words_of (T : Txt w K mg) : Tells K mg "words_of" s_words_of := T.def_ 27 27
theorem bind_words_of : BindH "words_of" "words_of" s_words_of ["text"] := fun _ _ _ _ _ _ us hl => match us, hl with | [_], _ => rfl
theorem bind_TextReader_init : BindH "__init__" "TextReader.__init__" s_TextReader_init ["self", "text"] := fun _ _ _ _ _ _ us hl => match us, hl with | [_, _], _ => rfl
theorem tell_TextReader_next_is (T : Txt w K mg) : TellsM K (TRc K) "next_is" "TextReader.next_is" s_TextReader_next_is := T.met_ 29 92
theorem bind_TextReader_next_is : BindH "next_is" "TextReader.next_is" s_TextReader_next_is ["self", "sign"] := fun _ _ _ _ _ _ us hl => match us, hl with | [_, _], _ => rfl
theorem tell_TextReader_due (T : Txt w K mg) : TellsM K (TRc K) "due" "TextReader.due" s_TextReader_due := T.met_ 30 93
theorem bind_TextReader_due : BindH "due" "TextReader.due" s_TextReader_due ["self", "sign"] := fun _ _ _ _ _ _ us hl => match us, hl with | [_, _], _ => rfl
theorem tell_TextReader_taken (T : Txt w K mg) : TellsM K (TRc K) "taken" "TextReader.taken" s_TextReader_taken := T.met_ 31 94
theorem bind_TextReader_taken : BindH "taken" "TextReader.taken" s_TextReader_taken ["self", "sort"] := fun _ _ _ _ _ _ us hl => match us, hl with | [_, _], _ => rfl
theorem tell_TextReader_opened (T : Txt w K mg) : TellsM K (TRc K) "opened" "TextReader.opened" s_TextReader_opened := T.met_ 32 95
theorem bind_TextReader_opened : BindH "opened" "TextReader.opened" s_TextReader_opened ["self", "sign"] := fun _ _ _ _ _ _ us hl => match us, hl with | [_, _], _ => rfl
theorem tell_TextReader_closed (T : Txt w K mg) : TellsM K (TRc K) "closed" "TextReader.closed" s_TextReader_closed := T.met_ 33 96
theorem bind_TextReader_closed : BindH "closed" "TextReader.closed" s_TextReader_closed ["self", "sign"] := fun _ _ _ _ _ _ us hl => match us, hl with | [_, _], _ => rfl
theorem tell_TextReader_ended (T : Txt w K mg) : TellsM K (TRc K) "ended" "TextReader.ended" s_TextReader_ended := T.met_ 34 97
theorem bind_TextReader_ended : BindH "ended" "TextReader.ended" s_TextReader_ended ["self", "found"] := fun _ _ _ _ _ _ us hl => match us, hl with | [_, _], _ => rfl
theorem tell_TextReader_goes_on (T : Txt w K mg) : TellsM K (TRc K) "goes_on" "TextReader.goes_on" s_TextReader_goes_on := T.met_ 35 98
theorem bind_TextReader_goes_on : BindH "goes_on" "TextReader.goes_on" s_TextReader_goes_on ["self", "many", "closing"] := fun _ _ _ _ _ _ us hl => match us, hl with | [_, _, _], _ => rfl
theorem tell_TextReader_names (T : Txt w K mg) : TellsM K (TRc K) "names" "TextReader.names" s_TextReader_names := T.met_ 36 99
theorem bind_TextReader_names : BindH "names" "TextReader.names" s_TextReader_names ["self", "closing"] := fun _ _ _ _ _ _ us hl => match us, hl with | [_, _], _ => rfl
theorem tell_TextReader_kind_pairs (T : Txt w K mg) : TellsM K (TRc K) "kind_pairs" "TextReader.kind_pairs" s_TextReader_kind_pairs := T.met_ 37 100
theorem bind_TextReader_kind_pairs : BindH "kind_pairs" "TextReader.kind_pairs" s_TextReader_kind_pairs ["self"] := fun _ _ _ _ _ _ us hl => match us, hl with | [_], _ => rfl
theorem tell_TextReader_name_pairs (T : Txt w K mg) : TellsM K (TRc K) "name_pairs" "TextReader.name_pairs" s_TextReader_name_pairs := T.met_ 38 101
theorem bind_TextReader_name_pairs : BindH "name_pairs" "TextReader.name_pairs" s_TextReader_name_pairs ["self"] := fun _ _ _ _ _ _ us hl => match us, hl with | [_], _ => rfl
theorem tell_TextReader_value_pairs (T : Txt w K mg) : TellsM K (TRc K) "value_pairs" "TextReader.value_pairs" s_TextReader_value_pairs := T.met_ 39 102
theorem bind_TextReader_value_pairs : BindH "value_pairs" "TextReader.value_pairs" s_TextReader_value_pairs ["self"] := fun _ _ _ _ _ _ us hl => match us, hl with | [_], _ => rfl
theorem tell_TextReader_values (T : Txt w K mg) : TellsM K (TRc K) "values" "TextReader.values" s_TextReader_values := T.met_ 40 103
theorem bind_TextReader_values : BindH "values" "TextReader.values" s_TextReader_values ["self", "closing"] := fun _ _ _ _ _ _ us hl => match us, hl with | [_, _], _ => rfl
theorem tell_TextReader_kind_parts (T : Txt w K mg) : TellsM K (TRc K) "kind_parts" "TextReader.kind_parts" s_TextReader_kind_parts := T.met_ 41 104
theorem bind_TextReader_kind_parts : BindH "kind_parts" "TextReader.kind_parts" s_TextReader_kind_parts ["self", "word"] := fun _ _ _ _ _ _ us hl => match us, hl with | [_, _], _ => rfl
theorem tell_TextReader_kind (T : Txt w K mg) : TellsM K (TRc K) "kind" "TextReader.kind" s_TextReader_kind := T.met_ 42 105
theorem bind_TextReader_kind : BindH "kind" "TextReader.kind" s_TextReader_kind ["self"] := fun _ _ _ _ _ _ us hl => match us, hl with | [_], _ => rfl
theorem tell_TextReader_value (T : Txt w K mg) : TellsM K (TRc K) "value" "TextReader.value" s_TextReader_value := T.met_ 43 106
theorem bind_TextReader_value : BindH "value" "TextReader.value" s_TextReader_value ["self"] := fun _ _ _ _ _ _ us hl => match us, hl with | [_], _ => rfl
theorem tell_TextReader_part (T : Txt w K mg) : TellsM K (TRc K) "part" "TextReader.part" s_TextReader_part := T.met_ 44 107
theorem bind_TextReader_part : BindH "part" "TextReader.part" s_TextReader_part ["self", "sort"] := fun _ _ _ _ _ _ us hl => match us, hl with | [_, _], _ => rfl
theorem tell_TextReader_parts (T : Txt w K mg) : TellsM K (TRc K) "parts" "TextReader.parts" s_TextReader_parts := T.met_ 45 108
theorem bind_TextReader_parts : BindH "parts" "TextReader.parts" s_TextReader_parts ["self", "sorts"] := fun _ _ _ _ _ _ us hl => match us, hl with | [_, _], _ => rfl
theorem tell_TextReader_turn (T : Txt w K mg) : TellsM K (TRc K) "turn" "TextReader.turn" s_TextReader_turn := T.met_ 46 109
theorem bind_TextReader_turn : BindH "turn" "TextReader.turn" s_TextReader_turn ["self"] := fun _ _ _ _ _ _ us hl => match us, hl with | [_], _ => rfl
theorem tell_TextReader_piece (T : Txt w K mg) : TellsM K (TRc K) "piece" "TextReader.piece" s_TextReader_piece := T.met_ 47 110
theorem bind_TextReader_piece : BindH "piece" "TextReader.piece" s_TextReader_piece ["self"] := fun _ _ _ _ _ _ us hl => match us, hl with | [_], _ => rfl
theorem tell_TextReader_path (T : Txt w K mg) : TellsM K (TRc K) "path" "TextReader.path" s_TextReader_path := T.met_ 48 111
theorem bind_TextReader_path : BindH "path" "TextReader.path" s_TextReader_path ["self"] := fun _ _ _ _ _ _ us hl => match us, hl with | [_], _ => rfl
theorem tell_read_kind (T : Txt w K mg) : Tells K mg "read_kind" s_read_kind := T.def_ 49 28
theorem bind_read_kind : BindH "read_kind" "read_kind" s_read_kind ["text"] := fun _ _ _ _ _ _ us hl => match us, hl with | [_], _ => rfl
theorem tell_read_turn (T : Txt w K mg) : Tells K mg "read_turn" s_read_turn := T.def_ 50 29
theorem bind_read_turn : BindH "read_turn" "read_turn" s_read_turn ["text"] := fun _ _ _ _ _ _ us hl => match us, hl with | [_], _ => rfl
theorem tell_read_piece (T : Txt w K mg) : Tells K mg "read_piece" s_read_piece := T.def_ 51 30
theorem bind_read_piece : BindH "read_piece" "read_piece" s_read_piece ["text"] := fun _ _ _ _ _ _ us hl => match us, hl with | [_], _ => rfl
theorem tell_read_change (T : Txt w K mg) : Tells K mg "read_change" s_read_change := T.def_ 52 31
theorem bind_read_change : BindH "read_change" "read_change" s_read_change ["text"] := fun _ _ _ _ _ _ us hl => match us, hl with | [_], _ => rfl
theorem tell_law_cell_at (T : Txt w K mg) : Tells K mg "_law_cell_at" s_law_cell_at := T.def_ 53 32
theorem bind_law_cell_at : BindH "_law_cell_at" "_law_cell_at" s_law_cell_at ["script", "k"] := fun _ _ _ _ _ _ us hl => match us, hl with | [_, _], _ => rfl
theorem tell_law_mixed (T : Txt w K mg) : Tells K mg "_law_mixed" s_law_mixed := T.def_ 54 33
theorem bind_law_mixed : BindH "_law_mixed" "_law_mixed" s_law_mixed ["cell", "k"] := fun _ _ _ _ _ _ us hl => match us, hl with | [_, _], _ => rfl
theorem tell_law_own (T : Txt w K mg) : Tells K mg "_law_own" s_law_own := T.def_ 55 34
theorem bind_law_own : BindH "_law_own" "_law_own" s_law_own ["script", "k", "turn"] := fun _ _ _ _ _ _ us hl => match us, hl with | [_, _, _], _ => rfl
theorem tell_law_digit (T : Txt w K mg) : Tells K mg "_law_digit" s_law_digit := T.def_ 56 35
theorem bind_law_digit : BindH "_law_digit" "_law_digit" s_law_digit ["row", "many"] := fun _ _ _ _ _ _ us hl => match us, hl with | [_, _], _ => rfl
theorem tell_law_names (T : Txt w K mg) : Tells K mg "_law_names" s_law_names := T.def_ 57 36
theorem bind_law_names : BindH "_law_names" "_law_names" s_law_names ["row", "many"] := fun _ _ _ _ _ _ us hl => match us, hl with | [_, _], _ => rfl
theorem tell_law_number_kind (T : Txt w K mg) : Tells K mg "_law_number_kind" s_law_number_kind := T.def_ 58 37
theorem bind_law_number_kind : BindH "_law_number_kind" "_law_number_kind" s_law_number_kind ["row"] := fun _ _ _ _ _ _ us hl => match us, hl with | [_], _ => rfl
theorem tell_law_leaf_kind (T : Txt w K mg) : Tells K mg "_law_leaf_kind" s_law_leaf_kind := T.def_ 59 38
theorem bind_law_leaf_kind : BindH "_law_leaf_kind" "_law_leaf_kind" s_law_leaf_kind ["row"] := fun _ _ _ _ _ _ us hl => match us, hl with | [_], _ => rfl
theorem tell_law_record_kind (T : Txt w K mg) : Tells K mg "_law_record_kind" s_law_record_kind := T.def_ 60 39
theorem bind_law_record_kind : BindH "_law_record_kind" "_law_record_kind" s_law_record_kind ["row", "deep", "room"] := fun _ _ _ _ _ _ us hl => match us, hl with | [_, _, _], _ => rfl
theorem tell_law_rows_kind (T : Txt w K mg) : Tells K mg "_law_rows_kind" s_law_rows_kind := T.def_ 61 40
theorem bind_law_rows_kind : BindH "_law_rows_kind" "_law_rows_kind" s_law_rows_kind ["row", "deep", "room"] := fun _ _ _ _ _ _ us hl => match us, hl with | [_, _, _], _ => rfl
theorem tell_law_kind (T : Txt w K mg) : Tells K mg "_law_kind" s_law_kind := T.def_ 62 41
theorem bind_law_kind : BindH "_law_kind" "_law_kind" s_law_kind ["row", "deep", "room"] := fun _ _ _ _ _ _ us hl => match us, hl with | [_, _, _], _ => rfl
theorem tell_law_text (T : Txt w K mg) : Tells K mg "_law_text" s_law_text := T.def_ 63 42
theorem bind_law_text : BindH "_law_text" "_law_text" s_law_text ["row", "most"] := fun _ _ _ _ _ _ us hl => match us, hl with | [_, _], _ => rfl
theorem tell_law_word (T : Txt w K mg) : Tells K mg "_law_word" s_law_word := T.def_ 64 43
theorem bind_law_word : BindH "_law_word" "_law_word" s_law_word ["row"] := fun _ _ _ _ _ _ us hl => match us, hl with | [_], _ => rfl
theorem tell_law_any_number (T : Txt w K mg) : Tells K mg "_law_any_number" s_law_any_number := T.def_ 65 44
theorem bind_law_any_number : BindH "_law_any_number" "_law_any_number" s_law_any_number ["row"] := fun _ _ _ _ _ _ us hl => match us, hl with | [_], _ => rfl
theorem tell_law_any_value (T : Txt w K mg) : Tells K mg "_law_any_value" s_law_any_value := T.def_ 66 45
theorem bind_law_any_value : BindH "_law_any_value" "_law_any_value" s_law_any_value ["row", "deep"] := fun _ _ _ _ _ _ us hl => match us, hl with | [_, _], _ => rfl
theorem tell_law_any_turn (T : Txt w K mg) : Tells K mg "_law_any_turn" s_law_any_turn := T.def_ 67 46
theorem bind_law_any_turn : BindH "_law_any_turn" "_law_any_turn" s_law_any_turn ["row", "deep"] := fun _ _ _ _ _ _ us hl => match us, hl with | [_, _], _ => rfl
theorem tell_law_any_piece (T : Txt w K mg) : Tells K mg "_law_any_piece" s_law_any_piece := T.def_ 68 47
theorem bind_law_any_piece : BindH "_law_any_piece" "_law_any_piece" s_law_any_piece ["row"] := fun _ _ _ _ _ _ us hl => match us, hl with | [_], _ => rfl
theorem tell_law_any_path (T : Txt w K mg) : Tells K mg "_law_any_path" s_law_any_path := T.def_ 69 48
theorem bind_law_any_path : BindH "_law_any_path" "_law_any_path" s_law_any_path ["row"] := fun _ _ _ _ _ _ us hl => match us, hl with | [_], _ => rfl
theorem tell_law_nearly (T : Txt w K mg) : Tells K mg "_law_nearly" s_law_nearly := T.def_ 70 49
theorem bind_law_nearly : BindH "_law_nearly" "_law_nearly" s_law_nearly ["thing", "row"] := fun _ _ _ _ _ _ us hl => match us, hl with | [_, _], _ => rfl
theorem tell_law_some (T : Txt w K mg) : Tells K mg "_law_some" s_law_some := T.def_ 71 50
theorem bind_law_some : BindH "_law_some" "_law_some" s_law_some ["row", "sort"] := fun _ _ _ _ _ _ us hl => match us, hl with | [_, _], _ => rfl
theorem tell_law_text_of (T : Txt w K mg) : Tells K mg "_law_text_of" s_law_text_of := T.def_ 72 51
theorem bind_law_text_of : BindH "_law_text_of" "_law_text_of" s_law_text_of ["sort", "thing"] := fun _ _ _ _ _ _ us hl => match us, hl with | [_, _], _ => rfl
theorem tell_law_read (T : Txt w K mg) : Tells K mg "_law_read" s_law_read := T.def_ 73 52
theorem bind_law_read : BindH "_law_read" "_law_read" s_law_read ["sort", "text"] := fun _ _ _ _ _ _ us hl => match us, hl with | [_, _], _ => rfl
theorem tell_law (T : Txt w K mg) : Tells K mg "law" s_law := T.def_ 74 53
theorem bind_law : BindH "law" "law" s_law ["script"] := fun _ _ _ _ _ _ us hl => match us, hl with | [_], _ => rfl
end
end OH
end

section
set_option Elab.async false
set_option linter.all false
set_option maxRecDepth 100000
set_option maxHeartbeats 0
namespace OH
open PySem PySem.Spec PyProof.Rows L2
abbrev hk : PySem.W.Hook := He.hookX 5 fa fn ts [] exB
def ob (s : PySem.W.SharedT) : He.AlX := He.obsX 5 fa fn ts [] exB (HandSHeadRun.getT s)
theorem ob_eq (s : PySem.W.SharedT) : ob s = hk.obs s.abs := He.obsX_eq (HandSHeadRun.getT_eq s)
theorem run_f (w : World) : HandSHeadRun.RunEq Rr (PySem.W.view Rr.prog [lawPlace]) hk ob 4000 loose (w.withFollow "special-get-raises" false) := fun os => by kernel_rfl
theorem run_t (w : World) : HandSHeadRun.RunEq Rr (PySem.W.view Rr.prog [lawPlace]) hk ob 4000 loose (w.withFollow "special-get-raises" true) := fun os => by kernel_rfl
theorem run (w : World) : HandSHeadRun.RunEq Rr (PySem.W.view Rr.prog [lawPlace]) hk ob 4000 loose w :=
  PySem.W.byRow2 "special-get-raises" (P := fun w => HandSHeadRun.RunEq Rr (PySem.W.view Rr.prog [lawPlace]) hk ob 4000 loose w) run_f run_t w
end OH
end

section
set_option Elab.async false
set_option linter.all false
set_option maxRecDepth 100000
set_option maxHeartbeats 4000000
namespace OH
open PySem PySem.Spec PyProof.Rows L2
section
variable {J : It} {n : Nat} {G : Hp → Prop} {Y : Nat → Hp → V → Hp → Prop}
/-- a comprehension without a test: I says what holds of the items made so far -/
theorem lcS (w : Walk J n G Y) {g : TG} {te : TE} {vs : List Nat} {σ : L2.St} {H1 : Hp} {D : Addr} {Qd : Hp → Prop} (I : Nat → List V → Hp → Prop) (hn : n < sizeLine)
    (h0 : I 0 [] (upd H1 D (.lst []))) (hG : ∀ i acc H, i ≤ n → I i acc H → G H)
    (hs : ∀ (i : Nat) (acc : List V) (x : V) (H H' : Hp) (Q : VK), i < n → acc.length = i → H D = some (.lst acc) → I i acc H → Y i H x H' →
      (∀ y H4, H4 D = some (.lst acc) → I (i + 1) (acc ++ [y]) (upd H4 D (.lst (acc ++ [y]))) → Q y H4) → g x (wipe σ vs) H' fun σ2 H2 => wipe σ2 vs = wipe σ vs ∧ te σ2 H2 Q)
    (hd : ∀ acc H, acc.length = n → H D = some (.lst acc) → I n acc H → Qd H) :
    ∃ W : Nat → Nat → Hp → Prop, (∃ m, W 0 m (upd H1 D (.lst []))) ∧ ∀ i m H, W i m H →
      (J.stop i H ∧ Qd H) ∨ (J.go i H ∧ ∃ Nx : Hp → Prop, (∀ H', Nx H' → ∃ m', m' < m ∧ W (i + 1) m' H') ∧ ∀ x H', J.yld i H x H' → g x (wipe σ vs) H' fun σ2 H2 => wipe σ2 vs = wipe σ vs ∧ tYes σ2 H2 fun b H3 =>
        if b = true then te σ2 H3 fun y H4 => ∃ acc, H4 D = some (.lst acc) ∧ acc.length < sizeLine ∧ Nx (upd H4 D (.lst (acc ++ [y]))) else Nx H3) := by
  refine lc_it w (fun i H => ∃ acc, acc.length = i ∧ H D = some (.lst acc) ∧ I i acc H) ⟨[], rfl, upd_same, h0⟩ (fun i H hi ⟨acc, _, _, h⟩ => hG i acc H hi h) (fun i x H H' hi p y => ?_) (fun H ⟨acc, h1, h2, h3⟩ => hd acc H h1 h2 h3)
  obtain ⟨acc, h1, h2, h3⟩ := p
  exact hs i acc x H H' (fun y H4 => ∃ acc, H4 D = some (.lst acc) ∧ acc.length < sizeLine ∧ ∃ acc', acc'.length = i + 1 ∧ (upd H4 D (.lst (acc ++ [y]))) D = some (.lst acc') ∧ I (i + 1) acc' (upd H4 D (.lst (acc ++ [y])))) hi h1 h2 h3 y
    fun y H4 e1 e2 => ⟨acc, e1, by omega, acc ++ [y], by rw [List.length_append, h1, List.length_singleton], upd_same, e2⟩
/-- .. of elements whose values are known ahead; all else stays -/
theorem lcP (w : Walk J n G Y) {g : TG} {te : TE} {vs : List Nat} {σ : L2.St} {H1 : Hp} {D : Addr} {Qd : Hp → Prop} (f : Nat → V) (nD : H1 D = none) (hn : n < sizeLine) (hG : ∀ H, Same H1 H → G H)
    (hs : ∀ (i : Nat) (x : V) (H H' : Hp) (Q : VK), i < n → Same H1 H → Y i H x H' → (∀ H4, Same H H4 → Q (f i) H4) → g x (wipe σ vs) H' fun σ2 H2 => wipe σ2 vs = wipe σ vs ∧ te σ2 H2 Q)
    (hd : ∀ H, Same H1 H → H D = some (.lst ((List.range n).map f)) → Qd H) :
    ∃ W : Nat → Nat → Hp → Prop, (∃ m, W 0 m (upd H1 D (.lst []))) ∧ ∀ i m H, W i m H →
      (J.stop i H ∧ Qd H) ∨ (J.go i H ∧ ∃ Nx : Hp → Prop, (∀ H', Nx H' → ∃ m', m' < m ∧ W (i + 1) m' H') ∧ ∀ x H', J.yld i H x H' → g x (wipe σ vs) H' fun σ2 H2 => wipe σ2 vs = wipe σ vs ∧ tYes σ2 H2 fun b H3 =>
        if b = true then te σ2 H3 fun y H4 => ∃ acc, H4 D = some (.lst acc) ∧ acc.length < sizeLine ∧ Nx (upd H4 D (.lst (acc ++ [y]))) else Nx H3) := by
  refine lcS w (fun i acc H => acc = (List.range i).map f ∧ Same H1 H) hn ⟨rfl, (Kx.new _ nD).to⟩ (fun i acc H _ h => hG H h.2) (fun i acc x H H' Q hi hl hD h y k => ?_) (fun acc H hl hD h => hd H h.2 (by rw [hD, h.1]))
  refine hs i x H H' Q hi h.2 y fun H4 e4 => k (f i) H4 (e4 D _ hD) ⟨?_, ?_⟩
  · rw [List.range_succ, List.map_append, h.1]
    rfl
  · exact (Kx.mut (Kx.same (h.2.trans e4)) _ nD).to
end
theorem range_map_get {α β : Type} {f : α → β} {g : Nat → β} : ∀ (xs : List α), (∀ i x, xs[i]? = some x → g i = f x) → (List.range xs.length).map g = xs.map f
  | xs, h => by
    apply List.ext_getElem?
    intro i
    rw [List.getElem?_map, List.getElem?_map]
    by_cases hi : i < xs.length
    · rw [List.getElem?_range hi, List.getElem?_eq_getElem hi]
      exact congrArg some (h i _ (List.getElem?_eq_getElem hi))
    · rw [List.getElem?_eq_none (by rw [List.length_range]; omega), List.getElem?_eq_none (by omega)]
      rfl
end OH
end

section
set_option Elab.async false
set_option linter.all false
set_option maxRecDepth 100000
set_option maxHeartbeats 4000000
namespace OH
open PySem PySem.Spec PyProof.Rows L2
/-! ### tokens -/
inductive Tk where
  | w (x : Str) | n (i : Int) | t (x : Str) | s (c : Nat) | sp | e
  deriving DecidableEq
def numI (i : Int) : List Nat := TL.tl (Str.ofString (toString i))
def Tk.cs : Tk → List Nat
  | .w x => TL.tl x
  | .n i => numI i
  | .t x => 34 :: (TL.tl x ++ [34])
  | .s c => [c]
  | .sp => [32]
  | .e => []
def TC (ts : List Tk) : List Nat := ts.flatMap Tk.cs
def T (ts : List Tk) : Str := ⟨(TC ts).toArray⟩
theorem TC_nil : TC [] = [] := rfl
theorem TC_cons (t : Tk) (ts : List Tk) : TC (t :: ts) = t.cs ++ TC ts := rfl
theorem TC_app (a b : List Tk) : TC (a ++ b) = TC a ++ TC b := List.flatMap_append
theorem T_tl (ts : List Tk) : TL.tl (T ts) = TC ts := rfl
theorem T_len (ts : List Tk) : (T ts).length = (TC ts).length := by rw [TL.len_tl, T_tl]
theorem T_app (a b : List Tk) : T a ++ T b = T (a ++ b) := TL.ext_tl (by rw [TL.tl_append, T_tl, T_tl, T_tl, TC_app])
theorem T_w (x : Str) : T [.w x] = x := TL.ext_tl (by rw [T_tl]; exact List.append_nil _)
theorem T_n (i : Int) : T [.n i] = Str.ofString (toString i) := TL.ext_tl (by rw [T_tl]; exact List.append_nil _)
theorem T_s (c : Nat) : T [.s c] = ⟨#[c]⟩ := rfl
theorem T_eq {x : Str} {ts : List Tk} (h : TL.tl x = TC ts) : x = T ts := TL.ext_tl h
/-- the words: without the blanks -/
def st (ts : List Tk) : List Tk := ts.filter (· ≠ .sp)
theorem st_nil : st [] = [] := rfl
theorem st_app (a b : List Tk) : st (a ++ b) = st a ++ st b := List.filter_append ..
theorem st_w (x : Str) (r : List Tk) : st (.w x :: r) = .w x :: st r := rfl
theorem st_n (i : Int) (r : List Tk) : st (.n i :: r) = .n i :: st r := rfl
theorem st_t (x : Str) (r : List Tk) : st (.t x :: r) = .t x :: st r := rfl
theorem st_s (c : Nat) (r : List Tk) : st (.s c :: r) = .s c :: st r := rfl
theorem st_sp (r : List Tk) : st (.sp :: r) = st r := rfl
/-- with commas between -/
def sep : List (List Tk) → List Tk
  | [] => []
  | [p] => p
  | p :: q :: r => p ++ (.s 44 :: .sp :: sep (q :: r))
/-- a word, and parts in brackets behind it -/
def fmt (x : Str) (ps : List (List Tk)) : List Tk := .w x :: .s 40 :: (sep ps ++ [.s 41])
/-- a token as the reader keeps it -/
def tokD : Tk → PyData
  | .w x => .tuple [.str "word", .str x]
  | .n i => .tuple [.str "number", .int i]
  | .t x => .tuple [.str "text", .str x]
  | .s c => .tuple [.str "sign", .str ⟨#[c]⟩]
  | .sp => .tuple []
  | .e => .tuple [.str "end", .str ""]

/-! ### what is written -/
def IsWord (x : Str) : Prop := (1 ≤ x.length ∧ x.length ≤ 8) ∧ ∀ c ∈ TL.tl x, 97 ≤ c ∧ c ≤ 122
instance (x : Str) : Decidable (IsWord x) := by
  unfold IsWord
  exact inferInstance
/-- a name of the document -/
def IsName (x : Str) : Prop := IsWord x ∧ x ≠ "each"
def IsText (x : Str) : Prop := x.length ≤ 20 ∧ ∀ c ∈ TL.tl x, (32 ≤ c ∧ c ≤ 126) ∧ c ≠ 34 ∧ c ≠ 37
def IsNum (i : Int) : Prop := -(10 ^ 60) < i ∧ i < 10 ^ 60
theorem IsWord.text {x : Str} (h : IsWord x) : IsText x := ⟨by have := h.1.2; omega, fun c hc => by have := h.2 c hc; omega⟩
/-- a field of a record kind: its name, how many kinds, its kind, its tokens -/
structure Fld where
  x : Str
  c : Nat
  k : PyData
  ts : List Tk
def nameLt (a b : Str) : Prop := TL.tl a < TL.tl b
def pairD (x : Str) (d : PyData) : PyData := .tuple [.str x, d]
def recD (fs : List Fld) : PyData := .tuple [.str "record", .tuple (fs.map fun f => pairD f.x f.k)]
def recT (fs : List Fld) : List Tk := fmt "record" (fs.map fun f => .w f.x :: .s 58 :: .sp :: f.ts)
def HasKey (key : Str) (k : PyData) : Prop := ∃ (fs : List Fld) (f : Fld) (z : Str) (r : List PyData), k = recD fs ∧ f ∈ fs ∧ f.x = key ∧ f.k = .tuple (.str z :: r) ∧ (z = "number" ∨ z = "text")
/-- a kind of depth n at most, with c kinds in all, and its tokens -/
def KT : Nat → Nat → PyData → List Tk → Prop
  | 0, _, _, _ => False
  | n + 1, c, d, ts =>
    (∃ lo hi : Int, c = 1 ∧ -(10 ^ 30) ≤ lo ∧ lo ≤ hi ∧ hi ≤ 10 ^ 30 ∧ d = .tuple [.str "number", .int lo, .int hi] ∧ ts = fmt "number" [[.n lo], [.n hi]]) ∨
    (∃ m : Int, c = 1 ∧ 0 ≤ m ∧ m ≤ 60 ∧ d = .tuple [.str "text", .int m] ∧ ts = fmt "text" [[.n m]]) ∨
    (∃ ws : List Str, c = 1 ∧ 1 ≤ ws.length ∧ ws.length ≤ 8 ∧ ws.Nodup ∧ (∀ x ∈ ws, IsName x) ∧ d = .tuple [.str "choice", .tuple (ws.map .str)] ∧ ts = fmt "choice" (ws.map fun x => [.w x])) ∨
    (∃ (c' : Nat) (k : PyData) (tk : List Tk) (m : Int), c = c' + 1 ∧ KT n c' k tk ∧ 0 ≤ m ∧ m ≤ 8 ∧ d = .tuple [.str "list", k, .int m] ∧ ts = fmt "list" [[.n m], tk]) ∨
    (∃ fs : List Fld, c = 1 + (fs.map (·.c)).sum ∧ fs.length ≤ 8 ∧ (∀ f ∈ fs, IsName f.x ∧ KT n f.c f.k f.ts) ∧ (fs.map (·.x)).Pairwise nameLt ∧ d = recD fs ∧ ts = recT fs) ∨
    (∃ (key : Str) (c' : Nat) (k : PyData) (tk : List Tk) (m : Int), c = c' + 1 ∧ KT n c' k tk ∧ IsName key ∧ HasKey key k ∧ 0 ≤ m ∧ m ≤ 8 ∧ d = .tuple [.str "rows", .str key, k, .int m] ∧ ts = fmt "rows" [[.w key], [.n m], tk])
/-- a value -/
structure Ent where
  x : Str
  v : PyData
  ts : List Tk
def VT : Nat → PyData → List Tk → Prop
  | 0, d, ts => (∃ i, IsNum i ∧ d = .int i ∧ ts = [.n i]) ∨ (∃ x, IsText x ∧ d = .str x ∧ ts = [.t x])
  | n + 1, d, ts => (∃ i, IsNum i ∧ d = .int i ∧ ts = [.n i]) ∨ (∃ x, IsText x ∧ d = .str x ∧ ts = [.t x]) ∨
    (∃ es : List Ent, es.length ≤ 8 ∧ (∀ e ∈ es, VT n e.v e.ts) ∧ d = .tuple [.str "list", .tuple (es.map (·.v))] ∧ ts = .s 91 :: (sep (es.map (·.ts)) ++ [.s 93])) ∨
    (∃ es : List Ent, es.length ≤ 8 ∧ (∀ e ∈ es, VT n e.v e.ts) ∧ d = .tuple [.str "rows", .tuple (es.map (·.v))] ∧ ts = .s 40 :: (sep (es.map (·.ts)) ++ [.s 41])) ∨
    (∃ es : List Ent, es.length ≤ 8 ∧ (∀ e ∈ es, IsWord e.x ∧ VT n e.v e.ts) ∧ d = .tuple [.str "record", .tuple (es.map fun e => pairD e.x e.v)] ∧ ts = .s 123 :: (sep (es.map fun e => .w e.x :: .s 58 :: .sp :: e.ts) ++ [.s 125]))
/-- a part by its sort: n m k v t s -/
def PR (Tr : PyData → List Tk → Prop) (q : Nat) (d : PyData) (ts : List Tk) : Prop :=
  (q = 110 ∧ ∃ x, IsWord x ∧ d = .str x ∧ ts = [.w x]) ∨ (q = 109 ∧ ∃ i, IsNum i ∧ d = .int i ∧ ts = [.n i]) ∨ (q = 107 ∧ ∃ c, KT 4 c d ts) ∨ (q = 118 ∧ VT 3 d ts) ∨ (q = 116 ∧ Tr d ts) ∨ (q = 115 ∧ ∃ x, IsText x ∧ d = .str x ∧ ts = [.t x])
def Parts (Tr : PyData → List Tk → Prop) : List Nat → List PyData → List (List Tk) → Prop
  | [], [], [] => True
  | q :: qs, d :: ds, t :: ts => PR Tr q d t ∧ Parts Tr qs ds ts
  | _, _, _ => False
/-- the words of turns and of pieces, and the sorts of their parts -/
def turnF : List (Str × Str) := [("bounds", "mm"), ("scale", "m"), ("shrink", "m"), ("figures", "m"), ("number", "mm"), ("cut", "m"), ("first", "m"), ("one", "m"), ("out", ""), ("items", "t")]
def pieceF : List (Str × Str) := [("put", "nkv"), ("drop", "nv"), ("name", "nn"), ("sink", "nn"), ("lift", "nn"), ("turn", "nt"), ("split", "nsnn"), ("join", "nnsn"), ("part", "nmnn"), ("whole", "nnmnmm")]
def Form (F : List (Str × Str)) (Tr : PyData → List Tk → Prop) (d : PyData) (ts : List Tk) : Prop :=
  ∃ (x q : Str) (ds : List PyData) (ps : List (List Tk)), (x, q) ∈ F ∧ Parts Tr (TL.tl q) ds ps ∧ d = .tuple (.str x :: ds) ∧ ts = fmt x ps
structure Two where
  x : Str
  y : Str
def Words (d : PyData) (ts : List Tk) : Prop :=
  ∃ (ws : List Str) (ps : List Two), (1 ≤ ws.length ∧ ws.length ≤ 8) ∧ (1 ≤ ps.length ∧ ps.length ≤ 8) ∧ (∀ x ∈ ws, IsWord x) ∧ (∀ p ∈ ps, IsWord p.x ∧ IsWord p.y) ∧
    d = .tuple [.str "words", .tuple (ws.map .str), .tuple (ps.map fun p => pairD p.x (.str p.y))] ∧
    ts = .w "words" :: .s 40 :: (sep (ws.map fun x => [.w x]) ++ (.s 59 :: .sp :: (sep (ps.map fun p => [.w p.x, .s 58, .sp, .w p.y]) ++ [.s 41])))
def TT : Nat → PyData → List Tk → Prop
  | 0, _, _ => False
  | n + 1, d, ts => Words d ts ∨ Form turnF (TT n) d ts
def PT (d : PyData) (ts : List Tk) : Prop := Form pieceF (TT 4) d ts
def pathT (xs : List Str) : List Tk := if xs = [] then [.s 47] else xs.flatMap fun x => [.s 47, .w x]
def PathT (d : PyData) (ts : List Tk) : Prop := ∃ xs : List Str, xs.length ≤ 8 ∧ (∀ x ∈ xs, IsWord x) ∧ d = .tuple (xs.map .str) ∧ ts = pathT xs
def CT (d : PyData) (ts : List Tk) : Prop := ∃ p t q u, PathT p t ∧ PT q u ∧ d = .tuple [p, q] ∧ ts = t ++ (.sp :: u)
end OH
end

section
set_option Elab.async false
set_option linter.all false
set_option maxRecDepth 100000
set_option maxHeartbeats 4000000
namespace OH
open PySem PySem.Spec PyProof.Rows L2
theorem st_fmt (x : Str) (ps : List (List Tk)) : st (fmt x ps) = .w x :: .s 40 :: (st (sep ps) ++ [.s 41]) := by
  show .w x :: .s 40 :: st (sep ps ++ [.s 41]) = _
  rw [st_app]
  rfl
theorem st_sep2 (p q : List Tk) (r : List (List Tk)) : st (sep (p :: q :: r)) = st p ++ (.s 44 :: st (sep (q :: r))) := by
  show st (p ++ (.s 44 :: .sp :: sep (q :: r))) = _
  rw [st_app]
  rfl
theorem map_two {α β : Type} {f : α → β} {es es' : List α} {γ : Type} {g : α → γ} (h : es.map f = es'.map f) (k : ∀ e ∈ es, ∀ e' ∈ es', f e = f e' → g e = g e') : es.map g = es'.map g := by
  induction es generalizing es' with
  | nil =>
    cases es' with
    | nil => rfl
    | cons a r => cases h
  | cons a r ih =>
    cases es' with
    | nil => cases h
    | cons b r' =>
      have h1 : f a = f b := (List.cons.inj h).1
      have h2 : r.map f = r'.map f := (List.cons.inj h).2
      rw [List.map_cons, List.map_cons, k a (List.mem_cons_self ..) b (List.mem_cons_self ..) h1, ih h2 fun e he e' he' => k e (List.mem_cons_of_mem _ he) e' (List.mem_cons_of_mem _ he')]
theorem pairD_inj {x y : Str} {d e : PyData} (h : pairD x d = pairD y e) : x = y ∧ d = e := by
  unfold pairD at h
  injection h with h
  injection h with h1 h2
  injection h1 with h1
  injection h2 with h2 _
  exact ⟨h1, h2⟩
theorem recD_inj {fs gs : List Fld} (h : recD fs = recD gs) : (fs.map fun f => pairD f.x f.k) = gs.map fun f => pairD f.x f.k := by
  unfold recD at h
  injection h with h
  injection h with _ h
  injection h with h _
  injection h with h
/-! ### a thing has one row of tokens -/
def Fn (R : PyData → List Tk → Prop) : Prop := ∀ d t t', R d t → R d t' → t = t'
theorem KT_fn : ∀ n c c' d t t', KT n c d t → KT n c' d t' → t = t'
  | 0, _, _, _, _, _, h, _ => h.elim
  | n + 1, c, c', d, t, t', h, h' => by
    have ih := KT_fn n
    unfold KT at h h'
    rcases h with ⟨lo, hi, e0, h1, h2, h3, rfl, rfl⟩ | ⟨m, e0, h1, h2, rfl, rfl⟩ | ⟨ws, e0, h1, h2, h3, h4, rfl, rfl⟩ | ⟨c1, k, tk, m, e0, h1, h2, h3, rfl, rfl⟩ | ⟨fs, e0, h1, h2, h3, rfl, rfl⟩ | ⟨key, c1, k, tk, m, e0, h1, h2, h3, h4, h5, rfl, rfl⟩ <;>
    rcases h' with ⟨lo', hi', e0', h1', h2', h3', e, rfl⟩ | ⟨m', e0', h1', h2', e, rfl⟩ | ⟨ws', e0', h1', h2', h3', h4', e, rfl⟩ | ⟨c1', k', tk', m', e0', h1', h2', h3', e, rfl⟩ | ⟨fs', e0', h1', h2', h3', e, rfl⟩ | ⟨key', c1', k', tk', m', e0', h1', h2', h3', h4', h5', e, rfl⟩ <;>
    first
    | (exfalso
       injection e with e
       injection e with e _
       injection e with e
       revert e
       decide +kernel)
    | skip
    · injection e with e
      injection e with _ e
      injection e with e1 e
      injection e with e2 _
      injection e1 with e1
      injection e2 with e2
      rw [e1, e2]
    · injection e with e
      injection e with _ e
      injection e with e1 _
      injection e1 with e1
      rw [e1]
    · injection e with e
      injection e with _ e
      injection e with e1 _
      injection e1 with e1
      rw [map_two (f := PyData.str) (g := fun x => [Tk.w x]) e1 fun a _ b _ q => by
        injection q with q
        rw [q]]
    · injection e with e
      injection e with _ e
      injection e with e1 e
      injection e with e2 _
      injection e2 with e2
      subst e1
      rw [e2, ih _ _ _ _ _ h1 h1']
    · have q := recD_inj e
      unfold recT
      rw [map_two (g := fun f : Fld => Tk.w f.x :: Tk.s 58 :: Tk.sp :: f.ts) q fun a ha b hb q => by
        obtain ⟨q1, q2⟩ := pairD_inj q
        have z := (h2' b hb).2
        rw [← q2] at z
        rw [q1, ih _ _ _ _ _ (h2 a ha).2 z]]
    · injection e with e
      injection e with _ e
      injection e with e1 e
      injection e with e2 e
      injection e with e3 _
      injection e1 with e1
      injection e3 with e3
      subst e2
      rw [e1, e3, ih _ _ _ _ _ h1 h1']
theorem VT_fn : ∀ n, Fn (VT n)
  | 0, d, t, t', h, h' => by
    unfold VT at h h'
    rcases h with ⟨i, h1, rfl, rfl⟩ | ⟨x, h1, rfl, rfl⟩ <;> rcases h' with ⟨i', h1', e, rfl⟩ | ⟨x', h1', e, rfl⟩ <;> cases e <;> rfl
  | n + 1, d, t, t', h, h' => by
    have ih := VT_fn n
    unfold VT at h h'
    rcases h with ⟨i, h1, rfl, rfl⟩ | ⟨x, h1, rfl, rfl⟩ | ⟨es, h1, h2, rfl, rfl⟩ | ⟨es, h1, h2, rfl, rfl⟩ | ⟨es, h1, h2, rfl, rfl⟩ <;>
    rcases h' with ⟨i', h1', e, rfl⟩ | ⟨x', h1', e, rfl⟩ | ⟨es', h1', h2', e, rfl⟩ | ⟨es', h1', h2', e, rfl⟩ | ⟨es', h1', h2', e, rfl⟩ <;>
    first
    | (cases e <;> rfl)
    | (exfalso
       injection e with e
       injection e with e _
       injection e with e
       revert e
       decide +kernel)
    | (injection e with e
       injection e with _ e
       injection e with e1 _
       injection e1 with e1
       first
       | rw [map_two (g := fun e : Ent => e.ts) e1 fun a ha b hb q => (by
          have z := h2' b hb
          rw [← q] at z
          exact ih _ _ _ (h2 a ha) z)]
       | rw [map_two (g := fun e : Ent => Tk.w e.x :: Tk.s 58 :: Tk.sp :: e.ts) e1 fun a ha b hb q => (by
          obtain ⟨q1, q2⟩ := pairD_inj q
          have z := (h2' b hb).2
          rw [← q2] at z
          rw [q1, ih _ _ _ (h2 a ha).2 z])])
theorem PR_fn {Tr : PyData → List Tk → Prop} (hT : Fn Tr) {q : Nat} {d : PyData} {t t' : List Tk} (h : PR Tr q d t) (h' : PR Tr q d t') : t = t' := by
  rcases h with ⟨e, x, _, rfl, rfl⟩ | ⟨e, i, _, rfl, rfl⟩ | ⟨e, c, h⟩ | ⟨e, h⟩ | ⟨e, h⟩ | ⟨e, x, _, rfl, rfl⟩ <;>
  rcases h' with ⟨e', x', _, q, rfl⟩ | ⟨e', i', _, q, rfl⟩ | ⟨e', c', h'⟩ | ⟨e', h'⟩ | ⟨e', h'⟩ | ⟨e', x', _, q, rfl⟩ <;>
  first
  | (exfalso; omega)
  | (cases q <;> rfl)
  | exact KT_fn _ _ _ _ _ _ h h'
  | exact VT_fn _ _ _ _ h h'
  | exact hT _ _ _ h h'
theorem Parts_fn {Tr : PyData → List Tk → Prop} (hT : Fn Tr) : ∀ {q : List Nat} {ds : List PyData} {ps ps' : List (List Tk)}, Parts Tr q ds ps → Parts Tr q ds ps' → ps = ps'
  | [], [], [], [], _, _ => rfl
  | [], [], [], _ :: _, _, h => h.elim
  | [], [], _ :: _, _, h, _ => h.elim
  | [], _ :: _, _, _, h, _ => h.elim
  | _ :: _, [], _, _, h, _ => h.elim
  | _ :: _, _ :: _, [], _, h, _ => h.elim
  | _ :: _, _ :: _, _ :: _, [], _, h => h.elim
  | q :: qs, d :: ds, p :: ps, p' :: ps', ⟨h1, h2⟩, ⟨h1', h2'⟩ => by rw [PR_fn hT h1 h1', Parts_fn hT h2 h2']
def OneF (F : List (Str × Str)) : Prop := ∀ p ∈ F, ∀ p' ∈ F, p.1 = p'.1 → p.2 = p'.2
theorem turnF_one : OneF turnF := by unfold OneF turnF; decide +kernel
theorem pieceF_one : OneF pieceF := by unfold OneF pieceF; decide +kernel
theorem Form_fn {F : List (Str × Str)} (hF : OneF F) {Tr : PyData → List Tk → Prop} (hT : Fn Tr) : Fn (Form F Tr) := by
  rintro d t t' ⟨x, q, ds, ps, hm, hp, rfl, rfl⟩ ⟨x', q', ds', ps', hm', hp', e, rfl⟩
  injection e with e
  injection e with e1 e2
  injection e1 with e1
  subst e1 e2
  have eq := hF _ hm _ hm' rfl
  have eq' : q = q' := eq
  subst eq'
  rw [Parts_fn hT hp hp']
theorem turnF_words : ∀ p ∈ turnF, p.1 ≠ "words" := by unfold turnF; decide +kernel
theorem TT_fn : ∀ n, Fn (TT n)
  | 0, _, _, _, h, _ => h.elim
  | n + 1, d, t, t', h, h' => by
    have ih := TT_fn n
    unfold TT at h h'
    rcases h with h | h
    · rcases h' with h' | h'
      · obtain ⟨ws, ps, _, _, _, _, rfl, rfl⟩ := h
        obtain ⟨ws', ps', _, _, _, _, e, rfl⟩ := h'
        injection e with e
        injection e with _ e
        injection e with e1 e
        injection e with e2 _
        injection e1 with e1
        injection e2 with e2
        rw [map_two (f := PyData.str) (g := fun x => [Tk.w x]) e1 fun a _ b _ q => by
          injection q with q
          rw [q], map_two (g := fun p : Two => [Tk.w p.x, Tk.s 58, Tk.sp, Tk.w p.y]) e2 fun a _ b _ q => by
          obtain ⟨q1, q2⟩ := pairD_inj q
          injection q2 with q2
          rw [q1, q2]]
      · obtain ⟨ws, ps, _, _, _, _, rfl, rfl⟩ := h
        obtain ⟨x, q, ds, ps', hm, _, e, rfl⟩ := h'
        injection e with e
        injection e with e1 _
        injection e1 with e1
        exact absurd e1.symm (turnF_words _ hm)
    · rcases h' with h' | h'
      · obtain ⟨ws, ps, _, _, _, _, rfl, rfl⟩ := h'
        obtain ⟨x, q, ds, ps', hm, _, e, rfl⟩ := h
        injection e with e
        injection e with e1 _
        injection e1 with e1
        exact absurd e1.symm (turnF_words _ hm)
      · exact Form_fn turnF_one ih d t t' h h'
theorem PT_fn : Fn PT := Form_fn pieceF_one (TT_fn 4)
theorem map_str_inj {xs ys : List Str} (h : xs.map PyData.str = ys.map PyData.str) : xs = ys := by
  have z := map_two (f := PyData.str) (g := fun x : Str => x) h fun a _ b _ q => by
    injection q
  simpa using z
theorem CT_fn : Fn CT := by
  rintro d t t' ⟨p, a, q, b, ⟨xs, _, _, rfl, rfl⟩, hp, rfl, rfl⟩ ⟨p', a', q', b', ⟨xs', _, _, rfl, rfl⟩, hp', e, rfl⟩
  injection e with e
  injection e with e1 e
  injection e with e2 _
  injection e1 with e1
  subst e2
  rw [map_str_inj e1, PT_fn _ _ _ hp hp']
end OH
end

section
set_option Elab.async false
set_option linter.all false
set_option maxRecDepth 100000
set_option maxHeartbeats 4000000
namespace OH
open PySem PySem.Spec PyProof.Rows L2
/-! ### good rows of tokens -/
def signs : List Nat := [40, 41, 91, 93, 123, 125, 44, 58, 59, 47]
def Brk : List Tk → Prop
  | [] => True
  | .s _ :: _ => True
  | .sp :: _ => True
  | _ => False
def Gd : List Tk → Prop
  | [] => True
  | .w x :: r => IsWord x ∧ Brk r ∧ Gd r
  | .n i :: r => IsNum i ∧ Brk r ∧ Gd r
  | .t x :: r => IsText x ∧ Gd r
  | .s c :: r => c ∈ signs ∧ Gd r
  | .sp :: r => Gd r
  | .e :: _ => False
def Gx (ts : List Tk) : Prop := ∀ r, Brk r → Gd r → Gd (ts ++ r)
theorem Gx.gd {ts : List Tk} (h : Gx ts) : Gd ts := by
  have z := h [] trivial trivial
  rwa [List.append_nil] at z
theorem gx_nil : Gx [] := fun _ _ h => h
theorem gx_w {x : Str} (h : IsWord x) : Gx [.w x] := fun _ b g => ⟨h, b, g⟩
theorem gx_n {i : Int} (h : IsNum i) : Gx [.n i] := fun _ b g => ⟨h, b, g⟩
theorem gx_t {x : Str} (h : IsText x) : Gx [.t x] := fun _ _ g => ⟨h, g⟩
theorem gx_s {c : Nat} {ts : List Tk} (hc : c ∈ signs) (h : Gx ts) : Gx (.s c :: ts) := fun r b g => ⟨hc, h r b g⟩
theorem gx_sp {ts : List Tk} (h : Gx ts) : Gx (.sp :: ts) := fun r b g => h r b g
theorem gx_ws {x : Str} {c : Nat} {ts : List Tk} (h : IsWord x) (k : Gx (.s c :: ts)) : Gx (.w x :: .s c :: ts) := fun r b g => ⟨h, trivial, k r b g⟩
theorem gx_app {a b : List Tk} (ha : Gx a) (hb : Gx b) (h : ∀ r, Brk r → Brk (b ++ r)) : Gx (a ++ b) := fun r br g => by
  rw [List.append_assoc]
  exact ha _ (h r br) (hb r br g)
theorem gx_apps {a b : List Tk} {c : Nat} (ha : Gx a) (hb : Gx (.s c :: b)) : Gx (a ++ (.s c :: b)) := gx_app ha hb fun _ _ => trivial
theorem gx_appsp {a b : List Tk} (ha : Gx a) (hb : Gx b) : Gx (a ++ (.sp :: b)) := gx_app ha (gx_sp hb) fun _ _ => trivial
theorem mem_signs (c : Nat) (h : signs.contains c = true := by decide) : c ∈ signs := List.contains_iff_mem.mp h
theorem gx_sep : ∀ {ps : List (List Tk)}, (∀ p ∈ ps, Gx p) → Gx (sep ps)
  | [], _ => gx_nil
  | [p], h => h p (List.mem_singleton.mpr rfl)
  | p :: q :: r, h => gx_apps (h p (List.mem_cons_self ..)) (gx_s (mem_signs 44) (gx_sp (gx_sep fun z hz => h z (List.mem_cons_of_mem _ hz))))
theorem gx_end (c : Nat) (h : signs.contains c = true := by decide) : Gx [.s c] := gx_s (mem_signs c h) gx_nil
theorem gx_fmt {x : Str} {ps : List (List Tk)} (hx : IsWord x) (h : ∀ p ∈ ps, Gx p) : Gx (fmt x ps) := gx_ws hx (gx_s (mem_signs 40) (gx_apps (gx_sep h) (gx_end 41)))
theorem num_small {i : Int} (h1 : -(10 ^ 30) ≤ i) (h2 : i ≤ 10 ^ 30) : IsNum i := ⟨Int.lt_of_lt_of_le (by decide) h1, Int.lt_of_le_of_lt h2 (by decide)⟩
theorem num_tiny {i : Int} (h1 : 0 ≤ i) (h2 : i ≤ 60) : IsNum i := num_small (Int.le_trans (by decide) h1) (Int.le_trans h2 (by decide))
theorem all_map {α : Type} {f : α → List Tk} {es : List α} (h : ∀ e ∈ es, Gx (f e)) : ∀ p ∈ es.map f, Gx p := fun p hp => by
  obtain ⟨e, he, rfl⟩ := List.mem_map.mp hp
  exact h e he
theorem all_one {a : List Tk} (h : Gx a) : ∀ p ∈ [a], Gx p := fun p hp => (List.mem_singleton.mp hp) ▸ h
theorem all_two {a b : List Tk} (h : Gx a) (k : Gx b) : ∀ p ∈ [a, b], Gx p := fun p hp => by
  rcases List.mem_cons.mp hp with e | e
  · exact e ▸ h
  · exact all_one k p e
theorem all_three {a b c : List Tk} (h : Gx a) (k : Gx b) (l : Gx c) : ∀ p ∈ [a, b, c], Gx p := fun p hp => by
  rcases List.mem_cons.mp hp with e | e
  · exact e ▸ h
  · exact all_two k l p e
theorem gx_pair {x : Str} {ts : List Tk} (hx : IsWord x) (h : Gx ts) : Gx (.w x :: .s 58 :: .sp :: ts) := gx_ws hx (gx_s (mem_signs 58) (gx_sp h))
theorem KT_gx : ∀ {n c d t}, KT n c d t → Gx t
  | 0, _, _, _, h => h.elim
  | n + 1, c, d, t, h => by
    have ih := fun {c d t} => @KT_gx n c d t
    unfold KT at h
    rcases h with ⟨lo, hi, e0, h1, h2, h3, rfl, rfl⟩ | ⟨m, e0, h1, h2, rfl, rfl⟩ | ⟨ws, e0, h1, h2, h3, h4, rfl, rfl⟩ | ⟨c1, k, tk, m, e0, h1, h2, h3, rfl, rfl⟩ | ⟨fs, e0, h1, h2, h3, rfl, rfl⟩ | ⟨key, c1, k, tk, m, e0, h1, h2, h3, h4, h5, rfl, rfl⟩
    · exact gx_fmt (by decide +kernel) (all_two (gx_n (num_small h1 (Int.le_trans h2 h3))) (gx_n (num_small (Int.le_trans h1 h2) h3)))
    · exact gx_fmt (by decide +kernel) (all_one (gx_n (num_tiny h1 h2)))
    · exact gx_fmt (by decide +kernel) (all_map fun x hx => gx_w (h4 x hx).1)
    · exact gx_fmt (by decide +kernel) (all_two (gx_n (num_tiny h2 (by omega))) (ih h1))
    · exact gx_fmt (by decide +kernel) (all_map fun f hf => gx_pair (h2 f hf).1.1 (ih (h2 f hf).2))
    · exact gx_fmt (by decide +kernel) (all_three (gx_w h2.1) (gx_n (num_tiny h4 (by omega))) (ih h1))
theorem VT_gx : ∀ {n d t}, VT n d t → Gx t
  | 0, d, t, h => by
    unfold VT at h
    rcases h with ⟨i, h1, rfl, rfl⟩ | ⟨x, h1, rfl, rfl⟩
    · exact gx_n h1
    · exact gx_t h1
  | n + 1, d, t, h => by
    have ih := fun {d t} => @VT_gx n d t
    unfold VT at h
    rcases h with ⟨i, h1, rfl, rfl⟩ | ⟨x, h1, rfl, rfl⟩ | ⟨es, h1, h2, rfl, rfl⟩ | ⟨es, h1, h2, rfl, rfl⟩ | ⟨es, h1, h2, rfl, rfl⟩
    · exact gx_n h1
    · exact gx_t h1
    · exact gx_s (mem_signs 91) (gx_apps (gx_sep (all_map fun e he => ih (h2 e he))) (gx_end 93))
    · exact gx_s (mem_signs 40) (gx_apps (gx_sep (all_map fun e he => ih (h2 e he))) (gx_end 41))
    · exact gx_s (mem_signs 123) (gx_apps (gx_sep (all_map fun e he => gx_pair (h2 e he).1 (ih (h2 e he).2))) (gx_end 125))
theorem PR_gx {Tr : PyData → List Tk → Prop} (hT : ∀ {d t}, Tr d t → Gx t) {q : Nat} {d : PyData} {t : List Tk} (h : PR Tr q d t) : Gx t := by
  rcases h with ⟨_, x, h, rfl, rfl⟩ | ⟨_, i, h, rfl, rfl⟩ | ⟨_, c, h⟩ | ⟨_, h⟩ | ⟨_, h⟩ | ⟨_, x, h, rfl, rfl⟩
  · exact gx_w h
  · exact gx_n h
  · exact KT_gx h
  · exact VT_gx h
  · exact hT h
  · exact gx_t h
theorem Parts_gx {Tr : PyData → List Tk → Prop} (hT : ∀ {d t}, Tr d t → Gx t) : ∀ {q : List Nat} {ds : List PyData} {ps : List (List Tk)}, Parts Tr q ds ps → ∀ p ∈ ps, Gx p
  | [], [], [], _ => fun p hp => nomatch hp
  | [], [], _ :: _, h => h.elim
  | [], _ :: _, _, h => h.elim
  | _ :: _, [], _, h => h.elim
  | _ :: _, _ :: _, [], h => h.elim
  | q :: qs, d :: ds, p :: ps, ⟨h1, h2⟩ => fun z hz => by
    rcases List.mem_cons.mp hz with e | e
    · rw [e]
      exact PR_gx hT h1
    · exact Parts_gx hT h2 z e
theorem turnF_word : ∀ p ∈ turnF, IsWord p.1 := by unfold turnF; decide +kernel
theorem pieceF_word : ∀ p ∈ pieceF, IsWord p.1 := by unfold pieceF; decide +kernel
theorem Form_gx {F : List (Str × Str)} (hF : ∀ p ∈ F, IsWord p.1) {Tr : PyData → List Tk → Prop} (hT : ∀ {d t}, Tr d t → Gx t) {d : PyData} {t : List Tk} (h : Form F Tr d t) : Gx t := by
  obtain ⟨x, q, ds, ps, hm, hp, rfl, rfl⟩ := h
  exact gx_fmt (hF _ hm) (Parts_gx hT hp)
theorem TT_gx : ∀ {n d t}, TT n d t → Gx t
  | 0, _, _, h => h.elim
  | n + 1, d, t, h => by
    have ih := fun {d t} => @TT_gx n d t
    unfold TT at h
    rcases h with ⟨ws, ps, _, _, h3, h4, rfl, rfl⟩ | h
    · exact gx_ws (by decide +kernel) (gx_s (mem_signs 40) (gx_apps (gx_sep (all_map fun x hx => gx_w (h3 x hx))) (gx_s (mem_signs 59) (gx_sp (gx_apps (gx_sep (all_map fun p hp => gx_pair (h4 p hp).1 (gx_w (h4 p hp).2))) (gx_end 41))))))
    · exact Form_gx turnF_word ih h
theorem PT_gx {d : PyData} {t : List Tk} (h : PT d t) : Gx t := Form_gx pieceF_word TT_gx h
theorem gx_path : ∀ {xs : List Str}, (∀ x ∈ xs, IsWord x) → Gx (xs.flatMap fun x => [.s 47, .w x])
  | [], _ => gx_nil
  | x :: r, h => by
    show Gx ([.s 47, .w x] ++ r.flatMap fun x => [.s 47, .w x])
    refine gx_app (gx_s (mem_signs 47) (gx_w (h x (List.mem_cons_self ..)))) (gx_path fun z hz => h z (List.mem_cons_of_mem _ hz)) fun q hq => ?_
    cases r with
    | nil => exact hq
    | cons y r => trivial
theorem PathT_gx {d : PyData} {t : List Tk} (h : PathT d t) : Gx t := by
  obtain ⟨xs, _, h, rfl, rfl⟩ := h
  unfold pathT
  split
  · exact gx_end 47
  · exact gx_path h
theorem CT_gx {d : PyData} {t : List Tk} (h : CT d t) : Gx t := by
  obtain ⟨p, a, q, b, h1, h2, rfl, rfl⟩ := h
  exact gx_appsp (PathT_gx h1) (PT_gx h2)

/-! ### the text says the words -/
theorem span_inj {p : Nat → Bool} : ∀ {a b r r' : List Nat}, (∀ c ∈ a, p c = true) → (∀ c ∈ b, p c = true) → (∀ c l, r = c :: l → p c = false) → (∀ c l, r' = c :: l → p c = false) → a ++ r = b ++ r' → a = b ∧ r = r'
  | [], [], _, _, _, _, _, _, e => ⟨rfl, e⟩
  | [], y :: b, r, r', _, hb, hr, _, e => by
    have z := hr y (b ++ r') e
    rw [hb y (List.mem_cons_self ..)] at z
    cases z
  | x :: a, [], r, r', ha, _, _, hr', e => by
    have z := hr' x (a ++ r) e.symm
    rw [ha x (List.mem_cons_self ..)] at z
    cases z
  | x :: a, y :: b, r, r', ha, hb, hr, hr', e => by
    have e1 : x = y := (List.cons.inj e).1
    have e2 : a ++ r = b ++ r' := (List.cons.inj e).2
    obtain ⟨z1, z2⟩ := span_inj (fun c hc => ha c (List.mem_cons_of_mem _ hc)) (fun c hc => hb c (List.mem_cons_of_mem _ hc)) hr hr' e2
    exact ⟨by rw [e1, z1], z2⟩
theorem toStr_neg (m : Nat) : toString (Int.negSucc m) = "-" ++ toString ((m + 1 : Nat) : Int) := rfl
theorem numI_nat (n : Nat) : numI (n : Int) = TL.numL n := TL.tl_num n
theorem ofString_app (a b : String) : TL.tl (Str.ofString (a ++ b)) = TL.tl (Str.ofString a) ++ TL.tl (Str.ofString b) := by
  rw [Str.ofString_eq_toList, Str.ofString_eq_toList, Str.ofString_eq_toList]
  show List.map Char.toNat (a ++ b).toList = List.map Char.toNat a.toList ++ List.map Char.toNat b.toList
  rw [String.toList_append, List.map_append]
theorem numI_neg (m : Nat) : numI (Int.negSucc m) = 45 :: TL.numL (m + 1) := by
  unfold numI
  rw [toStr_neg, ofString_app, TL.tl_num]
  have e : TL.tl (Str.ofString "-") = [45] := by decide +kernel
  rw [e]
  rfl
def figB (c : Nat) : Bool := decide (48 ≤ c ∧ c ≤ 57) || decide (c = 45)
theorem numL_fig {n : Nat} : ∀ c ∈ TL.numL n, 48 ≤ c ∧ c ≤ 57 := fun c hc => TL.numL_digits n c hc
theorem numI_fig (i : Int) : ∀ c ∈ numI i, figB c = true := by
  cases i with
  | ofNat n =>
    intro c hc
    have e : numI (Int.ofNat n) = TL.numL n := numI_nat n
    rw [e] at hc
    have z := numL_fig c hc
    unfold figB
    rw [decide_eq_true z]
    rfl
  | negSucc m =>
    rw [numI_neg]
    intro c hc
    rcases List.mem_cons.mp hc with e | hc
    · rw [e]
      rfl
    · have z := numL_fig c hc
      unfold figB
      rw [decide_eq_true z]
      rfl
theorem numI_ne (i : Int) : numI i ≠ [] := by
  cases i with
  | ofNat n =>
    have e : numI (Int.ofNat n) = TL.numL n := numI_nat n
    rw [e]
    exact TL.numL_ne n
  | negSucc m =>
    rw [numI_neg]
    exact List.cons_ne_nil _ _
theorem numI_inj {i j : Int} (h : numI i = numI j) : i = j := by
  cases i with
  | ofNat n =>
    have e : numI (Int.ofNat n) = TL.numL n := numI_nat n
    cases j with
    | ofNat m =>
      have e' : numI (Int.ofNat m) = TL.numL m := numI_nat m
      rw [e, e'] at h
      rw [TL.numL_inj h]
    | negSucc m =>
      rw [e, numI_neg] at h
      have z := numL_fig (n := n) 45 (by rw [h]; exact List.mem_cons_self ..)
      omega
  | negSucc n =>
    cases j with
    | ofNat m =>
      have e' : numI (Int.ofNat m) = TL.numL m := numI_nat m
      rw [e', numI_neg] at h
      have z := numL_fig (n := m) 45 (by rw [← h]; exact List.mem_cons_self ..)
      omega
    | negSucc m =>
      rw [numI_neg, numI_neg] at h
      have z := TL.numL_inj (List.cons.inj h).2
      rw [show n = m by omega]
def letB (c : Nat) : Bool := decide (97 ≤ c ∧ c ≤ 122)
theorem sign_cases {c : Nat} (h : c ∈ signs) : letB c = false ∧ figB c = false ∧ c ≠ 34 ∧ c ≠ 32 := by
  have z : ∀ c ∈ signs, letB c = false ∧ figB c = false ∧ c ≠ 34 ∧ c ≠ 32 := by unfold signs; decide
  exact z c h
/-- what the first sign of a good row says -/
theorem brk_head {r : List Tk} (hb : Brk r) (hg : Gd r) : ∀ c l, TC r = c :: l → letB c = false ∧ figB c = false := by
  intro c l e
  cases r with
  | nil => cases e
  | cons t r =>
    cases t with
    | w x => exact hb.elim
    | n i => exact hb.elim
    | t x => exact hb.elim
    | e => exact hb.elim
    | s d =>
      have e1 : d = c := (List.cons.inj e).1
      rw [← e1]
      have z := sign_cases hg.1
      exact ⟨z.1, z.2.1⟩
    | sp =>
      have e1 : 32 = c := (List.cons.inj e).1
      rw [← e1]
      exact ⟨rfl, rfl⟩
/-- the kind of a sign -/
def kindC (c : Nat) : Nat := if letB c then 1 else if figB c then 2 else if c = 34 then 3 else if c = 32 then 4 else 0
def kindT : Tk → Nat
  | .w _ => 1
  | .n _ => 2
  | .t _ => 3
  | .sp => 4
  | .s _ => 0
  | .e => 5
theorem head_kind {t : Tk} {r : List Tk} (h : Gd (t :: r)) : ∃ c l, TC (t :: r) = c :: l ∧ kindC c = kindT t := by
  cases t with
  | w x =>
    obtain ⟨⟨⟨h1, h2⟩, h3⟩, _⟩ := h
    have ne : TL.tl x ≠ [] := fun e => by
      rw [TL.len_tl, e] at h1
      exact absurd h1 (by decide)
    obtain ⟨c, l, e⟩ := List.exists_cons_of_ne_nil ne
    refine ⟨c, l ++ TC r, ?_, ?_⟩
    · rw [TC_cons]
      show TL.tl x ++ TC r = _
      rw [e] <;> rfl
    · have z := h3 c (by rw [e]; exact List.mem_cons_self ..)
      unfold kindC letB
      rw [decide_eq_true z]
      rfl
  | n i =>
    obtain ⟨c, l, e⟩ := List.exists_cons_of_ne_nil (numI_ne i)
    refine ⟨c, l ++ TC r, ?_, ?_⟩
    · rw [TC_cons]
      show numI i ++ TC r = _
      rw [e] <;> rfl
    · have z := numI_fig i c (by rw [e]; exact List.mem_cons_self ..)
      have y : letB c = false := by
        unfold figB at z
        rw [Bool.or_eq_true, decide_eq_true_eq, decide_eq_true_eq] at z
        exact decide_eq_false (by omega)
      unfold kindC
      rw [y, z]
      rfl
  | t x => exact ⟨34, _, rfl, rfl⟩
  | sp => exact ⟨32, _, rfl, rfl⟩
  | s c =>
    refine ⟨c, _, rfl, ?_⟩
    obtain ⟨z1, z2, z3, z4⟩ := sign_cases h.1
    unfold kindC
    rw [z1, z2, if_neg Bool.false_ne_true, if_neg Bool.false_ne_true, if_neg z3, if_neg z4]
    rfl
  | e => exact h.elim
theorem words_inj : ∀ (a b : List Tk), Gd a → Gd b → TC a = TC b → st a = st b
  | [], [], _, _, _ => rfl
  | [], t :: r, _, hb, e => by
    obtain ⟨c, l, e1, _⟩ := head_kind hb
    rw [e1] at e
    cases e
  | t :: r, [], ha, _, e => by
    obtain ⟨c, l, e1, _⟩ := head_kind ha
    rw [e1] at e
    cases e
  | t :: r, u :: q, ha, hb, e => by
    have ih := words_inj r q
    obtain ⟨c, l, e1, k1⟩ := head_kind ha
    obtain ⟨c', l', e2, k2⟩ := head_kind hb
    have ec : c = c' := by
      rw [e1, e2] at e
      exact (List.cons.inj e).1
    have ek : kindT t = kindT u := by rw [← k1, ← k2, ec]
    rw [TC_cons, TC_cons] at e
    cases t <;> cases u <;> first | (exfalso; simp only [kindT] at ek; omega) | skip
    · rename_i x y
      obtain ⟨hx, bx, gx⟩ := ha
      obtain ⟨hy, by_, gy⟩ := hb
      obtain ⟨z1, z2⟩ := span_inj (p := letB) (fun c hc => decide_eq_true (hx.2 c hc)) (fun c hc => decide_eq_true (hy.2 c hc)) (fun c l q => (brk_head bx gx c l q).1) (fun c l q => (brk_head by_ gy c l q).1) e
      rw [st_w, st_w, TL.ext_tl z1, ih gx gy z2]
    · rename_i i j
      obtain ⟨hx, bx, gx⟩ := ha
      obtain ⟨hy, by_, gy⟩ := hb
      obtain ⟨z1, z2⟩ := span_inj (p := figB) (numI_fig i) (numI_fig j) (fun c l q => (brk_head bx gx c l q).2) (fun c l q => (brk_head by_ gy c l q).2) e
      rw [st_n, st_n, numI_inj z1, ih gx gy z2]
    · rename_i x y
      obtain ⟨hx, gx⟩ := ha
      obtain ⟨hy, gy⟩ := hb
      have e' : 34 :: ((TL.tl x ++ [34]) ++ TC r) = 34 :: ((TL.tl y ++ [34]) ++ TC q) := e
      have e3 := (List.cons.inj e').2
      rw [List.append_assoc, List.append_assoc] at e3
      obtain ⟨z1, z2⟩ := span_inj (p := fun c => decide (c ≠ 34)) (fun c hc => decide_eq_true (hx.2 c hc).2.1) (fun c hc => decide_eq_true (hy.2 c hc).2.1) (fun c l q => by
        have z : 34 = c := (List.cons.inj q).1
        rw [← z]
        rfl) (fun c l q => by
        have z : 34 = c := (List.cons.inj q).1
        rw [← z]
        rfl) e3
      rw [st_t, st_t, TL.ext_tl z1, ih gx gy (List.cons.inj z2).2]
    · rename_i x y
      have e' : x :: TC r = y :: TC q := e
      rw [st_s, st_s, (List.cons.inj e').1, ih ha.2 hb.2 (List.cons.inj e').2]
    · have e' : 32 :: TC r = 32 :: TC q := e
      rw [st_sp, st_sp, ih ha hb (List.cons.inj e').2]
    · exact ha.elim
theorem T_inj {a b : List Tk} (ha : Gd a) (hb : Gd b) (h : T a = T b) : st a = st b := words_inj a b ha hb (by rw [← T_tl, ← T_tl, h])
end OH
end

section
set_option Elab.async false
set_option linter.all false
set_option maxRecDepth 100000
set_option maxHeartbeats 4000000
namespace OH
open PySem PySem.Spec PyProof.Rows L2
/-! ### how long the texts are -/
def Lb (b : Nat) (ts : List Tk) : Prop := (TC ts).length ≤ b
theorem lb_cons {t : Tk} {ts : List Tk} {a b : Nat} (h : t.cs.length ≤ a) (k : Lb b ts) : Lb (a + b) (t :: ts) := by
  unfold Lb at *
  rw [TC_cons, List.length_append]
  omega
theorem lb_app {s t : List Tk} {a b : Nat} (h : Lb a s) (k : Lb b t) : Lb (a + b) (s ++ t) := by
  unfold Lb at *
  rw [TC_app, List.length_append]
  omega
theorem lb_le {t : List Tk} {a b : Nat} (h : Lb a t) (k : a ≤ b) : Lb b t := Nat.le_trans h k
theorem lb_nil : Lb 0 [] := Nat.le_refl 0
theorem lb_s (c : Nat) : (Tk.s c).cs.length ≤ 1 := Nat.le_refl 1
theorem lb_sp : Tk.sp.cs.length ≤ 1 := Nat.le_refl 1
theorem lb_w {x : Str} (h : IsWord x) : (Tk.w x).cs.length ≤ 8 := by
  show (TL.tl x).length ≤ 8
  rw [← TL.len_tl]
  exact h.1.2
theorem numI_len {i : Int} (h : IsNum i) : (numI i).length ≤ 61 := by
  cases i with
  | ofNat n =>
    have e : numI (Int.ofNat n) = TL.numL n := numI_nat n
    rw [e]
    have z : n < 10 ^ 60 := by
      have z := h.2
      have e2 : ((10 : Int) ^ 60) = ((10 ^ 60 : Nat) : Int) := by decide
      rw [e2] at z
      exact Int.ofNat_lt.mp z
    exact Nat.le_trans (TL.numL_len (by decide) z) (by decide)
  | negSucc m =>
    rw [numI_neg]
    have z : m + 1 < 10 ^ 60 := by
      have z := h.1
      have e2 : ((10 : Int) ^ 60) = ((10 ^ 60 : Nat) : Int) := by decide
      rw [e2] at z
      have e3 : Int.negSucc m = -((m + 1 : Nat) : Int) := rfl
      rw [e3] at z
      omega
    have y := TL.numL_len (k := 60) (by decide) z
    rw [List.length_cons]
    omega
theorem lb_n {i : Int} (h : IsNum i) : (Tk.n i).cs.length ≤ 61 := numI_len h
theorem lb_t {x : Str} (h : IsText x) : (Tk.t x).cs.length ≤ 22 := by
  show (34 :: (TL.tl x ++ [34])).length ≤ 22
  have z := h.1
  rw [TL.len_tl] at z
  rw [List.length_cons, List.length_append, List.length_singleton]
  omega
theorem lb_sep {b : Nat} : ∀ {ps : List (List Tk)}, (∀ p ∈ ps, Lb b p) → Lb (ps.length * (b + 2)) (sep ps)
  | [], _ => lb_le lb_nil (Nat.zero_le _)
  | [p], h => lb_le (h p (List.mem_singleton.mpr rfl)) (by rw [List.length_singleton]; omega)
  | p :: q :: r, h => by
    have ih := lb_sep (b := b) (ps := q :: r) fun z hz => h z (List.mem_cons_of_mem _ hz)
    have z := lb_app (h p (List.mem_cons_self ..)) (lb_cons (lb_s 44) (lb_cons lb_sp ih))
    refine lb_le z ?_
    rw [List.length_cons (a := p), Nat.succ_mul]
    omega
theorem lb_sepn {b n : Nat} {ps : List (List Tk)} (h : ∀ p ∈ ps, Lb b p) (hn : ps.length ≤ n) : Lb (n * (b + 2)) (sep ps) := lb_le (lb_sep h) (Nat.mul_le_mul_right _ hn)
theorem lb_fmt {x : Str} {b n : Nat} {ps : List (List Tk)} (hx : IsWord x) (h : ∀ p ∈ ps, Lb b p) (hn : ps.length ≤ n) : Lb (10 + n * (b + 2)) (fmt x ps) :=
  lb_le (lb_cons (lb_w hx) (lb_cons (lb_s 40) (lb_app (lb_sepn h hn) (lb_cons (lb_s 41) lb_nil)))) (by omega)
theorem lb_map {α : Type} {f : α → List Tk} {es : List α} {b : Nat} (h : ∀ e ∈ es, Lb b (f e)) : ∀ p ∈ es.map f, Lb b p := fun p hp => by
  obtain ⟨e, he, rfl⟩ := List.mem_map.mp hp
  exact h e he
theorem lb_one {b : Nat} {p : List Tk} (h : Lb b p) : ∀ z ∈ [p], Lb b z := fun z hz => (List.mem_singleton.mp hz) ▸ h
theorem lb_cns {b : Nat} {p : List Tk} {ps : List (List Tk)} (h : Lb b p) (k : ∀ z ∈ ps, Lb b z) : ∀ z ∈ p :: ps, Lb b z := fun z hz => by
  rcases List.mem_cons.mp hz with e | e
  · rw [e]
    exact h
  · exact k z e
theorem lb_pair {x : Str} {ts : List Tk} {b : Nat} (hx : IsWord x) (h : Lb b ts) : Lb (b + 10) (.w x :: .s 58 :: .sp :: ts) := lb_le (lb_cons (lb_w hx) (lb_cons (lb_s 58) (lb_cons lb_sp h))) (by omega)
def bK : Nat → Nat
  | 0 => 0
  | n + 1 => 8 * bK n + 600
theorem lb_ns {i : Int} (h : IsNum i) : Lb 61 [.n i] := lb_cons (lb_n h) lb_nil
theorem lb_ws {x : Str} (h : IsWord x) : Lb 8 [.w x] := lb_cons (lb_w h) lb_nil
theorem lb_ts {x : Str} (h : IsText x) : Lb 22 [.t x] := lb_cons (lb_t h) lb_nil
theorem KT_lb : ∀ {n c d t}, KT n c d t → Lb (bK n) t
  | 0, _, _, _, h => h.elim
  | n + 1, c, d, t, h => by
    have ih := fun {c d t} => @KT_lb n c d t
    unfold KT at h
    show Lb (8 * bK n + 600) t
    rcases h with ⟨lo, hi, e0, h1, h2, h3, rfl, rfl⟩ | ⟨m, e0, h1, h2, rfl, rfl⟩ | ⟨ws, e0, h1, h2, h3, h4, rfl, rfl⟩ | ⟨c1, k, tk, m, e0, h1, h2, h3, rfl, rfl⟩ | ⟨fs, e0, h1, h2, h3, rfl, rfl⟩ | ⟨key, c1, k, tk, m, e0, h1, h2, h3, h4, h5, rfl, rfl⟩
    · exact lb_le (lb_fmt (n := 2) (by decide +kernel) (lb_cns (lb_ns (num_small h1 (Int.le_trans h2 h3))) (lb_one (lb_ns (num_small (Int.le_trans h1 h2) h3)))) (Nat.le_refl _)) (by omega)
    · exact lb_le (lb_fmt (n := 1) (by decide +kernel) (lb_one (lb_ns (num_tiny h1 h2))) (Nat.le_refl _)) (by omega)
    · exact lb_le (lb_fmt (n := 8) (by decide +kernel) (lb_map fun x hx => lb_ws (h4 x hx).1) (by rw [List.length_map]; exact h2)) (by omega)
    · exact lb_le (lb_fmt (n := 2) (b := bK n + 61) (by decide +kernel) (lb_cns (lb_le (lb_ns (num_tiny h2 (by omega))) (by omega)) (lb_one (lb_le (ih h1) (by omega)))) (Nat.le_refl _)) (by omega)
    · exact lb_le (lb_fmt (n := 8) (b := bK n + 10) (by decide +kernel) (lb_map fun f hf => lb_pair (h2 f hf).1.1 (ih (h2 f hf).2)) (by rw [List.length_map]; exact h1)) (by omega)
    · exact lb_le (lb_fmt (n := 3) (b := bK n + 61) (by decide +kernel) (lb_cns (lb_le (lb_ws h2.1) (by omega)) (lb_cns (lb_le (lb_ns (num_tiny h4 (by omega))) (by omega)) (lb_one (lb_le (ih h1) (by omega))))) (Nat.le_refl _)) (by omega)
def bV : Nat → Nat
  | 0 => 61
  | n + 1 => 8 * bV n + 200
theorem bV_pos (n : Nat) : 61 ≤ bV n := by
  cases n with
  | zero => exact Nat.le_refl _
  | succ n =>
    show 61 ≤ 8 * bV n + 200
    omega
theorem VT_lb : ∀ {n d t}, VT n d t → Lb (bV n) t
  | 0, d, t, h => by
    unfold VT at h
    rcases h with ⟨i, h1, rfl, rfl⟩ | ⟨x, h1, rfl, rfl⟩
    · exact lb_ns h1
    · exact lb_le (lb_ts h1) (by decide)
  | n + 1, d, t, h => by
    have ih := fun {d t} => @VT_lb n d t
    have p := bV_pos (n + 1)
    unfold VT at h
    rcases h with ⟨i, h1, rfl, rfl⟩ | ⟨x, h1, rfl, rfl⟩ | ⟨es, h1, h2, rfl, rfl⟩ | ⟨es, h1, h2, rfl, rfl⟩ | ⟨es, h1, h2, rfl, rfl⟩
    · exact lb_le (lb_ns h1) p
    · exact lb_le (lb_ts h1) (by omega)
    · show Lb (8 * bV n + 200) _
      exact lb_le (lb_cons (lb_s 91) (lb_app (lb_sepn (n := 8) (lb_map fun e he => ih (h2 e he)) (by rw [List.length_map]; exact h1)) (lb_cons (lb_s 93) lb_nil))) (by omega)
    · show Lb (8 * bV n + 200) _
      exact lb_le (lb_cons (lb_s 40) (lb_app (lb_sepn (n := 8) (lb_map fun e he => ih (h2 e he)) (by rw [List.length_map]; exact h1)) (lb_cons (lb_s 41) lb_nil))) (by omega)
    · show Lb (8 * bV n + 200) _
      exact lb_le (lb_cons (lb_s 123) (lb_app (lb_sepn (n := 8) (lb_map fun e he => lb_pair (h2 e he).1 (ih (h2 e he).2)) (by rw [List.length_map]; exact h1)) (lb_cons (lb_s 125) lb_nil))) (by omega)
theorem Parts_lb {Tr : PyData → List Tk → Prop} {b : Nat} : ∀ {q : List Nat} {ds : List PyData} {ps : List (List Tk)}, (∀ c ∈ q, ∀ d t, PR Tr c d t → Lb b t) → Parts Tr q ds ps → (∀ p ∈ ps, Lb b p) ∧ ps.length = q.length
  | [], [], [], _, _ => ⟨fun p hp => (nomatch hp), rfl⟩
  | [], [], _ :: _, _, h => h.elim
  | [], _ :: _, _, _, h => h.elim
  | _ :: _, [], _, _, h => h.elim
  | _ :: _, _ :: _, [], _, h => h.elim
  | q :: qs, d :: ds, p :: ps, hb, ⟨h1, h2⟩ => by
    obtain ⟨z1, z2⟩ := Parts_lb (fun c hc => hb c (List.mem_cons_of_mem _ hc)) h2
    exact ⟨lb_cns (hb q (List.mem_cons_self ..) _ _ h1) z1, by rw [List.length_cons, List.length_cons, z2]⟩
theorem PR_lb {Tr : PyData → List Tk → Prop} {b : Nat} (hT : ∀ {d t}, Tr d t → Lb b t) {q : Nat} {d : PyData} {t : List Tk} (h : PR Tr q d t) : Lb (bK 4 + bV 3 + b) t := by
  rcases h with ⟨_, x, h, rfl, rfl⟩ | ⟨_, i, h, rfl, rfl⟩ | ⟨_, c, h⟩ | ⟨_, h⟩ | ⟨_, h⟩ | ⟨_, x, h, rfl, rfl⟩
  · exact lb_le (lb_ws h) (Nat.le_trans (by decide : 8 ≤ bK 4) (by omega))
  · exact lb_le (lb_ns h) (Nat.le_trans (by decide : 61 ≤ bK 4) (by omega))
  · exact lb_le (KT_lb h) (by omega)
  · exact lb_le (VT_lb h) (by omega)
  · exact lb_le (hT h) (by omega)
  · exact lb_le (lb_ts h) (Nat.le_trans (by decide : 22 ≤ bK 4) (by omega))
theorem turnF_codes : ∀ p ∈ turnF, (∀ c ∈ TL.tl p.2, c = 109 ∨ c = 116) ∧ (TL.tl p.2).length ≤ 2 := by unfold turnF; decide +kernel
theorem pieceF_codes : ∀ p ∈ pieceF, (TL.tl p.2).length ≤ 6 := by unfold pieceF; decide +kernel
def bT : Nat → Nat
  | 0 => 0
  | n + 1 => 2 * bT n + 400
theorem TT_lb : ∀ {n d t}, TT n d t → Lb (bT n) t
  | 0, _, _, h => h.elim
  | n + 1, d, t, h => by
    have ih := fun {d t} => @TT_lb n d t
    show Lb (2 * bT n + 400) t
    unfold TT at h
    rcases h with ⟨ws, ps, h1, h2, h3, h4, rfl, rfl⟩ | ⟨x, q, ds, ps, hm, hp, rfl, rfl⟩
    · exact lb_le (lb_cons (lb_w (by decide +kernel)) (lb_cons (lb_s 40) (lb_app (lb_sepn (n := 8) (lb_map fun x hx => lb_ws (h3 x hx)) (by rw [List.length_map]; exact h1.2)) (lb_cons (lb_s 59) (lb_cons lb_sp
        (lb_app (lb_sepn (n := 8) (b := 18) (lb_map fun p hp => lb_pair (h4 p hp).1 (lb_ws (h4 p hp).2)) (by rw [List.length_map]; exact h2.2)) (lb_cons (lb_s 41) lb_nil))))))) (by omega)
    · obtain ⟨c1, c2⟩ := turnF_codes _ hm
      obtain ⟨z1, z2⟩ := Parts_lb (b := bT n + 61) (fun c hc d t h => by
        rcases h with ⟨e, x, h, rfl, rfl⟩ | ⟨_, i, h, rfl, rfl⟩ | ⟨e, c, h⟩ | ⟨e, h⟩ | ⟨_, h⟩ | ⟨e, x, h, rfl, rfl⟩
        · have := c1 _ hc
          omega
        · exact lb_le (lb_ns h) (by omega)
        · have := c1 _ hc
          omega
        · have := c1 _ hc
          omega
        · exact lb_le (ih h) (by omega)
        · have := c1 _ hc
          omega) hp
      exact lb_le (lb_fmt (n := 2) (turnF_word _ hm) z1 (by rw [z2]; exact c2)) (by omega)
theorem PT_lb {d : PyData} {t : List Tk} (h : PT d t) : Lb 5000000 t := by
  obtain ⟨x, q, ds, ps, hm, hp, rfl, rfl⟩ := h
  obtain ⟨z1, z2⟩ := Parts_lb (b := bK 4 + bV 3 + bT 4) (fun c hc d t h => PR_lb TT_lb h) hp
  exact lb_le (lb_fmt (n := 6) (pieceF_word _ hm) z1 (by rw [z2]; exact pieceF_codes _ hm)) (by decide)
theorem lb_path : ∀ {xs : List Str}, (∀ x ∈ xs, IsWord x) → Lb (xs.length * 9) (xs.flatMap fun x => [.s 47, .w x])
  | [], _ => lb_nil
  | x :: r, h => by
    have ih := lb_path (xs := r) fun z hz => h z (List.mem_cons_of_mem _ hz)
    exact lb_le (lb_cons (lb_s 47) (lb_cons (lb_w (h x (List.mem_cons_self ..))) ih)) (by rw [List.length_cons]; omega)
theorem PathT_lb {d : PyData} {t : List Tk} (h : PathT d t) : Lb 100 t := by
  obtain ⟨xs, h1, h2, rfl, rfl⟩ := h
  unfold pathT
  split
  · exact lb_le (lb_cons (lb_s 47) lb_nil) (by decide)
  · exact lb_le (lb_path h2) (by omega)
theorem CT_lb {d : PyData} {t : List Tk} (h : CT d t) : Lb 6000000 t := by
  obtain ⟨p, a, q, b, h1, h2, rfl, rfl⟩ := h
  exact lb_le (lb_app (PathT_lb h1) (lb_cons lb_sp (PT_lb h2))) (by decide)
end OH
end

section
set_option Elab.async false
set_option linter.all false
set_option maxRecDepth 100000
set_option maxHeartbeats 4000000
namespace OH
open PySem PySem.Spec PyProof.Rows L2
/-! ### the words say the thing -/
theorem dec_sep {α β : Type} {c : Tk} (hc : c ≠ .s 44) {f : α → List Tk} {g : α → β} : ∀ {es es' : List α} {r r' : List Tk},
    (∀ e, e ∈ es ∨ e ∈ es' → ∃ h l, st (f e) = h :: l ∧ h ≠ c) →
    (∀ e ∈ es, ∀ e' ∈ es', ∀ r r', st (f e) ++ r = st (f e') ++ r' → g e = g e' ∧ r = r') →
    st (sep (es.map f)) ++ c :: r = st (sep (es'.map f)) ++ c :: r' → es.map g = es'.map g ∧ r = r'
  | [], [], r, r', _, _, e => ⟨rfl, (List.cons.inj e).2⟩
  | [], [b], r, r', hs, _, e => by
    obtain ⟨h, l, e1, ne⟩ := hs b (.inr (List.mem_cons_self ..))
    have e' : c :: r = st (f b) ++ c :: r' := e
    rw [e1] at e'
    exact absurd (List.cons.inj e').1.symm ne
  | [], b :: b2 :: q, r, r', hs, _, e => by
    obtain ⟨h, l, e1, ne⟩ := hs b (.inr (List.mem_cons_self ..))
    have e' : c :: r = st (sep (f b :: f b2 :: q.map f)) ++ c :: r' := e
    rw [st_sep2, e1] at e'
    exact absurd (List.cons.inj e').1.symm ne
  | [a], [], r, r', hs, _, e => by
    obtain ⟨h, l, e1, ne⟩ := hs a (.inl (List.mem_cons_self ..))
    have e' : st (f a) ++ c :: r = c :: r' := e
    rw [e1] at e'
    exact absurd (List.cons.inj e').1 ne
  | a :: a2 :: p, [], r, r', hs, _, e => by
    obtain ⟨h, l, e1, ne⟩ := hs a (.inl (List.mem_cons_self ..))
    have e' : st (sep (f a :: f a2 :: p.map f)) ++ c :: r = c :: r' := e
    rw [st_sep2, e1] at e'
    exact absurd (List.cons.inj e').1 ne
  | [a], [b], r, r', _, hd, e => by
    obtain ⟨z1, z2⟩ := hd a (List.mem_cons_self ..) b (List.mem_cons_self ..) (c :: r) (c :: r') e
    exact ⟨by rw [List.map_cons, List.map_cons, z1] <;> rfl, (List.cons.inj z2).2⟩
  | [a], b :: b2 :: q, r, r', _, hd, e => by
    have e' : st (f a) ++ c :: r = st (sep (f b :: f b2 :: q.map f)) ++ c :: r' := e
    rw [st_sep2, List.append_assoc] at e'
    obtain ⟨_, z2⟩ := hd a (List.mem_cons_self ..) b (List.mem_cons_self ..) _ _ e'
    exact absurd (List.cons.inj z2).1 hc
  | a :: a2 :: p, [b], r, r', _, hd, e => by
    have e' : st (sep (f a :: f a2 :: p.map f)) ++ c :: r = st (f b) ++ c :: r' := e
    rw [st_sep2, List.append_assoc] at e'
    obtain ⟨_, z2⟩ := hd a (List.mem_cons_self ..) b (List.mem_cons_self ..) _ _ e'
    exact absurd (List.cons.inj z2).1.symm hc
  | a :: a2 :: p, b :: b2 :: q, r, r', hs, hd, e => by
    have e' : st (sep (f a :: f a2 :: p.map f)) ++ c :: r = st (sep (f b :: f b2 :: q.map f)) ++ c :: r' := e
    rw [st_sep2, st_sep2, List.append_assoc, List.append_assoc] at e'
    obtain ⟨z1, z2⟩ := hd a (List.mem_cons_self ..) b (List.mem_cons_self ..) _ _ e'
    have z3 := (List.cons.inj z2).2
    obtain ⟨y1, y2⟩ := dec_sep hc (es := a2 :: p) (es' := b2 :: q) (fun x hx => hs x (by
      rcases hx with hx | hx
      · exact .inl (List.mem_cons_of_mem _ hx)
      · exact .inr (List.mem_cons_of_mem _ hx))) (fun x hx y hy => hd x (List.mem_cons_of_mem _ hx) y (List.mem_cons_of_mem _ hy)) z3
    exact ⟨by rw [List.map_cons, z1, y1] <;> rfl, y2⟩
theorem fmt_cut {x y : Str} {ps qs : List (List Tk)} {r r' : List Tk} (e : st (fmt x ps) ++ r = st (fmt y qs) ++ r') : x = y ∧ st (sep ps) ++ .s 41 :: r = st (sep qs) ++ .s 41 :: r' := by
  rw [st_fmt, st_fmt] at e
  have e1 := (List.cons.inj e).1
  have e2 := (List.cons.inj (List.cons.inj e).2).2
  refine ⟨Tk.w.inj e1, ?_⟩
  have e3 : (st (sep ps) ++ [.s 41]) ++ r = (st (sep qs) ++ [.s 41]) ++ r' := e2
  rw [List.append_assoc, List.append_assoc] at e3
  exact e3
theorem s_ne {a b : Nat} (h : (a == b) = false := by decide) : Tk.s a ≠ Tk.s b := fun e => by
  rw [Tk.s.inj e, beq_self_eq_true] at h
  cases h
theorem KT_head {n c d t} (h : KT n c d t) : ∃ x l, st t = .w x :: l := by
  cases n with
  | zero => exact h.elim
  | succ n =>
    unfold KT at h
    rcases h with ⟨lo, hi, e0, h1, h2, h3, rfl, rfl⟩ | ⟨m, e0, h1, h2, rfl, rfl⟩ | ⟨ws, e0, h1, h2, h3, h4, rfl, rfl⟩ | ⟨c1, k, tk, m, e0, h1, h2, h3, rfl, rfl⟩ | ⟨fs, e0, h1, h2, h3, rfl, rfl⟩ | ⟨key, c1, k, tk, m, e0, h1, h2, h3, h4, h5, rfl, rfl⟩ <;> exact ⟨_, _, rfl⟩
theorem st_pair (x : Str) (ts : List Tk) : st (.w x :: .s 58 :: .sp :: ts) = .w x :: .s 58 :: st ts := rfl
theorem pair_cut {x y : Str} {t u r r' : List Tk} (e : st (.w x :: .s 58 :: .sp :: t) ++ r = st (.w y :: .s 58 :: .sp :: u) ++ r') : x = y ∧ st t ++ r = st u ++ r' := by
  rw [st_pair, st_pair] at e
  exact ⟨Tk.w.inj (List.cons.inj e).1, (List.cons.inj (List.cons.inj e).2).2⟩
theorem KT_dec : ∀ {n c c' d d' t t' r r'}, KT n c d t → KT n c' d' t' → st t ++ r = st t' ++ r' → d = d' ∧ r = r'
  | 0, _, _, _, _, _, _, _, _, h, _, _ => h.elim
  | n + 1, c, c', d, d', t, t', r, r', h, h', e => by
    have ih := fun {c c' d d' t t' r r'} => @KT_dec n c c' d d' t t' r r'
    unfold KT at h h'
    rcases h with ⟨lo, hi, e0, h1, h2, h3, rfl, rfl⟩ | ⟨m, e0, h1, h2, rfl, rfl⟩ | ⟨ws, e0, h1, h2, h3, h4, rfl, rfl⟩ | ⟨c1, k, tk, m, e0, h1, h2, h3, rfl, rfl⟩ | ⟨fs, e0, h1, h2, h3, rfl, rfl⟩ | ⟨key, c1, k, tk, m, e0, h1, h2, h3, h4, h5, rfl, rfl⟩ <;>
    rcases h' with ⟨lo', hi', e0', h1', h2', h3', rfl, rfl⟩ | ⟨m', e0', h1', h2', rfl, rfl⟩ | ⟨ws', e0', h1', h2', h3', h4', rfl, rfl⟩ | ⟨c1', k', tk', m', e0', h1', h2', h3', rfl, rfl⟩ | ⟨fs', e0', h1', h2', h3', rfl, rfl⟩ | ⟨key', c1', k', tk', m', e0', h1', h2', h3', h4', h5', rfl, rfl⟩ <;>
    obtain ⟨ex, e⟩ := fmt_cut e <;>
    first
    | (exfalso; revert ex; decide +kernel)
    | skip
    · have e' : Tk.n lo :: .s 44 :: .n hi :: .s 41 :: r = Tk.n lo' :: .s 44 :: .n hi' :: .s 41 :: r' := e
      injection e' with a1 e'
      injection e' with _ e'
      injection e' with a2 e'
      injection e' with _ e'
      exact ⟨by rw [Tk.n.inj a1, Tk.n.inj a2], e'⟩
    · have e' : Tk.n m :: .s 41 :: r = Tk.n m' :: .s 41 :: r' := e
      injection e' with a1 e'
      injection e' with _ e'
      exact ⟨by rw [Tk.n.inj a1], e'⟩
    · obtain ⟨z1, z2⟩ := dec_sep (c := .s 41) (f := fun x : Str => [Tk.w x]) s_ne (g := PyData.str) (fun x _ => ⟨_, _, rfl, fun q => nomatch q⟩) (fun x _ y _ r r' q => ⟨by rw [Tk.w.inj (List.cons.inj q).1], (List.cons.inj q).2⟩) e
      exact ⟨by rw [z1], z2⟩
    · have e1 : Tk.n m :: .s 44 :: (st tk ++ .s 41 :: r) = Tk.n m' :: .s 44 :: (st tk' ++ .s 41 :: r') := e
      injection e1 with a1 e1
      injection e1 with _ e1
      obtain ⟨z1, z2⟩ := ih h1 h1' e1
      exact ⟨by rw [Tk.n.inj a1, z1], (List.cons.inj z2).2⟩
    · obtain ⟨z1, z2⟩ := dec_sep (c := .s 41) (f := fun f : Fld => Tk.w f.x :: .s 58 :: .sp :: f.ts) s_ne (g := fun f : Fld => pairD f.x f.k) (fun x _ => ⟨_, _, rfl, fun q => nomatch q⟩) (fun x hx y hy r r' q => by
        obtain ⟨y1, y2⟩ := pair_cut q
        obtain ⟨y3, y4⟩ := ih (h2 x hx).2 (h2' y hy).2 y2
        exact ⟨by rw [y1, y3], y4⟩) e
      exact ⟨by unfold recD; rw [z1], z2⟩
    · have e1 : Tk.w key :: .s 44 :: .n m :: .s 44 :: (st tk ++ .s 41 :: r) = Tk.w key' :: .s 44 :: .n m' :: .s 44 :: (st tk' ++ .s 41 :: r') := e
      injection e1 with a1 e1
      injection e1 with _ e1
      injection e1 with a2 e1
      injection e1 with _ e1
      obtain ⟨z1, z2⟩ := ih h1 h1' e1
      exact ⟨by rw [Tk.w.inj a1, Tk.n.inj a2, z1], (List.cons.inj z2).2⟩
theorem VT_head : ∀ {n d t}, VT n d t → ∃ h l, st t = h :: l ∧ h ≠ .s 93 ∧ h ≠ .s 41 ∧ h ≠ .s 125
  | 0, d, t, h => by
    unfold VT at h
    rcases h with ⟨i, h1, rfl, rfl⟩ | ⟨x, h1, rfl, rfl⟩ <;> exact ⟨_, _, rfl, (fun q => nomatch q), (fun q => nomatch q), (fun q => nomatch q)⟩
  | n + 1, d, t, h => by
    unfold VT at h
    rcases h with ⟨i, h1, rfl, rfl⟩ | ⟨x, h1, rfl, rfl⟩ | ⟨es, h1, h2, rfl, rfl⟩ | ⟨es, h1, h2, rfl, rfl⟩ | ⟨es, h1, h2, rfl, rfl⟩
    · exact ⟨_, _, rfl, (fun q => nomatch q), (fun q => nomatch q), (fun q => nomatch q)⟩
    · exact ⟨_, _, rfl, (fun q => nomatch q), (fun q => nomatch q), (fun q => nomatch q)⟩
    · exact ⟨_, _, rfl, s_ne, s_ne, s_ne⟩
    · exact ⟨_, _, rfl, s_ne, s_ne, s_ne⟩
    · exact ⟨_, _, rfl, s_ne, s_ne, s_ne⟩
theorem br_cut {a c : Nat} {ps qs : List (List Tk)} {r r' : List Tk} (e : st (.s a :: (sep ps ++ [.s c])) ++ r = st (.s a :: (sep qs ++ [.s c])) ++ r') : st (sep ps) ++ .s c :: r = st (sep qs) ++ .s c :: r' := by
  rw [st_s, st_s, st_app, st_app] at e
  have e2 := (List.cons.inj e).2
  have e3 : (st (sep ps) ++ [.s c]) ++ r = (st (sep qs) ++ [.s c]) ++ r' := e2
  rw [List.append_assoc, List.append_assoc] at e3
  exact e3
theorem VT_dec : ∀ {n d d' t t' r r'}, VT n d t → VT n d' t' → st t ++ r = st t' ++ r' → d = d' ∧ r = r'
  | 0, d, d', t, t', r, r', h, h', e => by
    unfold VT at h h'
    rcases h with ⟨i, h1, rfl, rfl⟩ | ⟨x, h1, rfl, rfl⟩ <;> rcases h' with ⟨i', h1', rfl, rfl⟩ | ⟨x', h1', rfl, rfl⟩ <;>
      (have e1 := (List.cons.inj e).1; have e2 := (List.cons.inj e).2; cases e1 <;> exact ⟨rfl, e2⟩)
  | n + 1, d, d', t, t', r, r', h, h', e => by
    have ih := fun {d d' t t' r r'} => @VT_dec n d d' t t' r r'
    unfold VT at h h'
    rcases h with ⟨i, h1, rfl, rfl⟩ | ⟨x, h1, rfl, rfl⟩ | ⟨es, h1, h2, rfl, rfl⟩ | ⟨es, h1, h2, rfl, rfl⟩ | ⟨es, h1, h2, rfl, rfl⟩ <;>
    rcases h' with ⟨i', h1', rfl, rfl⟩ | ⟨x', h1', rfl, rfl⟩ | ⟨es', h1', h2', rfl, rfl⟩ | ⟨es', h1', h2', rfl, rfl⟩ | ⟨es', h1', h2', rfl, rfl⟩ <;>
    first
    | (exfalso; have q := (List.cons.inj e).1; (cases q; done))
    | (exfalso; exact absurd (List.cons.inj e).1 s_ne)
    | (have e1 := (List.cons.inj e).1; have e2 := (List.cons.inj e).2; cases e1; exact ⟨rfl, e2⟩)
    | skip
    · obtain ⟨z1, z2⟩ := dec_sep s_ne (g := fun e : Ent => e.v) (fun x hx => by
        obtain ⟨h, l, q1, q2, q3, q4⟩ := hx.elim (fun hx => VT_head (h2 x hx)) (fun hx => VT_head (h2' x hx))
        exact ⟨h, l, q1, q2⟩) (fun x hx y hy r r' q => ih (h2 x hx) (h2' y hy) q) (br_cut e)
      exact ⟨by rw [z1], z2⟩
    · obtain ⟨z1, z2⟩ := dec_sep s_ne (g := fun e : Ent => e.v) (fun x hx => by
        obtain ⟨h, l, q1, q2, q3, q4⟩ := hx.elim (fun hx => VT_head (h2 x hx)) (fun hx => VT_head (h2' x hx))
        exact ⟨h, l, q1, q3⟩) (fun x hx y hy r r' q => ih (h2 x hx) (h2' y hy) q) (br_cut e)
      exact ⟨by rw [z1], z2⟩
    · obtain ⟨z1, z2⟩ := dec_sep (c := .s 125) (f := fun e : Ent => Tk.w e.x :: .s 58 :: .sp :: e.ts) s_ne (g := fun e : Ent => pairD e.x e.v) (fun x _ => ⟨_, _, rfl, fun q => nomatch q⟩) (fun x hx y hy r r' q => by
        obtain ⟨y1, y2⟩ := pair_cut q
        obtain ⟨y3, y4⟩ := ih (h2 x hx).2 (h2' y hy).2 y2
        exact ⟨by rw [y1, y3], y4⟩) (br_cut e)
      exact ⟨by rw [z1], z2⟩
def Dec (R : PyData → List Tk → Prop) : Prop := ∀ {d d' t t' r r'}, R d t → R d' t' → st t ++ r = st t' ++ r' → d = d' ∧ r = r'
theorem PR_dec {Tr : PyData → List Tk → Prop} (hT : Dec Tr) {q : Nat} : Dec (PR Tr q) := by
  intro d d' t t' r r' h h' e
  rcases h with ⟨a, x, _, rfl, rfl⟩ | ⟨a, i, _, rfl, rfl⟩ | ⟨a, c, h⟩ | ⟨a, h⟩ | ⟨a, h⟩ | ⟨a, x, _, rfl, rfl⟩ <;>
  rcases h' with ⟨a', x', _, rfl, rfl⟩ | ⟨a', i', _, rfl, rfl⟩ | ⟨a', c', h'⟩ | ⟨a', h'⟩ | ⟨a', h'⟩ | ⟨a', x', _, rfl, rfl⟩ <;>
  first
  | (exfalso; omega)
  | (have e1 := (List.cons.inj e).1; have e2 := (List.cons.inj e).2; cases e1; exact ⟨rfl, e2⟩)
  | exact KT_dec h h' e
  | exact VT_dec h h' e
  | exact hT h h' e
theorem Parts_nil {Tr : PyData → List Tk → Prop} {ds : List PyData} {ps : List (List Tk)} (h : Parts Tr [] ds ps) : ds = [] ∧ ps = [] := by
  cases ds with
  | nil =>
    cases ps with
    | nil => exact ⟨rfl, rfl⟩
    | cons _ _ => exact False.elim h
  | cons _ _ => exact False.elim (by unfold Parts at h; exact h)
theorem Parts_cons {Tr : PyData → List Tk → Prop} {q : Nat} {qs : List Nat} {ds : List PyData} {ps : List (List Tk)} (h : Parts Tr (q :: qs) ds ps) : ∃ d ds' p ps', ds = d :: ds' ∧ ps = p :: ps' ∧ PR Tr q d p ∧ Parts Tr qs ds' ps' := by
  cases ds with
  | nil => exact False.elim (by unfold Parts at h; exact h)
  | cons d ds =>
    cases ps with
    | nil => exact False.elim (by unfold Parts at h; exact h)
    | cons p ps => exact ⟨d, ds, p, ps, rfl, rfl, h.1, h.2⟩
theorem Parts_dec {Tr : PyData → List Tk → Prop} (hT : Dec Tr) : ∀ {q : List Nat} {ds ds' : List PyData} {ps ps' : List (List Tk)} {r r' : List Tk}, Parts Tr q ds ps → Parts Tr q ds' ps' → st (sep ps) ++ r = st (sep ps') ++ r' → ds = ds' ∧ r = r'
  | [], ds, ds', ps, ps', r, r', h, h', e => by
    obtain ⟨rfl, rfl⟩ := Parts_nil h
    obtain ⟨rfl, rfl⟩ := Parts_nil h'
    exact ⟨rfl, e⟩
  | [q], ds, ds', ps, ps', r, r', h, h', e => by
    obtain ⟨d, ds1, p, ps1, rfl, rfl, h1, h2⟩ := Parts_cons h
    obtain ⟨d', ds1', p', ps1', rfl, rfl, h1', h2'⟩ := Parts_cons h'
    obtain ⟨rfl, rfl⟩ := Parts_nil h2
    obtain ⟨rfl, rfl⟩ := Parts_nil h2'
    obtain ⟨z1, z2⟩ := PR_dec hT h1 h1' e
    exact ⟨by rw [z1], z2⟩
  | q :: q2 :: qs, ds, ds', ps, ps', r, r', h, h', e => by
    obtain ⟨d, ds1, p, ps1, rfl, rfl, h1, h2⟩ := Parts_cons h
    obtain ⟨d', ds1', p', ps1', rfl, rfl, h1', h2'⟩ := Parts_cons h'
    obtain ⟨d2, ds2, p2, ps2, rfl, rfl, h3, h4⟩ := Parts_cons h2
    obtain ⟨d2', ds2', p2', ps2', rfl, rfl, h3', h4'⟩ := Parts_cons h2'
    rw [st_sep2, st_sep2, List.append_assoc, List.append_assoc] at e
    obtain ⟨z1, z2⟩ := PR_dec hT h1 h1' e
    obtain ⟨z3, z4⟩ := Parts_dec hT h2 h2' (List.cons.inj z2).2
    exact ⟨by rw [z1, z3], z4⟩
theorem Form_dec {F : List (Str × Str)} (hF : OneF F) {Tr : PyData → List Tk → Prop} (hT : Dec Tr) : Dec (Form F Tr) := by
  rintro d d' t t' r r' ⟨x, q, ds, ps, hm, hp, rfl, rfl⟩ ⟨x', q', ds', ps', hm', hp', rfl, rfl⟩ e
  obtain ⟨e1, e2⟩ := fmt_cut e
  subst e1
  have eq : q = q' := hF _ hm _ hm' rfl
  subst eq
  obtain ⟨z1, z2⟩ := Parts_dec hT hp hp' e2
  exact ⟨by rw [z1], (List.cons.inj z2).2⟩
theorem TT_dec : ∀ n, Dec (TT n)
  | 0, _, _, _, _, _, _, h, _, _ => h.elim
  | n + 1, d, d', t, t', r, r', h, h', e => by
    have ih := fun {d d' t t' r r'} => @TT_dec n d d' t t' r r'
    unfold TT at h h'
    rcases h with h | h
    · rcases h' with h' | h'
      · obtain ⟨ws, ps, _, _, _, _, rfl, rfl⟩ := h
        obtain ⟨ws', ps', _, _, _, _, rfl, rfl⟩ := h'
        have e1 := (List.cons.inj (List.cons.inj e).2).2
        have e2 : st (sep (ws.map fun x => [Tk.w x]) ++ (.s 59 :: .sp :: (sep (ps.map fun p => [.w p.x, .s 58, .sp, .w p.y]) ++ [.s 41]))) ++ r = st (sep (ws'.map fun x => [Tk.w x]) ++ (.s 59 :: .sp :: (sep (ps'.map fun p => [.w p.x, .s 58, .sp, .w p.y]) ++ [.s 41]))) ++ r' := e1
        rw [st_app, st_app, List.append_assoc, List.append_assoc] at e2
        obtain ⟨z1, z2⟩ := dec_sep (c := .s 59) (f := fun x : Str => [Tk.w x]) s_ne (g := PyData.str) (fun x _ => ⟨_, _, rfl, fun q => nomatch q⟩) (fun x _ y _ r r' q => ⟨by rw [Tk.w.inj (List.cons.inj q).1], (List.cons.inj q).2⟩) e2
        have e3 : st (sep (ps.map fun p => [Tk.w p.x, .s 58, .sp, .w p.y]) ++ [.s 41]) ++ r = st (sep (ps'.map fun p => [Tk.w p.x, .s 58, .sp, .w p.y]) ++ [.s 41]) ++ r' := z2
        rw [st_app, st_app, List.append_assoc, List.append_assoc] at e3
        obtain ⟨y1, y2⟩ := dec_sep (c := .s 41) (f := fun p : Two => [Tk.w p.x, .s 58, .sp, .w p.y]) s_ne (g := fun p : Two => pairD p.x (.str p.y)) (fun x _ => ⟨_, _, rfl, fun q => nomatch q⟩) (fun x _ y _ r r' q => by
          have q' : Tk.w x.x :: .s 58 :: .w x.y :: r = Tk.w y.x :: .s 58 :: .w y.y :: r' := q
          injection q' with a1 q'
          injection q' with _ q'
          injection q' with a2 q'
          exact ⟨by rw [Tk.w.inj a1, Tk.w.inj a2], q'⟩) e3
        exact ⟨by rw [z1, y1], y2⟩
      · obtain ⟨ws, ps, _, _, _, _, rfl, rfl⟩ := h
        obtain ⟨x, q, ds, ps', hm, _, rfl, rfl⟩ := h'
        exact absurd (Tk.w.inj (List.cons.inj e).1).symm (turnF_words _ hm)
    · rcases h' with h' | h'
      · obtain ⟨ws, ps, _, _, _, _, rfl, rfl⟩ := h'
        obtain ⟨x, q, ds, ps', hm, _, rfl, rfl⟩ := h
        exact absurd (Tk.w.inj (List.cons.inj e).1) (turnF_words _ hm)
      · exact Form_dec turnF_one ih h h' e
theorem PT_dec : Dec PT := Form_dec pieceF_one (TT_dec 4)
theorem PT_head {d : PyData} {t : List Tk} (h : PT d t) : ∃ x l, st t = .w x :: .s 40 :: l := by
  obtain ⟨x, q, ds, ps, _, _, rfl, rfl⟩ := h
  exact ⟨_, _, rfl⟩
theorem path_dec : ∀ {xs ys : List Str} {p q : Str} {a b : List Tk}, (st (xs.flatMap fun x => [.s 47, .w x]) ++ .w p :: .s 40 :: a = st (ys.flatMap fun x => [.s 47, .w x]) ++ .w q :: .s 40 :: b) → xs = ys ∧ Tk.w p :: .s 40 :: a = .w q :: .s 40 :: b
  | [], [], _, _, _, _, e => ⟨rfl, e⟩
  | [], y :: ys, _, _, _, _, e => nomatch (List.cons.inj e).1
  | x :: xs, [], _, _, _, _, e => nomatch (List.cons.inj e).1
  | x :: xs, y :: ys, p, q, a, b, e => by
    have e' : Tk.s 47 :: .w x :: (st (xs.flatMap fun x => [.s 47, .w x]) ++ .w p :: .s 40 :: a) = .s 47 :: .w y :: (st (ys.flatMap fun x => [.s 47, .w x]) ++ .w q :: .s 40 :: b) := e
    injection e' with _ e'
    injection e' with a1 e'
    obtain ⟨z1, z2⟩ := path_dec e'
    exact ⟨by rw [Tk.w.inj a1, z1], z2⟩
theorem CT_dec : Dec CT := by
  rintro d d' t t' r r' ⟨p, a, q, b, ⟨xs, _, _, rfl, rfl⟩, hp, rfl, rfl⟩ ⟨p', a', q', b', ⟨xs', _, _, rfl, rfl⟩, hp', rfl, rfl⟩ e
  rw [st_app, st_app, st_sp, st_sp] at e
  obtain ⟨w1, l1, f1⟩ := PT_head hp
  obtain ⟨w2, l2, f2⟩ := PT_head hp'
  have key : xs = xs' ∧ st b ++ r = st b' ++ r' := by
    unfold pathT at e
    rw [f1, f2] at e ⊢
    cases xs with
    | nil =>
      cases xs' with
      | nil =>
        rw [if_pos rfl] at e
        exact ⟨rfl, (List.cons.inj e).2⟩
      | cons y ys =>
        rw [if_pos rfl, if_neg (List.cons_ne_nil _ _)] at e
        have e' : Tk.s 47 :: .w w1 :: .s 40 :: (l1 ++ r) = .s 47 :: .w y :: ((st (ys.flatMap fun x => [.s 47, .w x]) ++ .w w2 :: .s 40 :: l2) ++ r') := e
        injection e' with _ e'
        injection e' with _ e'
        cases ys with
        | nil => exact nomatch (List.cons.inj e').1
        | cons z zs => exact absurd (List.cons.inj e').1 s_ne
    | cons x xs =>
      cases xs' with
      | nil =>
        rw [if_pos rfl, if_neg (List.cons_ne_nil _ _)] at e
        have e' : Tk.s 47 :: .w x :: ((st (xs.flatMap fun x => [.s 47, .w x]) ++ .w w1 :: .s 40 :: l1) ++ r) = .s 47 :: .w w2 :: .s 40 :: (l2 ++ r') := e
        injection e' with _ e'
        injection e' with _ e'
        cases xs with
        | nil => exact nomatch (List.cons.inj e').1
        | cons z zs => exact absurd (List.cons.inj e').1 s_ne
      | cons y ys =>
        rw [if_neg (List.cons_ne_nil _ _), if_neg (List.cons_ne_nil _ _), List.append_assoc, List.append_assoc] at e
        obtain ⟨z1, z2⟩ := path_dec (a := l1 ++ r) (b := l2 ++ r') e
        exact ⟨z1, z2⟩
  obtain ⟨z1, z2⟩ := PT_dec hp hp' key.2
  exact ⟨by rw [key.1, z1], z2⟩
/-! ### the law's arithmetic: two texts are the same just where the things are -/
theorem same_iff {R : PyData → List Tk → Prop} (hf : Fn R) (hg : ∀ {d t}, R d t → Gx t) (hd : Dec R) {d d' : PyData} {t t' : List Tk} (h : R d t) (h' : R d' t') : T t = T t' ↔ d = d' := by
  constructor
  · intro e
    have z := T_inj (hg h).gd (hg h').gd e
    exact (hd h h' (r := []) (r' := []) (by rw [z])).1
  · intro e
    subst e
    rw [hf _ _ _ h h']
def KT4 (d : PyData) (t : List Tk) : Prop := ∃ c, c ≤ 40 ∧ KT 4 c d t
theorem KT4_fn : Fn KT4 := fun d t t' ⟨_, _, h⟩ ⟨_, _, h'⟩ => KT_fn _ _ _ _ _ _ h h'
theorem KT4_dec : Dec KT4 := fun ⟨_, _, h⟩ ⟨_, _, h'⟩ e => KT_dec h h' e
theorem KT4_gx {d : PyData} {t : List Tk} (h : KT4 d t) : Gx t := by
  obtain ⟨_, _, h⟩ := h
  exact KT_gx h
end OH
end

section
set_option Elab.async false
set_option linter.all false
set_option maxRecDepth 100000
set_option maxHeartbeats 4000000
set_option autoImplicit false
namespace OH
open PySem PySem.Spec PyProof.Rows L2
/-! ### data that may be compared -/
inductive Nc : Nat → PyData → Prop
  | int {n : Nat} (i : Int) : Nc n (.int i)
  | str {n : Nat} {x : Str} : PyData.strOk x = true → Nc n (.str x)
  | tup {n : Nat} {ds : List PyData} : (∀ d, d ∈ ds → Nc n d) → Nc (n + 1) (.tuple ds)
theorem canLayAll_of : ∀ {ds : List PyData}, (∀ d ∈ ds, PyData.canLay0 d = true) → PyData.canLayAll0 ds = true
  | [], _ => rfl
  | d :: ds, h => by
    unfold PyData.canLayAll0
    rw [h d (List.mem_cons_self ..), canLayAll_of fun e he => h e (List.mem_cons_of_mem _ he)]
    rfl
theorem depthAll_of {n : Nat} : ∀ {ds : List PyData}, (∀ d ∈ ds, PyData.depth d ≤ n) → PyData.depthAll ds ≤ n
  | [], _ => Nat.zero_le _
  | d :: ds, h => by
    have h1 := h d (List.mem_cons_self ..)
    have h2 := depthAll_of (ds := ds) fun e he => h e (List.mem_cons_of_mem _ he)
    unfold PyData.depthAll
    exact Nat.max_le.mpr ⟨h1, h2⟩
theorem Nc.lay {n : Nat} {d : PyData} (h : Nc n d) : PyData.canLay0 d = true := by
  induction h with
  | int i => simp [PyData.canLay0]
  | str h =>
    unfold PyData.canLay0
    exact h
  | tup h ih =>
    unfold PyData.canLay0
    exact canLayAll_of ih
theorem Nc.depth {n : Nat} {d : PyData} (h : Nc n d) : PyData.depth d ≤ n := by
  induction h with
  | int i => simp [PyData.depth]
  | str h => simp [PyData.depth]
  | tup h ih =>
    unfold PyData.depth
    exact Nat.succ_le_succ (depthAll_of ih)
theorem Nc.shaped {n : Nat} {d : PyData} (h : Nc n d) (hn : n ≤ 64) : SeqAt.shaped d = true := by
  show (d.canLay0 && decide (d.depth ≤ 64)) = true
  rw [h.lay, decide_eq_true (Nat.le_trans h.depth hn)]
  rfl
theorem Nc.mono {n m : Nat} {d : PyData} (h : Nc n d) (e : n ≤ m) : Nc m d := by
  induction h generalizing m with
  | int i => exact .int i
  | str h => exact .str h
  | tup h ih =>
    cases m with
    | zero => omega
    | succ m => exact .tup fun d hd => ih d hd (by omega)
theorem eqvAll_iff : ∀ {ds es : List PyData}, (∀ d ∈ ds, ∀ e, (∃ m, Nc m e) → (PyData.eqv d e = true ↔ d = e)) → (∀ e ∈ es, ∃ m, Nc m e) → (PyData.eqvAll ds es = true ↔ ds = es)
  | [], [], _, _ => by simp [PyData.eqvAll]
  | [], _ :: _, _, _ => by simp [PyData.eqvAll]
  | _ :: _, [], _, _ => by simp [PyData.eqvAll]
  | d :: ds, e :: es, h, k => by
    have h1 := h d (List.mem_cons_self ..) e (k e (List.mem_cons_self ..))
    have h2 := eqvAll_iff (ds := ds) (es := es) (fun z hz => h z (List.mem_cons_of_mem _ hz)) fun z hz => k z (List.mem_cons_of_mem _ hz)
    unfold PyData.eqvAll
    rw [Bool.and_eq_true, h1, h2, List.cons.injEq]
theorem Nc.iff {n : Nat} {d : PyData} (h : Nc n d) : ∀ e, (∃ m, Nc m e) → (PyData.eqv d e = true ↔ d = e) := by
  induction h with
  | int i =>
    rintro e ⟨m, h⟩
    cases h <;> simp [PyData.eqv]
  | str h =>
    rintro e ⟨m, h⟩
    cases h <;> simp [PyData.eqv]
  | tup h ih =>
    rintro e ⟨m, k⟩
    cases k with
    | int i => simp [PyData.eqv]
    | str x => simp [PyData.eqv]
    | tup k =>
      unfold PyData.eqv
      rw [eqvAll_iff ih fun z hz => ⟨_, k z hz⟩]
      constructor
      · intro z
        rw [z]
      · intro z
        injection z
theorem Nc.eqv {n m : Nat} {d e : PyData} (h : Nc n d) (k : Nc m e) {b : Bool} (hb : b = true ↔ d = e) : PyData.eqv d e = b := by
  have z := h.iff e ⟨m, k⟩
  cases b with
  | true => exact z.mpr (hb.mp rfl)
  | false =>
    cases q : PyData.eqv d e with
    | false => rfl
    | true => exact absurd (hb.mpr (z.mp q)) Bool.false_ne_true
theorem strOk_of {x : Str} (h : ∀ c ∈ TL.tl x, c < 200) : PyData.strOk x = true := by
  unfold PyData.strOk
  rw [← Array.all_toList, List.all_eq_true]
  intro c hc
  exact decide_eq_true (Nat.lt_trans (h c hc) (by decide))
theorem IsWord.ok {x : Str} (h : IsWord x) : PyData.strOk x = true := strOk_of fun c hc => by
  have := h.2 c hc
  omega
theorem IsText.ok {x : Str} (h : IsText x) : PyData.strOk x = true := strOk_of fun c hc => by
  have := h.2 c hc
  omega
theorem nc_two {n : Nat} {a b : PyData} (ha : Nc n a) (hb : Nc n b) : Nc (n + 1) (.tuple [a, b]) := .tup fun d hd => by
  rcases List.mem_cons.mp hd with rfl | hd
  · exact ha
  · exact (List.mem_singleton.mp hd) ▸ hb
theorem nc_three {n : Nat} {a b c : PyData} (ha : Nc n a) (hb : Nc n b) (hc : Nc n c) : Nc (n + 1) (.tuple [a, b, c]) := .tup fun d hd => by
  rcases List.mem_cons.mp hd with rfl | hd
  · exact ha
  · rcases List.mem_cons.mp hd with rfl | hd
    · exact hb
    · exact (List.mem_singleton.mp hd) ▸ hc
theorem nc_cons {n : Nat} {a : PyData} {ds : List PyData} (ha : Nc n a) (h : ∀ d ∈ ds, Nc n d) : Nc (n + 1) (.tuple (a :: ds)) := .tup fun d hd => by
  rcases List.mem_cons.mp hd with rfl | hd
  · exact ha
  · exact h d hd
theorem nc_map {α : Type} {n : Nat} {f : α → PyData} {es : List α} (h : ∀ e ∈ es, Nc n (f e)) : Nc (n + 1) (.tuple (es.map f)) := .tup fun d hd => by
  obtain ⟨e, he, rfl⟩ := List.mem_map.mp hd
  exact h e he
theorem nc_pair {n : Nat} {x : Str} {d : PyData} (hx : IsWord x) (h : Nc n d) : Nc (n + 1) (pairD x d) := nc_two (.str hx.ok) h
theorem nc_lit {n : Nat} {x : Str} (h : PyData.strOk x = true := by decide +kernel) : Nc n (.str x) := .str h
theorem KT_nc : ∀ {n c d t}, KT n c d t → Nc (3 * n) d
  | 0, _, _, _, h => h.elim
  | n + 1, c, d, t, h => by
    have ih := fun {c d t} => @KT_nc n c d t
    show Nc (3 * n + 3) d
    unfold KT at h
    rcases h with ⟨lo, hi, e0, h1, h2, h3, rfl, rfl⟩ | ⟨m, e0, h1, h2, rfl, rfl⟩ | ⟨ws, e0, h1, h2, h3, h4, rfl, rfl⟩ | ⟨c1, k, tk, m, e0, h1, h2, h3, rfl, rfl⟩ | ⟨fs, e0, h1, h2, h3, rfl, rfl⟩ | ⟨key, c1, k, tk, m, e0, h1, h2, h3, h4, h5, rfl, rfl⟩
    · exact nc_three nc_lit (.int _) (.int _)
    · exact nc_two nc_lit (.int _)
    · exact nc_two nc_lit (nc_map fun x hx => .str (h4 x hx).1.ok)
    · exact nc_three nc_lit ((ih h1).mono (by omega)) (.int _)
    · exact nc_two nc_lit (nc_map fun f hf => nc_pair (h2 f hf).1.1 (ih (h2 f hf).2))
    · exact nc_cons nc_lit fun d hd => by
        rcases List.mem_cons.mp hd with rfl | hd
        · exact .str h2.1.ok
        · rcases List.mem_cons.mp hd with rfl | hd
          · exact (ih h1).mono (by omega)
          · exact (List.mem_singleton.mp hd) ▸ .int _
theorem VT_nc : ∀ {n d t}, VT n d t → Nc (3 * n) d
  | 0, d, t, h => by
    unfold VT at h
    rcases h with ⟨i, h1, rfl, rfl⟩ | ⟨x, h1, rfl, rfl⟩
    · exact .int _
    · exact .str h1.ok
  | n + 1, d, t, h => by
    have ih := fun {d t} => @VT_nc n d t
    show Nc (3 * n + 3) d
    unfold VT at h
    rcases h with ⟨i, h1, rfl, rfl⟩ | ⟨x, h1, rfl, rfl⟩ | ⟨es, h1, h2, rfl, rfl⟩ | ⟨es, h1, h2, rfl, rfl⟩ | ⟨es, h1, h2, rfl, rfl⟩
    · exact .int _
    · exact .str h1.ok
    · exact nc_two nc_lit (nc_map fun e he => (ih (h2 e he)).mono (by omega))
    · exact nc_two nc_lit (nc_map fun e he => (ih (h2 e he)).mono (by omega))
    · exact nc_two nc_lit (nc_map fun e he => nc_pair (h2 e he).1 (ih (h2 e he).2))
theorem Parts_nc {Tr : PyData → List Tk → Prop} {b : Nat} (hb : 12 ≤ b) (hT : ∀ {d t}, Tr d t → Nc b d) : ∀ {q : List Nat} {ds : List PyData} {ps : List (List Tk)}, Parts Tr q ds ps → ∀ d ∈ ds, Nc b d
  | [], ds, ps, h => by
    obtain ⟨rfl, rfl⟩ := Parts_nil h
    intro d hd
    cases hd
  | q :: qs, ds, ps, h => by
    obtain ⟨d, ds', p, ps', rfl, rfl, h1, h2⟩ := Parts_cons h
    intro z hz
    rcases List.mem_cons.mp hz with rfl | hz
    · rcases h1 with ⟨_, x, hx, rfl, rfl⟩ | ⟨_, i, _, rfl, rfl⟩ | ⟨_, c, hx⟩ | ⟨_, hx⟩ | ⟨_, hx⟩ | ⟨_, x, hx, rfl, rfl⟩
      · exact .str hx.ok
      · exact .int _
      · exact (KT_nc hx).mono hb
      · exact (VT_nc hx).mono (by omega)
      · exact hT hx
      · exact .str hx.ok
    · exact Parts_nc hb hT h2 z hz
theorem turnF_ok : ∀ p ∈ turnF, PyData.strOk p.1 = true := fun p hp => (turnF_word p hp).ok
theorem pieceF_ok : ∀ p ∈ pieceF, PyData.strOk p.1 = true := fun p hp => (pieceF_word p hp).ok
theorem TT_nc : ∀ {n d t}, TT n d t → Nc (12 + n) d
  | 0, _, _, h => h.elim
  | n + 1, d, t, h => by
    have ih := fun {d t} => @TT_nc n d t
    show Nc (12 + n + 1) d
    unfold TT at h
    rcases h with ⟨ws, ps, _, _, h3, h4, rfl, rfl⟩ | ⟨x, q, ds, ps, hm, hp, rfl, rfl⟩
    · exact Nc.mono (n := 3) (nc_three nc_lit ((nc_map (n := 0) fun x hx => .str (h3 x hx).ok).mono (by decide)) (nc_map (n := 1) fun p hp => nc_pair (h4 p hp).1 (.str (h4 p hp).2.ok))) (by omega)
    · exact nc_cons (.str (turnF_ok _ hm)) (Parts_nc (by omega) ih hp)
theorem PT_nc {d : PyData} {t : List Tk} (h : PT d t) : Nc 17 d := by
  obtain ⟨x, q, ds, ps, hm, hp, rfl, rfl⟩ := h
  exact nc_cons (.str (pieceF_ok _ hm)) (Parts_nc (by decide) (fun h => TT_nc h) hp)
theorem CT_nc {d : PyData} {t : List Tk} (h : CT d t) : Nc 18 d := by
  obtain ⟨p, a, q, b, ⟨xs, _, hx, rfl, rfl⟩, h2, rfl, rfl⟩ := h
  exact nc_two ((nc_map (n := 0) fun x h => .str (hx x h).ok).mono (by decide)) (PT_nc h2)
/-! ### sorted names -/
def nameLe (a b : Str) : Prop := TL.tl a ≤ TL.tl b
theorem risingS_le : ∀ {x : Str} {r : List Str}, risingS x r = true → (x :: r).Pairwise nameLe
  | x, [], _ => List.pairwise_singleton _ _
  | x, y :: r, h => by
    have h' : (!ltCps y.cps.toList x.cps.toList && risingS y r) = true := h
    obtain ⟨h1, h2⟩ := Bool.and_eq_true_iff.mp h'
    have ih := risingS_le h2
    have hxy : nameLe x y := by
      rw [ltCps_eq] at h1
      have z : ¬ y.cps.toList < x.cps.toList := by
        intro q
        rw [decide_eq_true q] at h1
        cases h1
      exact List.not_lt.mp z
    refine List.pairwise_cons.mpr ⟨fun z hz => ?_, ih⟩
    rcases List.mem_cons.mp hz with rfl | hz
    · exact hxy
    · exact List.le_trans hxy ((List.pairwise_cons.mp ih).1 z hz)
theorem sortedS_le {ys : List Str} (h : sortedS ys = true) : ys.Pairwise nameLe := by
  cases ys with
  | nil => exact .nil
  | cons x r => exact risingS_le h
theorem nameLt_ne {a b : Str} (h : nameLt a b) : a ≠ b := fun e => by
  subst e
  exact List.lt_irrefl _ h
theorem sorted_lt {ys : List Str} (h : ys.Pairwise nameLe) (nd : ys.Nodup) : ys.Pairwise nameLt := by
  refine (List.pairwise_and_iff.mpr ⟨h, nd⟩).imp fun {a b} ⟨h1, h2⟩ => ?_
  exact Std.lt_of_le_of_ne h1 fun e => h2 (TL.ext_tl e)
theorem lt_nodup {xs : List Str} (h : xs.Pairwise nameLt) : xs.Nodup := h.imp fun {a b} h => nameLt_ne h
theorem sorted_same {xs ys : List Str} (h : xs.Pairwise nameLt) (hp : ys.Perm xs) (hs : sortedS ys = true) : ys = xs :=
  List.Perm.eq_of_pairwise (le := nameLe) (fun a b _ _ h1 h2 => TL.ext_tl (List.le_antisymm h1 h2)) (sortedS_le hs) (h.imp fun {a b} h => List.le_of_lt h) hp
end OH
end

section
set_option Elab.async false
set_option linter.all false
set_option maxRecDepth 100000
set_option maxHeartbeats 4000000
namespace OH
open PySem PySem.Spec PyProof.Rows L2
/-! ### set(xs) of unlike texts (at the library's level; turned from the library's own proof for one text at most) -/
abbrev fresh0 (led : Bool) : Obj := { cls := .type "set", dict := none, data := .set #[] 0 (.fresh 0 0 led) }
abbrev SetW (prog : Program) (w : World) (h : Heap) (S : Addr) (xs : List Str) (i : Nat) : Prop := h.SetOf (PySem.strKind prog w) S (fun k => (xs.take i).any (· == k)) i
theorem take_any {xs : List Str} {i : Nat} (hi : i < xs.length) (k : Str) : ((xs.take i).any (· == k) || decide (k = xs.getD i Str.empty)) = (xs.take (i + 1)).any (· == k) := by
  have e : xs.getD i Str.empty = xs[i] := by simp [List.getD, List.getElem?_eq_getElem hi]
  rw [List.take_add_one, List.getElem?_eq_getElem hi, List.any_append, e]
  show _ = ((xs.take i).any (· == k) || ((xs[i] == k) || false))
  by_cases q : k = xs[i]
  · rw [← q]
    simp
  · have b : (xs[i] == k) = false := beq_eq_false_iff_ne.mpr fun z => q z.symm
    rw [b, decide_eq_false q] <;> rfl
theorem take_out {xs : List Str} (nd : xs.Nodup) {i : Nat} (hi : i < xs.length) : (xs.take i).any (· == xs.getD i Str.empty) = false := by
  have e : xs.getD i Str.empty = xs[i] := by simp [List.getD, List.getElem?_eq_getElem hi]
  rw [e]
  cases q : (xs.take i).any (· == xs[i]) with
  | false => rfl
  | true =>
    obtain ⟨y, hy, z⟩ := List.any_eq_true.mp q
    obtain ⟨j, hj, rfl⟩ := List.mem_iff_getElem.mp hy
    have hj2 : j < i := by
      rw [List.length_take] at hj
      omega
    rw [List.getElem_take] at z
    have ee : xs[j]'(by omega) = xs[i] := beq_iff_eq.mp z
    have := (List.getElem_inj nd).mp ee
    omega
section
variable {prog : Program} {w : World} {A : Around} {R : Result → Shared → Prop} {I : Addr} {fp wr : List Addr} {G : Array GenState → Array GenState → Prop} {n : Nat} {Pv : Nat → Value → Prop} {St : Nat → Shared → Prop}
theorem loopW (W : WalksS prog w A.in1 I fp wr G n Pv St) (S : Addr) (hSf : S ∉ fp) (xs : List Str) (hsz : xs.length = n) (nd : xs.Nodup) (hb : n + 1 < scanBound)
    (hval : ∀ i v, Pv i v → ∃ t, v = .str (xs.getD i Str.empty) t) :
    ∀ (k i : Nat) (s : Shared), n - i = k → i ≤ n → St i s → SetW prog w s.heap S xs i → (∀ s', Moved (S :: wr) G s s' → SetW prog w s'.heap S xs n → R (.ok (.ret .none)) s') →
      codeAny (model prog w) A (.builtin "set.update.loop" ⟨[.ref S, .ref I], []⟩) R s := by
  have hSw : S ∉ wr := fun h => hSf (W.sub _ h)
  have up : ∀ b ∈ wr, b ∈ S :: wr := fun b hb => List.mem_cons_of_mem _ hb
  intro k
  induction k with
  | zero =>
    intro i s hk hi hst hS hR
    obtain rfl : i = n := by omega
    refine codeAny_builtin PyProof.Rows.F.entry_set_update_loop ?_
    rw [Around.under_plainId PyProof.Rows.F.plain_set_update_loop _]
    show wpAny _ A.in1 (pyNext (.ref I) >>= _) _ _ s
    refine wpAny_bind (W.done s _ _ hst fun s' hm => ?_)
    show wpAny _ A.in1 (ret Value.none) _ _ s'
    obtain ⟨o, es, ep, t, ho, rest⟩ := hS
    exact wpAny_pure (hR s' (hm.mono up) ⟨o, es, ep, t, hm.heap S _ hSw ho, rest⟩)
  | succ k ih =>
    intro i s hk hi hst hS hR
    have hlt : i < n := by omega
    refine codeAny_builtin PyProof.Rows.F.entry_set_update_loop ?_
    rw [Around.under_plainId PyProof.Rows.F.plain_set_update_loop _]
    show wpAny _ A.in1 (pyNext (.ref I) >>= _) _ _ s
    refine wpAny_bind (W.item i s _ _ hlt hst fun v s' hP hst' hm => ?_)
    obtain ⟨t, rfl⟩ := hval i v hP
    have hS' : SetW prog w s'.heap S xs i := by
      obtain ⟨o, es, ep, tb, ho, rest⟩ := hS
      exact ⟨o, es, ep, tb, hm.heap S _ hSw ho, rest⟩
    show wpAny _ A.in1 (holding [Value.str (xs.getD i Str.empty) t] (setAdd S (.str (xs.getD i Str.empty) t)) >>= _) _ _ s'
    refine wpAny_bind (wpAny_holding ?_)
    unfold setAdd
    refine wpAny_holding (wpAny_bind ((PySem.strKind prog w).pyHash (k := xs.getD i Str.empty) (strKind_is _ _ _ _) ?_))
    refine wpAny_setAddHashed_of (knd := PySem.strKind prog w) (s := { s' with toks := s'.toks + 1 }) (strKind_is _ _ _ _) rfl hS' (by omega) fun h' hsb hS2 => ?_
    rw [take_out nd (by omega)] at hS2
    have hSi : SetW prog w h' S xs (i + 1) := SetOf_congr hS2 (fun k' => take_any (by omega) k') rfl
    have ne : ∀ {b : Addr}, b ∉ S :: wr → b ≠ S := fun hb h => hb (by rw [h]; exact List.mem_cons_self)
    refine wpAny_pure ⟨plainId_quiet PyProof.Rows.F.plain_set_update_loop _, ih (i + 1) _ (by omega) hlt (W.frame _ s' _ _ hst' (Nat.le_succ _) fun b hb o e => ?_) hSi fun s'' hm'' hS'' => ?_⟩
    · exact (hsb.2 b (fun h : b = S => hSf (by rw [← h]; exact hb))).trans e
    · exact hR s'' (Moved.trans W.gtrans ((hm.mono up).then_heap (Nat.le_succ _) fun b o hb e => (hsb.2 b (ne hb)).trans e) hm'') hS''
end
section
variable {prog : Program} {w : World} {A : Around} {E : Value → Shared → Prop} {s : Shared}
abbrev SetDone (prog : Program) (w : World) (s : Shared) (xs : List Str) (n : Nat) (E : Value → Shared → Prop) : Result → Shared → Prop :=
  wants (fun r s₂ => r = .none ∧ ∃ h' tk, s₂ = { s with heap := h', toks := tk } ∧ SetW prog w h' s.heap.objs.size xs n ∧ (∀ b o, b < s.heap.objs.size → s.heap.get? b = some o → h'.get? b = some o)) E
set_option maxHeartbeats 6400000 in
theorem set_words {l : Addr} {items : Array Value} {xs : List Str} {Q : Value → Shared → Prop} (hh : A.handled = none) (hl : s.heap.IsList l items ∨ s.heap.IsTuple l items) (hi : PyProof.Rows.StrsAre items.toList xs)
    (nd : xs.Nodup) (hn : xs.length + 1 < scanBound)
    (h : ∀ (h' : Heap) (tk : Nat), SetW prog w h' s.heap.objs.size xs items.size → (∀ b o, b < s.heap.objs.size → s.heap.get? b = some o → h'.get? b = some o) → Q (.ref s.heap.objs.size) { s with heap := h', toks := tk }) :
    wpAny (model prog w) A (call (.type "set") [.ref l]) Q E s := by
  have hsz : xs.length = items.size := by rw [← StrsAre.len_eq hi, Array.length_toList]
  obtain ⟨c, tl, hmro⟩ := PySem.F.called_set.mro
  have hmade := PySem.F.called_set.made
  have hsub := PySem.F.called_set.sub
  refine wpAny_call (codeAny_of_tree ?_)
  show wpAny _ _ (callAny (.type "set") _) _ _ _
  refine wpAny_pure ⟨Code.quiet_builtin _ (by decide +kernel), codeAny_builtin PySem.F.entry_type_call ?_⟩
  rw [Around.under_plain (weight_type_call_type "set" [.ref l] []) rfl]
  have h1 := PySem.F.called_set.notType
  have h2 := PySem.F.called_set.canCreate
  have hct := PySem.F.typeCall_set_1 (.ref l)
  repeat (any_goals (first | assumption | wp_step))
  refine codeAny_mono (code_set_new_1 (.ref l) (E := E) (Q₁ := fun obj s₁ => ∃ led : Bool, obj = .ref s.heap.objs.size ∧ s₁ = { s with heap := s.heap.push (fresh0 led) }) fun led => ⟨led, rfl, rfl⟩) fun r s₁ hr => ?_
  cases r with
  | error e => exact hr
  | ok fl =>
    cases fl with
    | ret obj =>
      obtain ⟨led, rfl, rfl⟩ := hr
      have hS : (s.heap.push (fresh0 led)).get? s.heap.objs.size = some (fresh0 led) := Heap.get?_push_size _ rfl
      have hT : Shared.TypeIs { s with heap := s.heap.push (fresh0 led) } (.ref s.heap.objs.size) "set" := ⟨_, hS, rfl⟩
      have hli := PySem.F.called_set.init.lookup
      have hbi := PySem.F.called_set.init.bind (.ref s.heap.objs.size)
      repeat (any_goals (first | assumption | wp_step))
      have hh3 : A.in1.in1.in1.handled = none := by simp [hh]
      have hval : ∀ (i : Nat) (v : Value), items[i]? = some v → ∃ t, v = .str (xs.getD i Str.empty) t := fun i v hv => SS.strs_at hi i v (by rw [Array.getElem?_toList]; exact hv)
      refine codeAny_mono (codeAny_call_builtin (R := SetDone prog w s xs items.size E) PySem.F.called_set.init.plain PySem.F.entry_set_init (check_set_init_1 hT ?_)) fun r₂ s₂ hr₂ => ?_
      · have lt : l < s.heap.objs.size := by
          rcases hl with ⟨_, z, _⟩ | ⟨_, z, _⟩ <;> exact Heap.lt_size z
        have apart : l ≠ (s.heap.push (fresh0 led)).objs.size := by
          rw [Heap.size_push]
          exact Nat.ne_of_lt (Nat.lt_succ_of_lt lt)
        have out : s.heap.objs.size ∉ [(s.heap.push (fresh0 led)).objs.size, l] := by
          rw [Heap.size_push]
          simp only [List.mem_cons, List.not_mem_nil, or_false, not_or]
          exact ⟨Nat.ne_of_lt (Nat.lt_succ_self _), Nat.ne_of_gt lt⟩
        have start : ∀ it : Obj, SetW prog w ((s.heap.push (fresh0 led)).push it) s.heap.objs.size xs 0 := fun it =>
          SetOf_congr ((PyProof.Rows.setObjOf_fresh (knd := PySem.strKind prog w) led).setOf (Heap.get?_push_of_some it hS) (by unfold scanBound; omega)) (fun _ => rfl) rfl
        unfold Builtin.«set.__init__» noKeywords Builtin.Frozenset.updateFrom
        generalize hPI : pyIter = PI
        wp_walk
        rcases hl with hl | hl
        · obtain ⟨⟨ocls, odict, odata, oslots⟩, hol, hcl, nl, hdl⟩ := hl
          simp only at hcl hdl
          subst hcl hdl
          have hol' : (s.heap.push (fresh0 led)).get? l = some { cls := .type "list", dict := odict, data := .seq items nl, slots := oslots } := Heap.get?_push_of_some _ hol
          have hsls := PySem.F.sub_list_set
          have hslf := PySem.F.sub_list_frozenset
          have hne : (Value.type "list" == Value.type "dict") = false := by decide
          have hl1 : (s.heap.push (fresh0 led)).IsList l items := ⟨_, hol', rfl, nl, rfl⟩
          wp_walk
          subst hPI
          refine wpAny_pyIter_list hl1 (wpAny_bind (wpAny_runValue ?_))
          refine loopW ((Walks.list hh3 _ l apart items).toS) s.heap.objs.size out xs hsz nd (by omega) hval (items.size - 0) 0 _ (by omega) (Nat.zero_le _) ⟨⟨_, Heap.get?_push_size _ rfl, rfl, rfl⟩, (hl1.push _)⟩ (start _) ?_
          intro s' hm hS'
          obtain ⟨h', g', d', tk', os'⟩ := s'
          obtain rfl : g' = s.gens := hm.gens
          obtain rfl : d' = s.drawn := hm.drawn
          obtain rfl : os' = s.os := hm.os
          show wpAny _ _ _ _ _ _
          refine wpAny_pure ?_
          show wpAny _ _ (ret Value.none) _ _ _
          refine wpAny_pure ⟨rfl, h', tk', rfl, hS', fun b o hb e => hm.heap b o ?_ (Heap.get?_push_of_some _ (Heap.get?_push_of_some _ e))⟩
          rw [Heap.size_push]
          simp only [List.mem_cons, List.not_mem_nil, or_false, not_or]
          exact ⟨Nat.ne_of_lt hb, Nat.ne_of_lt (Nat.lt_succ_of_lt hb)⟩
        · obtain ⟨⟨ocls, odict, odata, oslots⟩, hol, hcl, nl, hdl⟩ := hl
          simp only at hcl hdl
          subst hcl hdl
          have hol' : (s.heap.push (fresh0 led)).get? l = some { cls := .type "tuple", dict := odict, data := .seq items nl, slots := oslots } := Heap.get?_push_of_some _ hol
          have hsls := PySem.F.sub_tuple_set
          have hslf := PySem.F.sub_tuple_frozenset
          have hne : (Value.type "tuple" == Value.type "dict") = false := by decide
          have hl1 : (s.heap.push (fresh0 led)).IsTuple l items := ⟨_, hol', rfl, nl, rfl⟩
          wp_walk
          subst hPI
          refine wpAny_pyIter_tuple hl1 (wpAny_bind (wpAny_runValue ?_))
          refine loopW ((Walks.tuple hh3 _ l apart items).toS) s.heap.objs.size out xs hsz nd (by omega) hval (items.size - 0) 0 _ (by omega) (Nat.zero_le _) ⟨⟨_, Heap.get?_push_size _ rfl, rfl, rfl⟩, (hl1.push _)⟩ (start _) ?_
          intro s' hm hS'
          obtain ⟨h', g', d', tk', os'⟩ := s'
          obtain rfl : g' = s.gens := hm.gens
          obtain rfl : d' = s.drawn := hm.drawn
          obtain rfl : os' = s.os := hm.os
          show wpAny _ _ _ _ _ _
          refine wpAny_pure ?_
          show wpAny _ _ (ret Value.none) _ _ _
          refine wpAny_pure ⟨rfl, h', tk', rfl, hS', fun b o hb e => hm.heap b o ?_ (Heap.get?_push_of_some _ (Heap.get?_push_of_some _ e))⟩
          rw [Heap.size_push]
          simp only [List.mem_cons, List.not_mem_nil, or_false, not_or]
          exact ⟨Nat.ne_of_lt hb, Nat.ne_of_lt (Nat.lt_succ_of_lt hb)⟩
      · cases r₂ with
        | error e => exact hr₂
        | ok fl₂ =>
          cases fl₂ with
          | ret r =>
            obtain ⟨rfl, h', tk, rfl, hS', hk'⟩ := hr₂
            repeat (any_goals (first | assumption | wp_step))
            exact h _ _ hS' hk'
          | _ => exact hr₂.elim
    | _ => exact hr.elim
end
/-- len(set(xs)) of unlike texts -/
def tLenSetS (K : PySem.W.Frag) (ta : TE) : TE := fun σ H Q => ta σ H fun x H1 => ∃ l, ∃ xs : List Str, x = .ref l ∧ (SqL K H1 l (xs.map V.str) ∨ SqT K H1 l (xs.map V.str)) ∧ xs.Nodup ∧ xs.length ≤ 4000 ∧ Q (.int (xs.length : Nat)) H1
theorem pe_lenSetS {X : Cx} {a : Expr} {ta : TE} {p p2 q pos : Pos} (hc : X.calm = true) (hg : Gl X "len") (hm : X.mg "len" = none) (hg2 : Gl X "set") (hm2 : X.mg "set" = none) (ha : PE X a ta)
    (na : starEach [a] X.env = (false, eval a X.env) :: starEach [] X.env := by rfl) : PE X (.Call (.Name "len" p) [.Call (.Name "set" p2) [a] [] q] [] pos) (tLenSetS X.K ta) := by
  refine ⟨fun pins s σ H Q I h => Call_ (ld_blt I hg hm bt_len (PyProof.Rows.callWith_builtin1 (PyProof.Rows.args_cons ?_ rfl) rfl rfl))⟩
  refine Call_ (ld_blt I hg2 hm2 bt_set (PyProof.Rows.callWith_type1 (PyProof.Rows.args_cons (thn (ha.run pins s σ H _ I h) fun v s1 ⟨x, H1, I1, r1, q1⟩ => PyProof.Rows.args_nil ?_) na) na rfl))
  obtain ⟨l, xs, rfl, hq, nd, hl, q1⟩ := q1
  cases r1
  have go : ∀ its : List Value, Vals (xs.map V.str) its → (s1.heap.IsList l its.toArray ∨ s1.heap.IsTuple l its.toArray) →
      wpAny (model X.prog X.w) X.A (call (.type "set") [.ref l]) (fun v s₂ => wpAny (model X.prog X.w) X.A (spliced (backTo pos (starEach [] X.env))) (fun vs s₃ => wpAny (model X.prog X.w) X.A (call (.builtin "len") (v :: vs)) (EP X pins σ Q) X.xe s₃) X.xe s₂) X.xe s1 := fun its r hit => by
    have hlen : its.toArray.size = xs.length := by rw [List.size_toArray, ← r.length, List.length_map]
    refine set_words (I1.ok.hd hc) hit (by simpa using strsAre_of r) nd (by unfold scanBound; omega) fun h' tk hS hk => PyProof.Rows.args_nil ?_
    rw [hlen] at hS
    obtain ⟨o, es, ep, t, ho, hex, hd, _, _, _, hf, hn⟩ := hS
    have I2 : Inv X pins σ H1 { s1 with heap := h', toks := tk } := I1.kept fun b o e => hk b o (Heap.lt_size e) e
    exact call_len_set ho hex hd hf (by rw [hn]; omega) ⟨.int xs.length, H1, I2.tok _, ⟨_, by rw [hn]⟩, q1⟩
  rcases hq with hq | hq
  · obtain ⟨its, r, pl, hz⟩ := I1.list hq
    exact go its r (.inl pl.isList)
  · obtain ⟨its, r, pl, hz⟩ := I1.tuple hq
    exact go its r (.inr pl)
end OH
end

section
set_option Elab.async false
set_option linter.all false
set_option maxRecDepth 100000
set_option maxHeartbeats 4000000
/-! zip of a text and a tuple (turned from the library's own proof for two tuples) -/
namespace OH
open PySem PySem.Spec PyProof.Rows L2
section
variable {prog : Program} {w : World} {A : Around} {E : Value → Shared → Prop} {s : Shared}
abbrev SIt (h : Heap) (it : Addr) (x : Str) (t : Tok) (i : Nat) : Prop := h.IsStrIter it "str_ascii_iterator" x t i
theorem sit_at {h h' : Heap} {it : Addr} {x : Str} {t : Tok} {i : Nat} (y : SIt h it x t i) (k : ∀ o, h.get? it = some o → h'.get? it = some o) : SIt h' it x t i := let ⟨o, ho, r⟩ := y; ⟨o, k o ho, r⟩
structure ZA (z TI TO i1 i2 l2 : Addr) : Prop where
  TIz : TI ≠ z
  TOz : TO ≠ z
  i1z : i1 ≠ z
  i2z : i2 ≠ z
  TITO : TI ≠ TO
  TIi1 : TI ≠ i1
  TIi2 : TI ≠ i2
  TOi1 : TO ≠ i1
  TOi2 : TO ≠ i2
  i12 : i1 ≠ i2
  l2z : l2 ≠ z
  l2TO : l2 ≠ TO
  l2i1 : l2 ≠ i1
  l2i2 : l2 ≠ i2
theorem zipS_next_item {z TI TO i1 i2 l2 : Addr} {xt : Str} {tt : Tok} {k1 k2 c0 : Nat} {ys : Array Value} {y a b : Value} {Q : Value → Shared → Prop} (D : ZA z TI TO i1 i2 l2)
    (hz : IsZip s.heap z TI TO .none) (hTI : IsPair s.heap TI (.ref i1) (.ref i2)) (hTO : IsPair s.heap TO a b)
    (h1 : SIt s.heap i1 xt tt k1) (h2 : s.heap.IsTupleIter i2 l2 k2) (hl2 : s.heap.IsTuple l2 ys) (hx : xt.cps[k1]? = some c0) (hy : ys[k2]? = some y)
    (hQ : ∀ h' tk tk', IsZip h' z TI TO (rawInt s.heap.objs.size) → (∃ a b, IsPair h' TO a b) → SIt h' i1 xt tt (k1 + 1) → h'.IsTupleIter i2 l2 (k2 + 1) → IsPair h' s.heap.objs.size (.str ⟨#[c0]⟩ tk) y → h'.objs.size = s.heap.objs.size + 1 →
      (∀ c o, c ≠ z → c ≠ TO → c ≠ i1 → c ≠ i2 → s.heap.get? c = some o → h'.get? c = some o) → Q (.ref s.heap.objs.size) { s with heap := h', toks := tk' }) :
    wpAny (model prog w) A (Builtin.«zip.__next__» ⟨[.ref z], []⟩) (fun fin s' => ∃ v, fin = .done (.ret v) ∧ Q v s') E s := by
  show wpAny _ _ (field (.ref z) 2 >>= _) _ _ _
  refine wpAny_bind (wpAny_field hz rfl (x := .bool false) rfl ?_)
  show wpAny _ _ (field (.ref z) 3 >>= _) _ _ _
  refine wpAny_bind (wpAny_field hz rfl (x := .ref TI) rfl ?_)
  refine wpAny_bind (wpAny_seqItems hTI rfl ?_)
  show wpAny _ _ (Builtin.SmallTypes.ownedTupleIsFree (.ref z) >>= _) _ _ _
  refine wpAny_bind ?_
  unfold Builtin.SmallTypes.ownedTupleIsFree
  refine wpAny_bind (wpAny_field hz rfl (x := .none) rfl (wpAny_pure ?_))
  simp only [if_true]
  refine wpAny_bind (wpAny_rule ?_)
  refine wpAny_bind (wpAny_field hz rfl (x := .ref TO) rfl ?_)
  refine wpAny_bind (wpAny_setField_rec hz (by simp) fun h₁ hz₁ hs₁ => ?_)
  replace hz₁ : IsZip h₁ z TI TO .ellipsis := hz₁
  refine wpAny_bind ?_
  simp only [List.zipIdx_cons, List.zipIdx_nil, List.forIn_cons, List.forIn_nil]

  refine wpAny_bind (wpAny_bind (wpAny_onRaise ?_))
  show wpAny _ _ (Builtin.SmallTypes.nextOf (.ref i1) >>= _) _ _ _
  refine wpAny_bind (wpAny_nextOf_ascii_item (Heap.IsStrIter.extBut h1 hs₁.extBut D.i1z) hx fun h₂ h1₂ hs₂ => wpAny_pure ?_)
  have hTO₂ : IsPair h₂ TO a b := hs₂.extBut _ _ D.TOi1 (hs₁.extBut _ _ D.TOz hTO)
  refine wpAny_bind (wpAny_seqItems hTO₂ rfl ?_)
  refine wpAny_bind (wpAny_updateSeq_pair hTO₂ fun h₃ hTO₃ hs₃ => ?_)
  replace hTO₃ : IsPair h₃ TO (.str ⟨#[c0]⟩ s.toks) b := hTO₃
  refine wpAny_bind (wpAny_letGo (wpAny_pure ?_))

  refine wpAny_bind (wpAny_bind (wpAny_onRaise ?_))
  show wpAny _ _ (Builtin.SmallTypes.nextOf (.ref i2) >>= _) _ _ _
  refine wpAny_bind (RZ.nextOf_tuple_item (((h2.extBut hs₁.extBut D.i2z).extBut hs₂.extBut D.i12.symm).extBut hs₃.extBut D.TOi2.symm)
    (((hl2.extBut hs₁.extBut D.l2z).extBut hs₂.extBut D.l2i1).extBut hs₃.extBut D.l2TO) hy fun h₄ h2₄ hs₄ => wpAny_pure ?_)
  have hTO₄ : IsPair h₄ TO (.str ⟨#[c0]⟩ s.toks) b := hs₄.extBut _ _ D.TOi2 hTO₃
  refine wpAny_bind (wpAny_seqItems hTO₄ rfl ?_)
  refine wpAny_bind (wpAny_updateSeq_pair hTO₄ fun h₅ hTO₅ hs₅ => ?_)
  replace hTO₅ : IsPair h₅ TO (.str ⟨#[c0]⟩ s.toks) y := hTO₅
  refine wpAny_bind (wpAny_letGo (wpAny_pure (wpAny_pure ?_)))

  refine wpAny_bind (wpAny_seqItems hTO₅ rfl ?_)
  refine wpAny_bind (wpAny_newTuple ?_)
  have hsz : h₅.objs.size = s.heap.objs.size := by rw [hs₅.1, hs₄.1, hs₃.1, hs₂.1, hs₁.1]
  have hz₅ : IsZip h₅ z TI TO .ellipsis := hs₅.extBut _ _ D.TOz.symm (hs₄.extBut _ _ D.i2z.symm (hs₃.extBut _ _ D.TOz.symm (hs₂.extBut _ _ D.i1z.symm hz₁)))
  have hk₅ : ∀ c o, c ≠ z → c ≠ TO → c ≠ i1 → c ≠ i2 → s.heap.get? c = some o → h₅.get? c = some o := fun c o c1 c2 c3 c4 e =>
    hs₅.extBut _ _ c2 (hs₄.extBut _ _ c4 (hs₃.extBut _ _ c2 (hs₂.extBut _ _ c3 (hs₁.extBut _ _ c1 e))))
  have h1₅ : SIt h₅ i1 xt tt (k1 + 1) := Heap.IsStrIter.extBut (Heap.IsStrIter.extBut (Heap.IsStrIter.extBut h1₂ hs₃.extBut D.TOi1.symm) hs₄.extBut D.i12) hs₅.extBut D.TOi1.symm
  have h2₅ : h₅.IsTupleIter i2 l2 (k2 + 1) := h2₄.extBut hs₅.extBut D.TOi2.symm
  have hzlt : z < h₅.objs.size := Heap.lt_size hz₅
  show wpAny _ _ (Builtin.SmallTypes.ownedTupleHandOut (.ref z) (.ref h₅.objs.size) >>= _) _ _ _
  refine wpAny_bind ?_
  unfold Builtin.SmallTypes.ownedTupleHandOut
  have hz₆ : IsZip (h₅.push { cls := .type "tuple", data := .seq #[.str ⟨#[c0]⟩ s.toks, y] }) z TI TO .ellipsis := Heap.get?_push_of_some _ hz₅
  refine wpAny_bind (wpAny_setField_rec hz₆ (by simp) fun h₇ hz₇ hs₇ => ?_)
  replace hz₇ : IsZip h₇ z TI TO (rawInt h₅.objs.size) := hz₇
  refine wpAny_setField_rec hz₇ (by simp) fun h₈ hz₈ hs₈ => ?_
  replace hz₈ : IsZip h₈ z TI TO (rawInt h₅.objs.size) := hz₈
  have up : ∀ c o, c ≠ z → h₅.get? c = some o → h₈.get? c = some o := fun c o c1 e => hs₈.extBut _ _ c1 (hs₇.extBut _ _ c1 (Heap.get?_push_of_some _ e))
  have hT₈ : IsPair h₈ h₅.objs.size (.str ⟨#[c0]⟩ s.toks) y := hs₈.extBut _ _ (Nat.ne_of_gt hzlt) (hs₇.extBut _ _ (Nat.ne_of_gt hzlt) (Heap.get?_push_size _ rfl))
  have hz8 : h₈.objs.size = h₅.objs.size + 1 := by rw [hs₈.1, hs₇.1, Heap.size_push]
  rw [hsz] at hz₈ hT₈ hz8
  refine wpAny_pure ⟨_, rfl, ?_⟩
  show Q (.ref h₅.objs.size) _
  rw [hsz]
  exact hQ h₈ _ _ hz₈ ⟨_, _, up _ _ D.TOz hTO₅⟩ (sit_at h1₅ fun o e => up _ o D.i1z e) (h2₅.at fun o e => up _ o D.i2z e) hT₈ hz8 fun c o c1 c2 c3 c4 e => up c o c1 (hk₅ c o c1 c2 c3 c4 e)
theorem zipS_next_end {z TI TO i1 i2 l2 : Addr} {xt : Str} {tt : Tok} {k1 : Nat} {a b : Value} {Q : Fin → Shared → Prop} (hh : A.handled = none) (D : ZA z TI TO i1 i2 l2)
    (hz : IsZip s.heap z TI TO .none) (hTI : IsPair s.heap TI (.ref i1) (.ref i2)) (hTO : IsPair s.heap TO a b) (h1 : SIt s.heap i1 xt tt k1) (hend : xt.cps[k1]? = none)
    (hE : ∀ h' e, (∀ c o, c ≠ z → c ≠ TO → c ≠ i1 → c ≠ i2 → s.heap.get? c = some o → h'.get? c = some o) → (∃ o, h'.get? e = some o ∧ o.cls = .type "StopIteration") → E (.ref e) { s with heap := h' }) :
    wpAny (model prog w) A (Builtin.«zip.__next__» ⟨[.ref z], []⟩) Q E s := by
  show wpAny _ _ (field (.ref z) 2 >>= _) _ _ _
  refine wpAny_bind (wpAny_field hz rfl (x := .bool false) rfl ?_)
  show wpAny _ _ (field (.ref z) 3 >>= _) _ _ _
  refine wpAny_bind (wpAny_field hz rfl (x := .ref TI) rfl ?_)
  refine wpAny_bind (wpAny_seqItems hTI rfl ?_)
  show wpAny _ _ (Builtin.SmallTypes.ownedTupleIsFree (.ref z) >>= _) _ _ _
  refine wpAny_bind ?_
  unfold Builtin.SmallTypes.ownedTupleIsFree
  refine wpAny_bind (wpAny_field hz rfl (x := .none) rfl (wpAny_pure ?_))
  simp only [if_true]
  refine wpAny_bind (wpAny_rule ?_)
  refine wpAny_bind (wpAny_field hz rfl (x := .ref TO) rfl ?_)
  refine wpAny_bind (wpAny_setField_rec hz (by simp) fun h₁ hz₁ hs₁ => ?_)
  replace hz₁ : IsZip h₁ z TI TO .ellipsis := hz₁
  refine wpAny_bind ?_
  simp only [List.zipIdx_cons, List.zipIdx_nil, List.forIn_cons, List.forIn_nil]
  refine wpAny_bind (wpAny_bind (wpAny_onRaise ?_))
  show wpAny _ _ (Builtin.SmallTypes.nextOf (.ref i1) >>= _) _ _ _
  refine wpAny_bind (wpAny_nextOf_ascii_end hh (Heap.IsStrIter.extBut h1 hs₁.extBut D.i1z) hend fun h₂ e hs₂ he => ?_)
  obtain ⟨oe, hoe, hce⟩ := he
  have hz₂ : IsZip h₂ z TI TO .ellipsis := hs₂ _ _ D.i1z.symm hz₁
  have hez : e ≠ z := fun x => by subst x; rw [hz₂] at hoe; cases hoe; simp at hce
  refine wpAny_setField_rec hz₂ (by simp) fun h₃ _ hs₃ => hE h₃ e (fun c o c1 _ c3 _ x => hs₃.extBut _ _ c1 (hs₂ _ _ c3 (hs₁.extBut _ _ c1 x))) ⟨oe, hs₃.extBut _ _ hez hoe, hce⟩
theorem pyNext_zipS_item {z TI TO i1 i2 l2 : Addr} {xt : Str} {tt : Tok} {k1 k2 c0 : Nat} {ys : Array Value} {y a b : Value} {Q : Option Value → Shared → Prop} (D : ZA z TI TO i1 i2 l2)
    (hz : IsZip s.heap z TI TO .none) (hTI : IsPair s.heap TI (.ref i1) (.ref i2)) (hTO : IsPair s.heap TO a b)
    (h1 : SIt s.heap i1 xt tt k1) (h2 : s.heap.IsTupleIter i2 l2 k2) (hl2 : s.heap.IsTuple l2 ys) (hx : xt.cps[k1]? = some c0) (hy : ys[k2]? = some y)
    (hQ : ∀ h' tk tk', IsZip h' z TI TO (rawInt s.heap.objs.size) → (∃ a b, IsPair h' TO a b) → SIt h' i1 xt tt (k1 + 1) → h'.IsTupleIter i2 l2 (k2 + 1) → IsPair h' s.heap.objs.size (.str ⟨#[c0]⟩ tk) y → h'.objs.size = s.heap.objs.size + 1 →
      (∀ c o, c ≠ z → c ≠ TO → c ≠ i1 → c ≠ i2 → s.heap.get? c = some o → h'.get? c = some o) → Q (some (.ref s.heap.objs.size)) { s with heap := h', toks := tk' }) :
    wpAny (model prog w) A (pyNext (.ref z)) Q E s := by
  have hT : s.TypeIs (.ref z) "zip" := ⟨_, hz, rfl⟩
  unfold pyNext
  exact wpAny_bind (wpAny_attempt (wpAny_callSpecial?_slot (name := Str.ofString "__next__") hT F.slot_zip_next
    (wpAny_call_entry F.slot_zip_next hT F.entry_zip_next
      (zipS_next_item D hz hTI hTO h1 h2 hl2 hx hy fun h' tk tk' a1 a2 a3 a4 a5 a6 a7 => wpAny_pure (hQ h' tk tk' a1 a2 a3 a4 a5 a6 a7)) (F.args_zip_next_1 _))))
theorem pyNext_zipS_end {z TI TO i1 i2 l2 : Addr} {xt : Str} {tt : Tok} {k1 : Nat} {a b : Value} {Q : Option Value → Shared → Prop} (hh : A.handled = none) (D : ZA z TI TO i1 i2 l2)
    (hz : IsZip s.heap z TI TO .none) (hTI : IsPair s.heap TI (.ref i1) (.ref i2)) (hTO : IsPair s.heap TO a b) (h1 : SIt s.heap i1 xt tt k1) (hend : xt.cps[k1]? = none)
    (hQ : ∀ h', (∀ c o, c ≠ z → c ≠ TO → c ≠ i1 → c ≠ i2 → s.heap.get? c = some o → h'.get? c = some o) → Q none { s with heap := h' }) : wpAny (model prog w) A (pyNext (.ref z)) Q E s := by
  have hT : s.TypeIs (.ref z) "zip" := ⟨_, hz, rfl⟩
  unfold pyNext
  refine wpAny_bind (wpAny_attempt (wpAny_callSpecial?_slot (name := Str.ofString "__next__") hT F.slot_zip_next
    (wpAny_call_entry F.slot_zip_next hT F.entry_zip_next (zipS_next_end hh D hz hTI hTO h1 hend fun h' e hk he => ?_) (F.args_zip_next_1 _))))
  obtain ⟨o, ho, hc⟩ := he
  refine wpAny_bind (wpAny_isInstance (T := "StopIteration") (b := true) ⟨o, ho, hc⟩ isSubtype_stop ?_)
  exact wpAny_pure (hQ _ hk)
end
abbrev zS1 (h : Heap) (x : Str) (t : Tok) : Heap := h.push { cls := .type "str_ascii_iterator", data := .fields #[.str x t, .int 0 0] }
abbrev zS2 (h : Heap) (x : Str) (t : Tok) (l2 : Addr) : Heap := (zS1 h x t).push { cls := .type "tuple_iterator", data := .fields #[.ref l2, .int 0 0] }
abbrev zS3 (h : Heap) (x : Str) (t : Tok) (l2 : Addr) : Heap := (zS2 h x t l2).push { cls := .type "tuple", data := .seq #[.ref h.objs.size, .ref (zS1 h x t).objs.size] }
abbrev zS4 (h : Heap) (x : Str) (t : Tok) (l2 : Addr) : Heap := (zS3 h x t l2).push { cls := .type "tuple", data := .seq #[.none, .none] }
abbrev zS5 (h : Heap) (x : Str) (t : Tok) (l2 : Addr) : Heap := (zS4 h x t l2).push { cls := .type "zip", data := .fields #[.none, .bool false, .bool false, .ref (zS2 h x t l2).objs.size, .ref (zS3 h x t l2).objs.size] }
theorem meets_zipS_new (x : Str) (t : Tok) (l2 : Addr) (ys : Array Value) (ha : x.cps.all (· < 128) = true) :
    Meets (Builtin.«zip.__new__» ⟨[.type "zip", .str x t, .ref l2], []⟩) (fun _ R s => s.heap.IsTuple l2 ys ∧
      R (.ok (.ret (.ref (zS4 s.heap x t l2).objs.size))) { s with heap := zS5 s.heap x t l2 }) :=
  .of_wp fun prog w A R s h => by
    obtain ⟨hp, g, d, tk, os⟩ := s; obtain ⟨hl2, h⟩ := h
    have hsub := sub_zip
    have hL2 : Heap.IsTuple (Shared.heap ⟨hp.push { cls := .type "str_ascii_iterator", data := .fields #[.str x t, .int 0 0] }, g, d, tk, os⟩) l2 ys := Heap.IsTuple.push hl2 _
    wp_walk using wpAny_pyIter_ascii ha, wpAny_pyIter_tuple hL2
    exact ⟨_, rfl, h⟩
section
variable {prog : Program} {w : World} {A : Around} {E : Value → Shared → Prop} {s : Shared}
theorem call_zipS {x : Str} {t : Tok} {l2 : Addr} {ys : Array Value} {Q : Value → Shared → Prop} (ha : x.cps.all (· < 128) = true) (hl2 : s.heap.IsTuple l2 ys)
    (h : ∀ h', IsZip h' (s.heap.objs.size + 4) (s.heap.objs.size + 2) (s.heap.objs.size + 3) .none → IsPair h' (s.heap.objs.size + 2) (.ref s.heap.objs.size) (.ref (s.heap.objs.size + 1)) →
      IsPair h' (s.heap.objs.size + 3) .none .none → SIt h' s.heap.objs.size x t 0 → h'.IsTupleIter (s.heap.objs.size + 1) l2 0 → h'.objs.size = s.heap.objs.size + 5 →
      (∀ c o, s.heap.get? c = some o → h'.get? c = some o) → Q (.ref (s.heap.objs.size + 4)) { s with heap := h' }) :
    wpAny (model prog w) A (call (.type "zip") [.str x t, .ref l2]) Q E s := by
  refine callType_new F.called_zip (by decide) (F.typeCall_zip_2 _ _) (F.newCall_zip_2 _ _) (fun obj => F.args_object_init_3 obj _ _) F.entry_zip_new
    (meets_zipS_new x t l2 ys ha) ⟨hl2, ?_⟩
  have z1 : (zS1 s.heap x t).objs.size = s.heap.objs.size + 1 := Heap.size_push ..
  have z2 : (zS2 s.heap x t l2).objs.size = s.heap.objs.size + 2 := by rw [Heap.size_push, z1]
  have z3 : (zS3 s.heap x t l2).objs.size = s.heap.objs.size + 3 := by rw [Heap.size_push, z2]
  have z4 : (zS4 s.heap x t l2).objs.size = s.heap.objs.size + 4 := by rw [Heap.size_push, z3]
  have z5 : (zS5 s.heap x t l2).objs.size = s.heap.objs.size + 5 := by rw [Heap.size_push, z4]
  have g5 : (zS5 s.heap x t l2).get? (zS4 s.heap x t l2).objs.size = some _ := Heap.get?_push_size _ rfl
  have g4 : (zS5 s.heap x t l2).get? (zS3 s.heap x t l2).objs.size = some _ := Heap.get?_push_of_some _ (Heap.get?_push_size _ rfl)
  have g3 : (zS5 s.heap x t l2).get? (zS2 s.heap x t l2).objs.size = some _ := Heap.get?_push_of_some _ (Heap.get?_push_of_some _ (Heap.get?_push_size _ rfl))
  have g2 : (zS5 s.heap x t l2).get? (zS1 s.heap x t).objs.size = some _ := Heap.get?_push_of_some _ (Heap.get?_push_of_some _ (Heap.get?_push_of_some _ (Heap.get?_push_size _ rfl)))
  have g1 : (zS5 s.heap x t l2).get? s.heap.objs.size = some _ := Heap.get?_push_of_some _ (Heap.get?_push_of_some _ (Heap.get?_push_of_some _ (Heap.get?_push_of_some _ (Heap.get?_push_size _ rfl))))
  show _ ∧ _
  rw [z2, z3, z4] at g5
  rw [z1, z2] at g3
  rw [z3] at g4
  rw [z1] at g2
  rw [z4]
  exact ⟨⟨_, g5, rfl⟩, h _ g5 g3 g4 ⟨_, g1, rfl, rfl⟩ ⟨_, g2, rfl, rfl⟩ z5 fun c o x =>
    Heap.get?_push_of_some _ (Heap.get?_push_of_some _ (Heap.get?_push_of_some _ (Heap.get?_push_of_some _ (Heap.get?_push_of_some _ x))))⟩
end
/-- the signs of z and the items of the tuple at b, in new pairs -/
def ItzS (K : PySem.W.Frag) (z : Str) (b : Addr) : It :=
  ⟨fun i H => ∃ (ys : List V) (c : Nat) (y : V), SqT K H b ys ∧ z.cps[i]? = some c ∧ ys[i]? = some y,
    fun i H v H' => ∃ T c y, v = .ref T ∧ H T = none ∧ H' = upd H T (.tup [.str ⟨#[c]⟩, y]) ∧ z.cps[i]? = some c ∧ ∀ ys, SqT K H b ys → ys[i]? = some y,
    fun i H => z.cps.size ≤ i⟩
theorem turn_zipS {P : Program} {w : World} {K : PySem.W.Frag} {elts : List Expr} {kk : Nat} {tpos : Pos} {zt : Str} {tt : Tok} {b z TI TO i1 i2 : Addr} (D : ZA z TI TO i1 i2 b) :
    Turn P w K (.Tuple elts kk tpos) (ItzS K zt b) [z, TI, TO, i1, i2] z (fun i h => IsZip h z TI TO .none ∧ IsPair h TI (.ref i1) (.ref i2) ∧ (∃ x y, IsPair h TO x y) ∧ SIt h i1 zt tt i ∧ h.IsTupleIter i2 b i) where
  mem := by simp
  obj := fun i h st c hc => by
    obtain ⟨hz, hTI, ⟨x, y, hTO⟩, ⟨o1, e1, _, d1⟩, ⟨o2, e2, _, d2⟩⟩ := st
    have e' : c = z ∨ c = TI ∨ c = TO ∨ c = i1 ∨ c = i2 := by simpa using hc
    rcases e' with q | q | q | q | q
    · rw [q]; exact ⟨_, hz, fun v q => nomatch q⟩
    · rw [q]; exact ⟨_, hTI, fun v q => nomatch q⟩
    · rw [q]; exact ⟨_, hTO, fun v q => nomatch q⟩
    · rw [q]; exact ⟨o1, e1, fun v q => by rw [d1] at q; cases q⟩
    · rw [q]; exact ⟨o2, e2, fun v q => by rw [d2] at q; cases q⟩
  keep := fun i h h' st k => by
    obtain ⟨hz, hTI, ⟨x, y, hTO⟩, h1, h2⟩ := st
    exact ⟨k z (by simp) _ hz, k TI (by simp) _ hTI, ⟨x, y, k TO (by simp) _ hTO⟩, sit_at h1 fun o q => k i1 (by simp) o q, h2.at fun o q => k i2 (by simp) o q⟩
  item := by
    intro X hP hw hK hc i pins s σ H E I hf st hg
    subst hP hw hK
    obtain ⟨hz, hTI, ⟨x0, y0, hTO⟩, h1, h2⟩ := st
    obtain ⟨ys, c, y, hqy, hx, hy⟩ := hg
    obtain ⟨its2, rv2, p2, _⟩ := I.tuple hqy
    obtain ⟨u2, hu2, ru2⟩ := rv2.get hy
    have hzl : z < s.heap.objs.size := Heap.lt_size hz
    refine pyNext_zipS_item D hz hTI hTO h1 h2 p2 (y := u2) hx (by simpa using hu2) fun h' tk tk' z' TO' h1' h2' hT hsz hk => ?_
    refine ⟨_, rfl, wpAny_letOwnedTupleGo_zip (s := { s with heap := h', toks := tk' }) z' fun h'' z'' sb => ?_⟩
    have hT2 : h''.get? s.heap.objs.size = some { cls := .type "tuple", data := .seq #[.str ⟨#[c]⟩ tk, u2] } := (sb.2 _ (Nat.ne_of_gt hzl)).trans hT
    have new : ObjOk X.prog X.w (upd H s.heap.objs.size (.tup [.str ⟨#[c]⟩, y])) h'' s.heap.objs.size (.tup [.str ⟨#[c]⟩, y]) :=
      ⟨by show 2 ≤ sizeLine; decide, [.str ⟨#[c]⟩ tk, u2], .cons ⟨tk, rfl⟩ (.cons ru2 .nil), ⟨_, hT2, rfl, _, rfl⟩⟩
    have I1 : Inv X pins σ (upd H s.heap.objs.size (.tup [.str ⟨#[c]⟩, y])) { s with heap := h'', toks := tk' } :=
      I.turnedNew (t' := tk') (ch := [z, TI, TO, i1, i2]) (fun c o hb q => (sb.2 c (fun q' => hb (by simp [q']))).trans (hk c o (fun q' => hb (by simp [q'])) (fun q' => hb (by simp [q'])) (fun q' => hb (by simp [q'])) (fun q' => hb (by simp [q'])) q)) hf (Nat.le_refl _) new
    obtain ⟨pa, pb, TO'⟩ := TO'
    refine ⟨.ref s.heap.objs.size, _, I1, rfl, ⟨_, c, y, rfl, I.hok.fresh (Nat.le_refl _), rfl, hx, fun l hl => by rw [I.tuple_inj hl hqy]; exact hy⟩, ⟨z'', ?_, ⟨pa, pb, ?_⟩, ?_, ?_⟩, fun c hcm => ?_⟩
    · exact (sb.2 _ D.TIz).trans (hk _ _ D.TIz D.TITO D.TIi1 D.TIi2 hTI)
    · exact (sb.2 _ D.TOz).trans TO'
    · exact sit_at h1' fun o q => (sb.2 _ D.i1z).trans q
    · exact h2'.at fun o q => (sb.2 _ D.i2z).trans q
    · have hlt : c < s.heap.objs.size := by
        have e' : c = z ∨ c = TI ∨ c = TO ∨ c = i1 ∨ c = i2 := by simpa using hcm
        rcases e' with q | q | q | q | q
        · rw [q]; exact hzl
        · rw [q]; exact Heap.lt_size hTI
        · rw [q]; exact Heap.lt_size hTO
        · rw [q]; obtain ⟨_, e1, _⟩ := h1; exact Heap.lt_size e1
        · rw [q]; obtain ⟨_, e2, _⟩ := h2; exact Heap.lt_size e2
      rw [upd_ne (Nat.ne_of_lt hlt)]
      exact (hf c hcm).1
  done := by
    intro X hP hw hK hc i pins s σ H E I hf st hg
    subst hP hw hK
    obtain ⟨hz, hTI, ⟨x0, y0, hTO⟩, h1, h2⟩ := st
    exact pyNext_zipS_end (I.ok.hd hc) D hz hTI hTO h1 (Array.getElem?_eq_none hg) fun h' hk => ⟨rfl, I.turnedL (t' := s.toks) (ch := [z, TI, TO, i1, i2]) (fun c o hb q =>
      hk c o (fun q' => hb (by simp [q'])) (fun q' => hb (by simp [q'])) (fun q' => hb (by simp [q'])) (fun q' => hb (by simp [q'])) q) hf⟩
  self := fun A i s Q E st h => wpAny_pyIter_zip st.1 h
def iZipS (K : PySem.W.Frag) (ta : TA) : TI := fun σ H R => ta σ H fun vs H1 => ∃ (z : Str) (b : Addr) (ys : List V), vs = [.str z, .ref b] ∧ z.cps.all (· < 128) = true ∧ SqT K H1 b ys ∧ R (ItzS K z b) H1
theorem pi_zipST {X : Cx} {e e2 : Expr} {ta : TA} {p pos tpos : Pos} {elts : List Expr} {kk : Nat} (hg : Gl X "zip") (hm : X.mg "zip" = none) (ha : PA X [e, e2] ta)
    (hs : starEach [e, e2] X.env = (false, eval e X.env) :: starEach [e2] X.env := by rfl) (hpl : (backTo pos (starEach [e2] X.env)).any (·.1) = false := by rfl) :
    PI X (.Tuple elts kk tpos) (.Call (.Name "zip" p) [e, e2] [] pos) (iZipS X.K ta) := by
  refine ⟨fun pins s σ H R I h => ?_⟩
  refine Call_ (ld_blt I hg hm PyProof.Rows.boot_zip (PyProof.Rows.callWith_type1 (thn (ha.run pos pins s σ H _ I h) fun us s1 ⟨vs, H1, I1, r1, q1⟩ => ?_) hs hpl))
  obtain ⟨z, b, ys, ex, hasc, hqy, q⟩ := q1
  subst ex
  cases r1 with
  | cons r rr =>
    cases rr with
    | cons r' rr =>
      cases rr
      obtain ⟨t, rfl⟩ := r
      cases r'
      have fresh5 : ∀ c, c ∈ [s1.heap.objs.size + 4, s1.heap.objs.size + 2, s1.heap.objs.size + 3, s1.heap.objs.size, s1.heap.objs.size + 1] → FpOk X pins H1 c := fun c hcm => by
        have e' : c = s1.heap.objs.size + 4 ∨ c = s1.heap.objs.size + 2 ∨ c = s1.heap.objs.size + 3 ∨ c = s1.heap.objs.size ∨ c = s1.heap.objs.size + 1 := by simpa using hcm
        have hle : s1.heap.objs.size ≤ c := by
          rcases e' with z | z | z | z | z
          · rw [z]; exact Nat.le_add_right _ _
          · rw [z]; exact Nat.le_add_right _ _
          · rw [z]; exact Nat.le_add_right _ _
          · rw [z]; exact Nat.le_refl _
          · rw [z]; exact Nat.le_add_right _ _
        exact I1.fpOk hle (I1.hok.fresh hle)
      obtain ⟨its2, rv2, p2, _⟩ := I1.tuple hqy
      obtain ⟨o2, ho2, _⟩ := id p2
      refine call_zipS hasc (show s1.heap.IsTuple b its2.toArray from p2) fun h' hz hTI hTO h1 h2 hsz hk => wpAny_pyIter_zip hz ?_
      have I2 : Inv X pins σ H1 { s1 with heap := h' } := I1.kept (t' := s1.toks) hk
      have hb := Heap.lt_size ho2
      have P := PySem.W.ktu_apart s1.heap.objs.size b b hb hb
      have D : ZA (s1.heap.objs.size + 4) (s1.heap.objs.size + 2) (s1.heap.objs.size + 3) s1.heap.objs.size (s1.heap.objs.size + 1) b :=
        ⟨P.TIz, P.TOz, P.i1z, P.i2z, P.TITO, P.TIi1, P.TIi2, P.TOi1, P.TOi2, P.i12, P.l2z, P.l2TO, P.l2i1, P.l2i2⟩
      exact ⟨s1.heap.objs.size + 4, [s1.heap.objs.size + 4, s1.heap.objs.size + 2, s1.heap.objs.size + 3, s1.heap.objs.size, s1.heap.objs.size + 1], _, _, H1, rfl, I2, turn_zipS D, ⟨hz, hTI, ⟨_, _, hTO⟩, h1, h2⟩, fresh5, q⟩
theorem walk_zipS {K : PySem.W.Frag} {z : Str} {b : Addr} {ys : List V} (hn : z.cps.size = ys.length) : Walk (ItzS K z b) ys.length (fun H => SqT K H b ys) (YPair (fun i => (z.cps[i]?).map fun c => V.str ⟨#[c]⟩) (fun i => ys[i]?)) := by
  refine ⟨fun i _ hi q => ?_, fun _ q => Nat.le_of_eq hn, fun i H v H' _ q y => ?_⟩
  · have h1 : i < z.cps.size := by omega
    exact ⟨ys, z.cps[i], ys[i], q, by simp [h1], by simp [hi]⟩
  · obtain ⟨T, x, z1, h1, h2, h3, h4, h5⟩ := y
    exact ⟨T, .str ⟨#[x]⟩, z1, h1, h2, h3, by simp [h4], h5 ys q⟩
end OH
end

section
set_option Elab.async false
set_option linter.all false
set_option maxRecDepth 100000
set_option maxHeartbeats 4000000
set_option autoImplicit false
namespace OH
open PySem PySem.Spec PyProof.Rows L2
theorem numL_zero : ∀ (n : Nat) (l : List Nat), TL.numL n = 48 :: l → l = [] ∧ n = 0
  | n, l, h => by
    by_cases hn : n < 10
    · rw [TL.numL_lt hn] at h
      obtain ⟨h1, h2⟩ := List.cons.inj h
      exact ⟨h2.symm, by omega⟩
    · rw [TL.numL_step (by omega)] at h
      cases q : TL.numL (n / 10) with
      | nil => exact absurd q (TL.numL_ne _)
      | cons c r =>
        rw [q] at h
        have hc : c = 48 := (List.cons.inj h).1
        rw [hc] at q
        obtain ⟨_, z⟩ := numL_zero (n / 10) r q
        omega
  termination_by n => n
theorem intText_numI (i : Int) (h : IsNum i) {x : Str} (hx : TL.tl x = numI i) : PySem.intText? x = some i := by
  have hl : x.length ≤ 61 := by
    rw [TL.len_tl, hx]
    exact numI_len h
  cases i with
  | ofNat n =>
    have e : numI (Int.ofNat n) = TL.numL n := numI_nat n
    rw [e] at hx
    have hx' : x.cps.toList = TL.numL n := hx
    have z := PySem.intText_digits (x := x) (by rw [hx']; exact TL.numL_digits n) (by rw [hx']; exact TL.numL_ne n) (by omega)
    rw [hx', TL.numL_val] at z
    exact z
  | negSucc m =>
    rw [numI_neg] at hx
    have z := PySem.intText_neg (x := x) hx (TL.numL_digits (m + 1)) (TL.numL_ne _) (by omega)
    rw [TL.numL_val] at z
    exact z
/-- the figures of a number: after the mark -/
theorem numI_form (i : Int) (h : IsNum i) : ∃ m : Nat, (numI i = TL.numL m ∨ (numI i = 45 :: TL.numL m ∧ m ≠ 0)) ∧ m < 10 ^ 60 := by
  cases i with
  | ofNat n =>
    have e : numI (Int.ofNat n) = TL.numL n := numI_nat n
    refine ⟨n, .inl e, ?_⟩
    have z := h.2
    have e2 : ((10 : Int) ^ 60) = ((10 ^ 60 : Nat) : Int) := by decide +kernel
    rw [e2] at z
    exact Int.ofNat_lt.mp z
  | negSucc m =>
    refine ⟨m + 1, .inr ⟨numI_neg m, by omega⟩, ?_⟩
    have z := h.1
    have e2 : ((10 : Int) ^ 60) = ((10 ^ 60 : Nat) : Int) := by decide +kernel
    rw [e2, Int.negSucc_eq] at z
    omega
theorem cut_mid {x : Str} {a b c : List Nat} (h : TL.tl x = a ++ (b ++ c)) : cutS x (some (a.length : Nat)) (some ((a.length + b.length : Nat) : Int)) = ⟨b.toArray⟩ := by
  unfold cutS
  have hl : x.length = a.length + (b.length + c.length) := by rw [TL.len_tl, h, List.length_append, List.length_append]
  have h' : x.cps.toList = a ++ (b ++ c) := h
  rw [HT.sIx_nat, HT.sIx_nat, h', Nat.min_eq_left (by omega), Nat.min_eq_left (by omega), List.drop_left, Nat.add_sub_cancel_left, List.take_left]
theorem cut_midS {x y : Str} {a c : List Nat} (h : TL.tl x = a ++ (TL.tl y ++ c)) : cutS x (some (a.length : Nat)) (some ((a.length + y.length : Nat) : Int)) = y := by
  rw [TL.len_tl y, cut_mid h]
theorem from_ix {n k : Nat} (h : k ≤ n) : PySem.fromIndex n ((k : Nat) : Int) = k := by
  unfold PySem.fromIndex
  split <;> omega
theorem getD_at {x : Str} {a b : List Nat} {c : Nat} (h : TL.tl x = a ++ c :: b) : x.cps.getD a.length 0 = c := by
  have e : x.cps.toList[a.length]? = some c := by
    show (TL.tl x)[a.length]? = some c
    rw [h, List.getElem?_append_right (Nat.le_refl _), Nat.sub_self]
    rfl
  exact PySem.StrLaws.getD_of_getElem? e
theorem find_quote {x : Str} {a y c : List Nat} (h : TL.tl x = a ++ (y ++ 34 :: c)) (hy : ∀ d ∈ y, d ≠ 34) : Txt.find3 x ⟨#[34]⟩ (a.length : Nat) = ((a.length + y.length : Nat) : Int) := by
  have hl : x.length = a.length + (y.length + (c.length + 1)) := by rw [TL.len_tl, h, List.length_append, List.length_append, List.length_cons]
  have hat : x.cps.getD (a.length + y.length) 0 = 34 := by
    rw [← List.length_append]
    exact getD_at (b := c) (by rw [h, List.append_assoc])
  rcases PySem.StrLaws.find3_spec x 34 (a.length : Nat) with ⟨_, hn⟩ | ⟨k, e, h1, h2, h3, h4⟩
  · rw [from_ix (by omega)] at hn
    exact absurd hat (hn _ (by omega) (by omega))
  · rw [from_ix (by omega)] at h1 h4
    rw [e]
    have u : ¬ a.length + y.length < k := fun q => h4 _ (by omega) q hat
    by_cases q : k < a.length + y.length
    · exfalso
      have e2 : x.cps.toList[k]? = some 34 := PySem.StrLaws.getElem?_of_getD h2 h3
      have e3 : (TL.tl x)[k]? = some 34 := e2
      rw [h, List.getElem?_append_right h1, List.getElem?_append_left (by omega)] at e3
      exact hy 34 (List.mem_of_getElem? e3) rfl
    · rw [show k = a.length + y.length by omega]
theorem gd_drop : ∀ {ts : List Tk} (i : Nat), Gd ts → Gd (ts.drop i)
  | _, 0, h => h
  | [], i + 1, h => h
  | .w x :: r, i + 1, h => gd_drop (ts := r) i h.2.2
  | .n x :: r, i + 1, h => gd_drop (ts := r) i h.2.2
  | .t x :: r, i + 1, h => gd_drop (ts := r) i h.2
  | .s x :: r, i + 1, h => gd_drop (ts := r) i h.2
  | .sp :: r, i + 1, h => gd_drop (ts := r) i h
theorem gd_pos {t : Tk} {r : List Tk} (h : Gd (t :: r)) : 1 ≤ t.cs.length := by
  cases t with
  | w x =>
    have := h.1.1.1
    rw [TL.len_tl] at this
    exact this
  | n i =>
    have := numI_ne i
    show 1 ≤ (numI i).length
    exact List.length_pos_iff.mpr this
  | t x =>
    show 1 ≤ (34 :: (TL.tl x ++ [34])).length
    rw [List.length_cons]
    omega
  | s c => exact Nat.le_refl 1
  | sp => exact Nat.le_refl 1
  | e => exact h.elim
theorem gd_len : ∀ {ts : List Tk}, Gd ts → ts.length ≤ (TC ts).length
  | [], _ => Nat.le_refl 0
  | t :: r, h => by
    have h1 := gd_pos h
    have h2 := gd_len (ts := r) (gd_drop 1 h)
    rw [TC_cons, List.length_append, List.length_cons]
    omega
theorem letters_list : (Str.ofString "abcdefghijklmnopqrstuvwxyz").cps.toList = (List.range 26).map (· + 97) := by decide +kernel
theorem letters_iff (c : Nat) : decide (c ∈ (Str.ofString "abcdefghijklmnopqrstuvwxyz").cps.toList) = letB c := by
  rw [letters_list]
  unfold letB
  by_cases h : 97 ≤ c ∧ c ≤ 122
  · rw [decide_eq_true h, decide_eq_true (List.mem_map.mpr ⟨c - 97, List.mem_range.mpr (by omega), by omega⟩)]
  · rw [decide_eq_false h, decide_eq_false fun q => ?_]
    obtain ⟨d, h1, h2⟩ := List.mem_map.mp q
    have := List.mem_range.mp h1
    omega
theorem figs_list : (Str.ofString "0123456789").cps.toList = (List.range 10).map (· + 48) := by decide +kernel
theorem figs_iff (c : Nat) : decide (c ∈ (Str.ofString "0123456789").cps.toList) = decide (48 ≤ c ∧ c ≤ 57) := by
  rw [figs_list]
  by_cases h : 48 ≤ c ∧ c ≤ 57
  · rw [decide_eq_true h, decide_eq_true (List.mem_map.mpr ⟨c - 48, List.mem_range.mpr (by omega), by omega⟩)]
  · rw [decide_eq_false h, decide_eq_false fun q => ?_]
    obtain ⟨d, h1, h2⟩ := List.mem_map.mp q
    have := List.mem_range.mp h1
    omega
theorem signs_list : (Str.ofString "()[]{},:;/").cps.toList = signs := by decide +kernel
theorem signs_iff {c : Nat} (h : c ∈ signs) : decide (c ∈ (Str.ofString "()[]{},:;/").cps.toList) = true := by
  rw [signs_list]
  exact decide_eq_true h
theorem signs_no {c : Nat} (h : c ∉ signs) : decide (c ∈ (Str.ofString "()[]{},:;/").cps.toList) = false := by
  rw [signs_list]
  exact decide_eq_false h
end OH
end

section
set_option Elab.async false
set_option linter.all false
set_option maxRecDepth 100000
set_option maxHeartbeats 4000000
namespace OH
open PySem PySem.Spec PyProof.Rows L2
theorem letters_mem {c : Nat} (h : 97 ≤ c ∧ c ≤ 122) : c ∈ (Str.ofString "abcdefghijklmnopqrstuvwxyz").cps.toList := by
  have e : ((Str.ofString "abcdefghijklmnopqrstuvwxyz").cps.toList) = (List.range 26).map (· + 97) := by decide +kernel
  rw [e]
  exact List.mem_map.mpr ⟨c - 97, List.mem_range.mpr (by omega), by omega⟩
theorem hud_of {A : Around} {k : Nat} (hr : Room k A) : A.units + 64 < cLine := Nat.lt_of_le_of_lt (by omega) hr.un
theorem isi_ii {K : PySem.W.Frag} : PySem.W.kitOne K (.type "int") (.type "int") = some true := kit_ty (by decide +kernel)
theorem isi_ib {K : PySem.W.Frag} : PySem.W.kitOne K (.type "int") (.type "bool") = some false := kit_ty (by decide +kernel)
theorem isi_ss {K : PySem.W.Frag} : PySem.W.kitOne K (.type "str") (.type "str") = some true := kit_ty (by decide +kernel)
theorem isi_tt {K : PySem.W.Frag} : PySem.W.kitOne K (.type "tuple") (.type "tuple") = some true := kit_ty (by decide +kernel)
theorem isi_is {K : PySem.W.Frag} : PySem.W.kitOne K (.type "int") (.type "str") = some false := kit_ty (by decide +kernel)
theorem isi_ts {K : PySem.W.Frag} : PySem.W.kitOne K (.type "tuple") (.type "str") = some false := kit_ty (by decide +kernel)
theorem isi_it {K : PySem.W.Frag} : PySem.W.kitOne K (.type "int") (.type "tuple") = some false := kit_ty (by decide +kernel)
theorem isi_si {K : PySem.W.Frag} : PySem.W.kitOne K (.type "str") (.type "int") = some false := kit_ty (by decide +kernel)
theorem isi_ti {K : PySem.W.Frag} : PySem.W.kitOne K (.type "tuple") (.type "int") = some false := kit_ty (by decide +kernel)
theorem tyx_tup {K : PySem.W.Frag} {H : Hp} {a : Addr} {xs : List V} (h : SqT K H a xs) : TyX K H (.ref a) (.type "tuple") := by
  rcases h with (h | ⟨o, h⟩) | ⟨o, its, n, h, c, _⟩
  · exact .base (.tup h)
  · exact .fTuple h
  · exact .kTuple h c
theorem isname_ne {x : Str} (h : IsName x) : ¬ V.str x = V.str "each" := fun q => h.2 (V.str.inj q)
theorem all_true {α : Type} (l : List α) : ((l.map fun _ => true).all id) = true := by
  rw [List.all_eq_true]
  intro b hb
  obtain ⟨_, _, rfl⟩ := List.mem_map.mp hb
  rfl
/-! ### promises -/
def spIsName : Sp := fun vs H Q _ => ∃ x, vs = [.str x] ∧ IsName x ∧ ∀ H', Same H H' → Q (.bl true) H'
def spIsWhole : Sp := fun vs H Q _ => ∃ i, vs = [.int i] ∧ Q (.bl true) H
def spIsCount : Sp := fun vs H Q _ => ∃ i m, vs = [.int i, .int m] ∧ 0 ≤ i ∧ i ≤ m ∧ Q (.bl true) H
def spAreNamesT (K : PySem.W.Frag) : Sp := fun vs H Q _ => ∃ (a : Addr) (xs : List Str), vs = [.ref a] ∧ SqT K H a (xs.map V.str) ∧ xs.Nodup ∧ (∀ x ∈ xs, IsName x) ∧ xs.length ≤ 8 ∧ ∀ H', Same H H' → Q (.bl true) H'
def spAreNamesL (K : PySem.W.Frag) : Sp := fun vs H Q _ => ∃ (a : Addr) (xs : List Str), vs = [.ref a] ∧ SqL K H a (xs.map V.str) ∧ xs.Nodup ∧ (∀ x ∈ xs, IsName x) ∧ xs.length ≤ 8 ∧ ∀ H', Same H H' → Q (.bl true) H'
def spIsNumberKind (K : PySem.W.Frag) : Sp := fun vs H Q _ => ∃ (a : Addr) (z : Str) (lo hi : Int), vs = [.ref a] ∧ SqT K H a [.str z, .int lo, .int hi] ∧ -(10 ^ 30) ≤ lo ∧ lo ≤ hi ∧ hi ≤ 10 ^ 30 ∧ Q (.bl true) H
def spIsChoiceKind (K : PySem.W.Frag) : Sp := fun vs H Q _ => ∃ (a b : Addr) (z : Str) (xs : List Str), vs = [.ref a] ∧ SqT K H a [.str z, .ref b] ∧ SqT K H b (xs.map V.str) ∧ xs.Nodup ∧ (∀ x ∈ xs, IsName x) ∧ 1 ≤ xs.length ∧ xs.length ≤ 8 ∧ ∀ H', Same H H' → Q (.bl true) H'
def spIsField (K : PySem.W.Frag) : Sp := fun vs H Q _ => ∃ (a : Addr) (x : Str) (v : V), vs = [.ref a] ∧ SqT K H a [.str x, v] ∧ Q (.bl true) H
section
variable {P : Program} {w : World} {K : PySem.W.Frag} {mg : Str → Option Value} {base : Heap}
theorem ok_is_name (T : Txt w K mg) : C8.Cal P w K mg base (1) "is_name" (spIsName) [] := by
  refine calD (tell_is_name T) sc_is_name bind_is_name (fun vs H Q E h => ?_) (fun f cdv A outer s H vs Q E hr h => ?_)
  · obtain ⟨_, rfl, _⟩ := h
    rfl
  obtain ⟨x, rfl, hx, k⟩ := h
  refine ⟨_, (pss_cons (ps_if (PW.pt (pw_or (pt_not (pt_chain op_le op_le pe_int (pe_callB call_len_str (by rfl) T.m_len bt_len (pa_cons (pv 0) pa_nil)) (C8.pe_gc (by rfl) T.g_LONGEST_NAME))) (pw_or1 (pt_cmpR op_eq (pv 0) (C8.pe_gc (by rfl) T.g_EACH) (nomark _)))))
      (pss_one (ps_ret pe_bl))
      pss_nil)
    (pss_one (ps_ret (pe_callB (cr_all rfl) (by rfl) T.m_all bt_all (pa_cons (pe_lc (own := [("sign", 1)]) (by rfl) sc_is_name.nd (pi_str (pv 0)) (blkOk_by (own := [("sign", 1)]) (N := ["text", "sign"]) (sc := defScope s_is_name) (by decide +kernel)) (fun _ _ _ _ _ => (pg_name (i := 1) sc_is_name.nd rfl (by first | exact Or.inl rfl | exact Or.inr rfl))) (fun _ _ _ _ _ => pts_nil) (fun _ _ _ _ _ => (pe_cmpR op_in_sign (pv 1) (C8.pe_gc (by rfl) T.g_LETTERS_kinds) rfl))) pa_nil))))), ?_⟩
  have e1 : decide ((1 : Int) ≤ (x.length : Int)) = true := decide_eq_true (by have := hx.1.1.1; omega)
  have e2 : decide ((x.length : Int) ≤ 8) = true := decide_eq_true (by have := hx.1.1.2; omega)
  refine ⟨_, rfl, x, rfl, Nat.le_trans hx.1.1.2 (by decide), _, _, rfl, rfl, _, rfl, if_t e1 ⟨_, _, rfl, rfl, _, rfl, ?_⟩⟩
  refine if_f (by rw [e2] <;> rfl) ?_
  refine ⟨_, rfl, rfl, _, rfl, if_f (decide_eq_false (isname_ne hx)) ?_⟩
  refine ⟨_, rfl, x, rfl, fun D nD => ?_⟩
  refine lcP walk_str (fun _ => .bl true) nD (Nat.lt_of_le_of_lt hx.1.1.2 (by decide)) (fun _ _ => True.intro) (fun i v H1 H2 Q1 hi e1 y k1 => ?_) (fun H1 e1 hD => ?_)
  · obtain ⟨rfl, c, hc, rfl⟩ := y
    refine ⟨rfl, _, rfl, c, _, rfl, rfl, ?_⟩
    exact bl_t (decide_eq_true (letters_mem (hx.1.2 c (Array.mem_toList_iff.mpr (Array.mem_of_getElem? hc))))) (k1 _ (Same.refl _))
  · refine ⟨D, (List.range x.cps.size).map fun _ => true, rfl, SqL.of (by rw [hD, List.map_map]; rfl), ?_⟩
    exact bl_t (all_true _) (k _ e1)
theorem ok_is_whole (T : Txt w K mg) : C8.Cal P w K mg base (1) "is_whole" (spIsWhole) [] := by
  refine calD (tell_is_whole T) sc_is_whole bind_is_whole (fun vs H Q E h => ?_) (fun f cdv A outer s H vs Q E hr h => ?_)
  · obtain ⟨_, rfl, _⟩ := h
    rfl
  obtain ⟨i, rfl, k⟩ := h
  refine ⟨_, (pss_one (ps_ret (pe_and (pe_callB call_isi (by rfl) T.m_isinstance bt_isinstance (pa_cons (pv 0) (pa_cons (pe_bltn (v := .ty "int") (by rfl) T.m_int bt_int rfl) pa_nil))) (pe_one (pe_not (pe_callB call_isi (by rfl) T.m_isinstance bt_isinstance (pa_cons (pv 0) (pa_cons (pe_bltn (v := .ty "bool") (by rfl) T.m_bool bt_bool rfl) pa_nil)))))))), ?_⟩
  exact ⟨_, rfl, _, _, _, _, _, rfl, .ty _, .base (.int i), isi_ii, _, rfl, if_t rfl ⟨_, rfl, _, _, _, _, _, rfl, .ty _, .base (.int i), isi_ib, _, rfl, k⟩⟩
theorem ok_is_count (T : Txt w K mg) : C8.Cal P w K mg base (2) "is_count" (spIsCount) [] := by
  refine calD (tell_is_count T) sc_is_count bind_is_count (fun vs H Q E h => ?_) (fun f cdv A outer s H vs Q E hr h => ?_)
  · obtain ⟨_, _, rfl, _⟩ := h
    rfl
  obtain ⟨i, m, rfl, h0, h1, k⟩ := h
  refine ⟨_, (pss_one (ps_ret (pe_and (C8.pe_c (ok_is_whole T) hr (by decide) (by rfl) (pa_cons (pv 0) pa_nil)) (pe_one (pe_chain op_le op_le pe_int (pv 0) (pv 1)))))), ?_⟩
  refine ⟨_, rfl, i, rfl, _, rfl, if_t rfl ⟨_, rfl, _, _, rfl, rfl, _, rfl, if_t (decide_eq_true h0) ⟨_, rfl, _, _, rfl, rfl, ?_⟩⟩⟩
  exact bl_t (decide_eq_true h1) k
theorem ok_are_namesT (T : Txt w K mg) : C8.Cal P w K mg base (2) "are_names" (spAreNamesT K) [] := by
  refine calD (tell_are_names T) sc_are_names bind_are_names (fun vs H Q E h => ?_) (fun f cdv A outer s H vs Q E hr h => ?_)
  · obtain ⟨_, _, rfl, _⟩ := h
    rfl
  obtain ⟨a, xs, rfl, hS, nd, hx, hl, k⟩ := h
  refine ⟨_, (pss_cons (ps_if (pt_not (pt_val (pe_callB (cr_all rfl) (by rfl) T.m_all bt_all (pa_cons (pe_lc (own := [("thing", 1)]) (by rfl) sc_are_names.nd (pi_tup (pv 0)) (blkOk_by (own := [("thing", 1)]) (N := ["things", "thing"]) (sc := defScope s_are_names) (by decide +kernel)) (fun _ _ _ _ _ => (pg_name (i := 1) sc_are_names.nd rfl (by first | exact Or.inl rfl | exact Or.inr rfl))) (fun _ _ _ _ _ => pts_nil) (fun _ _ _ _ _ => (pe_and (pe_callB (show CallR _ _ (rIsi K) from call_isi) (by rfl) T.m_isinstance bt_isinstance (pa_cons (pv 1) (pa_cons (pe_bltn (v := .ty "str") (by rfl) T.m_str bt_str rfl) pa_nil))) (pe_one (C8.pe_c (ok_is_name T) hr (by decide) (by rfl) (pa_cons (pv 1) pa_nil)))))) pa_nil))))
      (pss_one (ps_ret pe_bl))
      pss_nil)
    (pss_one (ps_ret (pe_cmpR op_eq (pe_lenSetS (by rfl) (by rfl) T.m_len (by rfl) T.m_set (pv 0)) (pe_callB call_len_seq (by rfl) T.m_len bt_len (pa_cons (pv 0) pa_nil)) (nomark _))))), ?_⟩
  refine ⟨_, rfl, a, rfl, ⟨_, hS⟩, fun D nD => ?_⟩
  have hlen : (xs.map V.str).length = xs.length := List.length_map _
  refine lcP walk_tup (fun _ => .bl true) nD (by rw [hlen]; exact Nat.lt_of_le_of_lt hl (by decide)) (fun _ e => (Kx.same (M := M0) e).sqT NoT.zero hS) (fun i v H1 H2 Q1 hi e1 y k1 => ?_) (fun H1 e1 hD => ?_)
  · obtain ⟨rfl, hv⟩ := y
    obtain ⟨x, hm, rfl⟩ : ∃ x, x ∈ xs ∧ v = V.str x := by
      obtain ⟨x, h1, h2⟩ := List.mem_map.mp (List.mem_of_getElem? hv)
      exact ⟨x, h1, h2.symm⟩
    exact ⟨rfl, _, rfl, _, _, _, _, _, rfl, .ty _, .base (.str x), isi_ss, _, rfl, if_t rfl ⟨_, rfl, x, rfl, hx x hm, fun H' e' => k1 H' e'⟩⟩
  · refine ⟨D, (List.range (xs.map V.str).length).map fun _ => true, rfl, SqL.of (by rw [hD, List.map_map]; rfl), _, rfl, ?_⟩
    have hS1 := (Kx.same (M := M0) e1).sqT NoT.zero hS
    refine if_f (by rw [all_true] <;> rfl) ⟨_, rfl, a, xs, rfl, .inr hS1, nd, by omega, _, rfl, a, _, rfl, .inr hS1, rfl, ?_⟩
    exact bl_t (decide_eq_true (by rw [hlen])) (k _ e1)
theorem ok_are_namesL (T : Txt w K mg) : C8.Cal P w K mg base (2) "are_names" (spAreNamesL K) [] := by
  refine calD (tell_are_names T) sc_are_names bind_are_names (fun vs H Q E h => ?_) (fun f cdv A outer s H vs Q E hr h => ?_)
  · obtain ⟨_, _, rfl, _⟩ := h
    rfl
  obtain ⟨a, xs, rfl, hS, nd, hx, hl, k⟩ := h
  refine ⟨_, (pss_cons (ps_if (pt_not (pt_val (pe_callB (cr_all rfl) (by rfl) T.m_all bt_all (pa_cons (pe_lc (own := [("thing", 1)]) (by rfl) sc_are_names.nd (pi_list (pv 0)) (blkOk_by (own := [("thing", 1)]) (N := ["things", "thing"]) (sc := defScope s_are_names) (by decide +kernel)) (fun _ _ _ _ _ => (pg_name (i := 1) sc_are_names.nd rfl (by first | exact Or.inl rfl | exact Or.inr rfl))) (fun _ _ _ _ _ => pts_nil) (fun _ _ _ _ _ => (pe_and (pe_callB (show CallR _ _ (rIsi K) from call_isi) (by rfl) T.m_isinstance bt_isinstance (pa_cons (pv 1) (pa_cons (pe_bltn (v := .ty "str") (by rfl) T.m_str bt_str rfl) pa_nil))) (pe_one (C8.pe_c (ok_is_name T) hr (by decide) (by rfl) (pa_cons (pv 1) pa_nil)))))) pa_nil))))
      (pss_one (ps_ret pe_bl))
      pss_nil)
    (pss_one (ps_ret (pe_cmpR op_eq (pe_lenSetS (by rfl) (by rfl) T.m_len (by rfl) T.m_set (pv 0)) (pe_callB call_len_seq (by rfl) T.m_len bt_len (pa_cons (pv 0) pa_nil)) (nomark _))))), ?_⟩
  refine ⟨_, rfl, a, rfl, ⟨_, hS⟩, fun D nD => ?_⟩
  have hlen : (xs.map V.str).length = xs.length := List.length_map _
  refine lcP walk_list (fun _ => .bl true) nD (by rw [hlen]; exact Nat.lt_of_le_of_lt hl (by decide)) (fun _ e => e.seq hS) (fun i v H1 H2 Q1 hi e1 y k1 => ?_) (fun H1 e1 hD => ?_)
  · obtain ⟨rfl, hv⟩ := y
    obtain ⟨x, hm, rfl⟩ : ∃ x, x ∈ xs ∧ v = V.str x := by
      obtain ⟨x, h1, h2⟩ := List.mem_map.mp (List.mem_of_getElem? hv)
      exact ⟨x, h1, h2.symm⟩
    exact ⟨rfl, _, rfl, _, _, _, _, _, rfl, .ty _, .base (.str x), isi_ss, _, rfl, if_t rfl ⟨_, rfl, x, rfl, hx x hm, fun H' e' => k1 H' e'⟩⟩
  · refine ⟨D, (List.range (xs.map V.str).length).map fun _ => true, rfl, SqL.of (by rw [hD, List.map_map]; rfl), _, rfl, ?_⟩
    have hS1 := e1.seq hS
    refine if_f (by rw [all_true] <;> rfl) ⟨_, rfl, a, xs, rfl, .inl hS1, nd, by omega, _, rfl, a, _, rfl, .inl hS1, rfl, ?_⟩
    exact bl_t (decide_eq_true (by rw [hlen])) (k _ e1)
theorem ten30 : ((10 : Int) ^ 30) = 1000000000000000000000000000000 := by decide
theorem ok_is_number_kind (T : Txt w K mg) : C8.Cal P w K mg base (2) "is_number_kind" (spIsNumberKind K) [] := by
  refine calD (tell_is_number_kind T) sc_is_number_kind bind_is_number_kind (fun vs H Q E h => ?_) (fun f cdv A outer s H vs Q E hr h => ?_)
  · obtain ⟨_, _, _, _, rfl, _⟩ := h
    rfl
  obtain ⟨a, z, lo, hi, rfl, hS, h1, h2, h3, k⟩ := h
  refine ⟨_, (pss_cons (ps_if (PW.pt (pw_or (pt_cmpR op_ne (pe_callB call_len_seq (by rfl) T.m_len bt_len (pa_cons (pv 0) pa_nil)) pe_int (nomark _)) (pw_or (pt_not (pt_val (C8.pe_c (ok_is_whole T) hr (by decide) (by rfl) (pa_cons (pe_ix ix_tup (pv 0) pe_int (fun _ _ => rfl)) pa_nil)))) (pw_or1 (pt_not (pt_val (C8.pe_c (ok_is_whole T) hr (by decide) (by rfl) (pa_cons (pe_ix ix_tup (pv 0) pe_int (fun _ _ => rfl)) pa_nil))))))))
      (pss_one (ps_ret pe_bl))
      pss_nil)
    (pss_one (ps_ret (pe_chain3 op_le op_le op_le (pe_un un_neg (C8.pe_gc (by rfl) T.g_MOST_NUMBER)) (pe_ix ix_tup (pv 0) pe_int (fun _ _ => rfl)) (pe_ix ix_tup (pv 0) pe_int (fun _ _ => rfl)) (C8.pe_gc (by rfl) T.g_MOST_NUMBER))))), ?_⟩
  rw [ten30] at h1 h3
  refine ⟨_, rfl, a, _, rfl, .inr hS, rfl, _, rfl, if_f rfl ?_⟩
  refine ⟨_, rfl, a, _, _, _, rfl, rfl, hS, rfl, lo, rfl, _, rfl, if_f rfl ?_⟩
  refine ⟨_, rfl, a, _, _, _, rfl, rfl, hS, rfl, hi, rfl, _, rfl, if_f rfl ?_⟩
  refine ⟨_, rfl, _, rfl, a, _, _, _, rfl, rfl, hS, rfl, _, _, rfl, rfl, _, rfl, if_t (decide_eq_true h1) ?_⟩
  refine ⟨_, rfl, a, _, _, _, rfl, rfl, hS, rfl, _, _, rfl, rfl, _, rfl, if_t (decide_eq_true h2) ?_⟩
  exact ⟨_, _, rfl, rfl, bl_t (decide_eq_true h3) k⟩
theorem ok_is_choice_kind (T : Txt w K mg) : C8.Cal P w K mg base (3) "is_choice_kind" (spIsChoiceKind K) [] := by
  refine calD (tell_is_choice_kind T) sc_is_choice_kind bind_is_choice_kind (fun vs H Q E h => ?_) (fun f cdv A outer s H vs Q E hr h => ?_)
  · obtain ⟨_, _, _, _, rfl, _⟩ := h
    rfl
  obtain ⟨a, b, z, xs, rfl, hS, hb, nd, hx, h1, h2, k⟩ := h
  refine ⟨_, (pss_cons (ps_if (PW.pt (pw_or (pt_cmpR op_ne (pe_callB call_len_seq (by rfl) T.m_len bt_len (pa_cons (pv 0) pa_nil)) pe_int (nomark _)) (pw_or (pt_not (pt_val (pe_callB call_isi (by rfl) T.m_isinstance bt_isinstance (pa_cons (pe_ix ix_tup (pv 0) pe_int (fun _ _ => rfl)) (pa_cons (pe_bltn (v := .ty "tuple") (by rfl) T.m_tuple bt_tuple rfl) pa_nil))))) (pw_or1 (pt_not (pt_chain op_le op_le pe_int (pe_callB call_len_seq (by rfl) T.m_len bt_len (pa_cons (pe_ix ix_tup (pv 0) pe_int (fun _ _ => rfl)) pa_nil)) (C8.pe_gc (by rfl) T.g_MOST_WORDS)))))))
      (pss_one (ps_ret pe_bl))
      pss_nil)
    (pss_one (ps_ret (C8.pe_c (ok_are_namesT T) hr (by decide) (by rfl) (pa_cons (pe_ix ix_tup (pv 0) pe_int (fun _ _ => rfl)) pa_nil))))), ?_⟩
  have hlen : (xs.map V.str).length = xs.length := List.length_map _
  refine ⟨_, rfl, a, _, rfl, .inr hS, rfl, _, rfl, if_f rfl ?_⟩
  refine ⟨_, rfl, a, _, _, _, rfl, rfl, hS, rfl, _, _, _, _, _, rfl, .ty _, tyx_tup hb, isi_tt, _, rfl, if_f rfl ?_⟩
  refine ⟨_, rfl, a, _, _, _, rfl, rfl, hS, rfl, b, _, rfl, .inr hb, _, _, rfl, rfl, _, rfl, if_t (decide_eq_true (by rw [hlen]; omega)) ⟨_, _, rfl, rfl, _, rfl, ?_⟩⟩
  have e2 : decide ((((xs.map V.str).length : Nat) : Int) ≤ 8) = true := decide_eq_true (by rw [hlen]; omega)
  refine if_f (by rw [e2] <;> rfl) ?_
  exact ⟨_, rfl, a, _, _, _, rfl, rfl, hS, rfl, b, xs, rfl, hb, nd, hx, h2, k⟩
theorem ok_is_field (T : Txt w K mg) : C8.Cal P w K mg base (1) "is_field" (spIsField K) [] := by
  refine calD (tell_is_field T) sc_is_field bind_is_field (fun vs H Q E h => ?_) (fun f cdv A outer s H vs Q E hr h => ?_)
  · obtain ⟨_, _, _, rfl, _⟩ := h
    rfl
  obtain ⟨a, x, v, rfl, hS, k⟩ := h
  refine ⟨_, (pss_one (ps_ret (pe_and (pe_callB call_isi (by rfl) T.m_isinstance bt_isinstance (pa_cons (pv 0) (pa_cons (pe_bltn (v := .ty "tuple") (by rfl) T.m_tuple bt_tuple rfl) pa_nil))) (pe_and (pe_cmpR op_eq (pe_callB call_len_seq (by rfl) T.m_len bt_len (pa_cons (pv 0) pa_nil)) pe_int (nomark _)) (pe_one (pe_callB call_isi (by rfl) T.m_isinstance bt_isinstance (pa_cons (pe_ix ix_tup (pv 0) pe_int (fun _ _ => rfl)) (pa_cons (pe_bltn (v := .ty "str") (by rfl) T.m_str bt_str rfl) pa_nil)))))))), ?_⟩
  refine ⟨_, rfl, _, _, _, _, _, rfl, .ty _, tyx_tup hS, isi_tt, _, rfl, if_t rfl ?_⟩
  refine ⟨_, rfl, a, _, rfl, .inr hS, rfl, _, rfl, if_t rfl ?_⟩
  exact ⟨_, rfl, a, _, _, _, rfl, rfl, hS, rfl, _, _, _, _, _, rfl, .ty _, .base (.str x), isi_ss, k⟩
end
end OH
end

section
set_option Elab.async false
set_option linter.all false
set_option maxRecDepth 100000
set_option maxHeartbeats 4000000
set_option autoImplicit false
namespace OH
open PySem PySem.Spec PyProof.Rows L2
theorem pair_of {K : PySem.W.Frag} {H : Hp} {v : V} {x : Str} {d : PyData} (h : Rp K H v (pairD x d)) : ∃ b u, v = .ref b ∧ SqT K H b [.str x, u] ∧ Rp K H u d := by
  obtain ⟨b, xs, rfl, h1, h2⟩ := h.tup_of
  obtain ⟨v1, r, rfl, h3, h4⟩ := RpA.cons_of h2
  obtain ⟨v2, r, rfl, h5, h6⟩ := RpA.cons_of h4
  rw [RpA.nil_of h6, h3.str_of] at h1
  exact ⟨b, v2, rfl, h1, h5⟩
theorem RpA.back {K : PySem.W.Frag} {H : Hp} : ∀ {vs : List V} {ds : List PyData} {i : Nat} {v : V}, RpA K H vs ds → vs[i]? = some v → ∃ d, ds[i]? = some d ∧ Rp K H v d
  | _, _, _, _, .nil, h => by simp at h
  | _, _, 0, _, .cons h _, e => by
    simp at e
    subst e
    exact ⟨_, rfl, h⟩
  | _, _, i + 1, v, .cons _ t, e => by
    obtain ⟨d, h1, h2⟩ := RpA.back (i := i) (v := v) t (by simpa using e)
    exact ⟨d, by simpa using h1, h2⟩
theorem field_at {K : PySem.W.Frag} {H : Hp} {rs : List V} {fs : List Fld} {i : Nat} {v : V} (h : RpA K H rs (fs.map fun f => pairD f.x f.k)) (e : rs[i]? = some v) :
    ∃ f b u, fs[i]? = some f ∧ v = .ref b ∧ SqT K H b [.str f.x, u] ∧ Rp K H u f.k := by
  obtain ⟨d, h1, h2⟩ := h.back e
  rw [List.getElem?_map] at h1
  cases q : fs[i]? with
  | none =>
    rw [q] at h1
    cases h1
  | some f =>
    rw [q] at h1
    have e1 : pairD f.x f.k = d := Option.some.inj h1
    rw [← e1] at h2
    obtain ⟨b, u, h3, h4, h5⟩ := pair_of h2
    exact ⟨f, b, u, rfl, h3, h4, h5⟩
def spAreFields (K : PySem.W.Frag) : Sp := fun vs H Q _ => ∃ (a : Addr) (rs : List V) (fs : List Fld), vs = [.ref a] ∧ SqT K H a rs ∧ RpA K H rs (fs.map fun f => pairD f.x f.k) ∧ fs.length ≤ 8 ∧ (∀ f ∈ fs, IsName f.x) ∧ (fs.map (·.x)).Pairwise nameLt ∧
  ∀ H', Same H H' → Q (.bl true) H'
def spFieldKind (K : PySem.W.Frag) : Sp := fun vs H Q _ => ∃ (a b : Addr) (z : Str) (rs : List V) (fs : List Fld) (f : Fld), vs = [.ref a, .str f.x] ∧ SqT K H a [.str z, .ref b] ∧ SqT K H b rs ∧ RpA K H rs (fs.map fun f => pairD f.x f.k) ∧ f ∈ fs ∧ (fs.map (·.x)).Pairwise nameLt ∧
  ∀ v, Rp K H v f.k → Q v H
def spHasKey (K : PySem.W.Frag) : Sp := fun vs H Q _ => ∃ (v : V) (fs : List Fld) (f : Fld) (z : Str) (r : List PyData), vs = [v, .str f.x] ∧ Rp K H v (recD fs) ∧ fs.length ≤ 8 ∧ (∀ f ∈ fs, IsName f.x) ∧ (fs.map (·.x)).Pairwise nameLt ∧ f ∈ fs ∧ f.k = .tuple (.str z :: r) ∧ (z = "number" ∨ z = "text") ∧
  ∀ H', Same H H' → Q (.bl true) H'
theorem strs_dp {K : PySem.W.Frag} {H : Hp} : ∀ {xs : List Str}, DpAll K H (xs.map V.str) (xs.map PyData.str)
  | [] => .nil
  | x :: xs => .cons (.str x) strs_dp
theorem strs_lay {xs : List Str} (h : ∀ x ∈ xs, PyData.strOk x = true) : PyData.canLayAll0 (xs.map PyData.str) = true := canLayAll_of fun d hd => by
  obtain ⟨x, hx, rfl⟩ := List.mem_map.mp hd
  unfold PyData.canLay0
  exact h x hx
theorem strs_shaped {xs : List Str} (h : ∀ x ∈ xs, PyData.strOk x = true) : SeqAt.shaped (.list (xs.map PyData.str)) = true := by
  have h2 : PyData.depth (.list (xs.map PyData.str)) ≤ 64 := by
    have z := depthAll_of (n := 0) (ds := xs.map PyData.str) fun d hd => by
      obtain ⟨x, hx, rfl⟩ := List.mem_map.mp hd
      simp [PyData.depth]
    unfold PyData.depth
    omega
  show (PyData.canLay0 (.list (xs.map PyData.str)) && decide (PyData.depth (.list (xs.map PyData.str)) ≤ 64)) = true
  rw [decide_eq_true h2]
  unfold PyData.canLay0
  rw [strs_lay h]
  rfl
theorem strs_eqv {xs : List Str} (h : ∀ x ∈ xs, PyData.strOk x = true) : PyData.eqv (.list (xs.map PyData.str)) (.list (xs.map PyData.str)) = true := PySem.SeqAt.eqv_refl _ (by
  unfold PyData.canLay0
  exact strs_lay h)
section
variable {P : Program} {w : World} {K : PySem.W.Frag} {mg : Str → Option Value} {base : Heap}
theorem ok_are_fields (T : Txt w K mg) : C8.Cal P w K mg base (3) "are_fields" (spAreFields K) [] := by
  refine calD (tell_are_fields T) sc_are_fields bind_are_fields (fun vs H Q E h => ?_) (fun f cdv A outer s H vs Q E hr h => ?_)
  · obtain ⟨_, _, _, rfl, _⟩ := h
    rfl
  obtain ⟨a, rs, fs, rfl, hS, hR, hl, hx, hp, k⟩ := h
  refine ⟨_, (pss_cons (ps_if (PW.pt (pw_or (pt_not (pt_val (pe_callB call_isi (by rfl) T.m_isinstance bt_isinstance (pa_cons (pv 0) (pa_cons (pe_bltn (v := .ty "tuple") (by rfl) T.m_tuple bt_tuple rfl) pa_nil))))) (pw_or1 (pt_cmpR op_gt (pe_callB call_len_seq (by rfl) T.m_len bt_len (pa_cons (pv 0) pa_nil)) (C8.pe_gc (by rfl) T.g_MOST_FIELDS) (nomark _)))))
      (pss_one (ps_ret pe_bl))
      pss_nil)
    (pss_cons (ps_if (pt_not (pt_val (pe_callB (cr_all rfl) (by rfl) T.m_all bt_all (pa_cons (pe_lc (own := [("thing", 2)]) (by rfl) sc_are_fields.nd (pi_tup (pv 0)) (blkOk_by (own := [("thing", 2)]) (N := ["things", "names", "thing"]) (sc := defScope s_are_fields) (by decide +kernel)) (fun _ _ _ _ _ => (pg_name (i := 2) sc_are_fields.nd rfl (by first | exact Or.inl rfl | exact Or.inr rfl))) (fun _ _ _ _ _ => pts_nil) (fun _ _ _ _ _ => (C8.pe_c (ok_is_field T) hr (by decide) (by rfl) (pa_cons (pv 2) pa_nil)))) pa_nil))))
      (pss_one (ps_ret pe_bl))
      pss_nil)
    (pss_cons (ps_setLc (i := 1) (own := [("thing", 2)]) (by rfl) sc_are_fields.nd rfl rfl (sw_true rfl rfl rfl (by decide +kernel)) (pi_tup (pv 0)) (blkOk_by (own := [("thing", 2)]) (N := ["things", "names", "thing"]) (sc := defScope s_are_fields) (by decide +kernel)) (fun _ _ _ _ _ => (pg_name (i := 2) sc_are_fields.nd rfl (by first | exact Or.inl rfl | exact Or.inr rfl))) (fun _ _ _ _ _ => pts_nil) (fun _ _ _ _ _ => (pe_ix (show IxR _ (rIxT K) from ix_tup) (pv 2) pe_int (fun _ _ => rfl))))
    (pss_one (ps_ret (pe_and (C8.pe_c (ok_are_namesL T) hr (by decide) (by rfl) (pa_cons (pv 1) pa_nil)) (pe_one (pe_cmpR (op_eqD (hud_of hr)) (pv 1) (pe_callB cr_sortedS (by rfl) T.m_sorted bt_sorted (pa_cons (pv 1) pa_nil)) (nomark _))))))))), ?_⟩
  have hlen : rs.length = fs.length := by rw [hR.length, List.length_map]
  refine ⟨_, rfl, _, _, _, _, _, rfl, .ty _, tyx_tup hS, isi_tt, _, rfl, if_f rfl ?_⟩
  refine ⟨_, rfl, a, _, rfl, .inr hS, _, _, rfl, rfl, _, rfl, if_f (decide_eq_false (by omega)) ?_⟩
  refine ⟨_, rfl, a, rfl, ⟨_, hS⟩, fun D nD => ?_⟩
  have hsz : rs.length < sizeLine := by
    rw [hlen]
    exact Nat.lt_of_le_of_lt hl (by decide)
  refine lcP walk_tup (fun _ => .bl true) nD hsz (fun _ e => (Kx.same (M := M0) e).sqT NoT.zero hS) (fun i v H1 H2 Q1 hi e1 y k1 => ?_) (fun H1 e1 hD => ?_)
  · obtain ⟨rfl, hv⟩ := y
    obtain ⟨f, b, u, h1, rfl, h3, h4⟩ := field_at (hR.sm e1) hv
    exact ⟨rfl, _, rfl, b, f.x, u, rfl, h3, k1 _ (Same.refl _)⟩
  refine ⟨D, (List.range rs.length).map fun _ => true, rfl, SqL.of (by rw [hD, List.map_map]; rfl), _, rfl, if_f (by rw [all_true] <;> rfl) ?_⟩
  have hS1 := (Kx.same (M := M0) e1).sqT NoT.zero hS
  have hR1 := hR.sm e1
  refine ⟨_, rfl, a, rfl, ⟨_, hS1⟩, fun D2 nD2 => ?_⟩
  refine lcP walk_tup (fun i => ((fs[i]?).map fun f => V.str f.x).getD .non) nD2 hsz (fun _ e => (Kx.same (M := M0) e).sqT NoT.zero hS1) (fun i v H1 H2 Q1 hi e1 y k1 => ?_) (fun H2 e2 hD2 => ?_)
  · obtain ⟨rfl, hv⟩ := y
    obtain ⟨f, b, u, h1, rfl, h3, h4⟩ := field_at (hR1.sm e1) hv
    refine ⟨rfl, _, rfl, b, _, _, _, rfl, rfl, h3, rfl, ?_⟩
    have z := k1 _ (Same.refl _)
    rw [h1] at z
    exact z
  have hN : H2 D2 = some (.lst ((fs.map (·.x)).map V.str)) := by
    rw [hD2, hlen, List.map_map, range_map_get (f := fun f : Fld => V.str f.x) fs fun i f h => by rw [h]; rfl]
    rfl
  have hnd := lt_nodup hp
  have hxs : ∀ x ∈ fs.map (·.x), IsName x := fun x h => by
    obtain ⟨f, hf, rfl⟩ := List.mem_map.mp h
    exact hx f hf
  have hl2 : (fs.map (·.x)).length ≤ 8 := by
    rw [List.length_map]
    exact hl
  have hok : ∀ x ∈ fs.map (·.x), PyData.strOk x = true := fun x h => (hxs x h).1.ok
  refine ⟨_, rfl, D2, fs.map (·.x), rfl, SqL.of hN, hnd, hxs, hl2, fun H3 e3 => ⟨_, rfl, if_t rfl ?_⟩⟩
  have hN3 := e3 _ _ hN
  refine ⟨_, rfl, _, rfl, D2, fs.map (·.x), rfl, SqL.of hN3, Nat.lt_of_le_of_lt hl2 (by decide), fun ys p hperm hsort np => ?_⟩
  have ey := sorted_same hp hperm hsort
  subst ey
  have np2 : p ≠ D2 := fun q => by
    rw [q, hN3] at np
    cases np
  refine ⟨_, _, .lst (SqL.of (by rw [upd_ne np2.symm]; exact hN3)) strs_dp, .lst (SqL.of upd_same) strs_dp, strs_shaped hok, strs_shaped hok, ?_⟩
  exact bl_t (strs_eqv hok) (k _ (((e1.trans e2).trans e3).trans (Kx.new _ np).to))
theorem ok_field_kind (T : Txt w K mg) : C8.Cal P w K mg base (1) "field_kind" (spFieldKind K) [] := by
  refine calD (tell_field_kind T) sc_field_kind bind_field_kind (fun vs H Q E h => ?_) (fun f cdv A outer s H vs Q E hr h => ?_)
  · obtain ⟨_, _, _, _, _, _, rfl, _⟩ := h
    rfl
  obtain ⟨a, b, z, rs, fs, f, rfl, hS, hb, hR, hf, hp, k⟩ := h
  refine ⟨_, (pss_cons (ps_for PassesOwn.never rfl (pi_tup (pe_ix ix_tup (pv 0) pe_int (fun _ _ => rfl))) (pg_tup rfl (pgs_cons (pg_name (i := 2) sc_field_kind.nd rfl (by first | exact Or.inl rfl | exact Or.inr rfl)) (pgs_cons (pg_name (i := 3) sc_field_kind.nd rfl (by first | exact Or.inl rfl | exact Or.inr rfl)) pgs_nil)))
      (pss_one (ps_if (pt_cmpR op_eq (pv 2) (pv 1) (nomark _))
        (pss_one (ps_ret (pv 3)))
        pss_nil)))
    (pss_one (ps_ret pe_non))), ?_⟩
  refine ⟨_, rfl, a, _, _, _, rfl, rfl, hS, rfl, b, rfl, ⟨_, hb⟩, ?_⟩
  have hnd := lt_nodup hp
  obtain ⟨j, hj, ej⟩ := List.mem_iff_getElem.mp hf
  have hjr : j < rs.length := by rw [hR.length, List.length_map]; exact hj
  refine for_it (D := { nx := _, rt := _ }) walk_tup (fun i σ H' => H' = H ∧ i ≤ j ∧ ∃ y2 y3, σ = [some (.ref a), some (.str f.x), y2, y3]) ⟨rfl, Nat.zero_le _, none, none, rfl⟩ (fun i σ H' _ ⟨e, _⟩ => e ▸ hb) (fun i v σ H1 H2 hi hP y => ?_) (fun σ H' ⟨_, h2, _⟩ => ?_)
  · obtain ⟨rfl, hij, y2, y3, rfl⟩ := hP
    obtain ⟨rfl, hv⟩ := y
    obtain ⟨g, c, u, h1, rfl, h3, h4⟩ := field_at hR hv
    refine ⟨c, _, rfl, h3, rfl, _, _, rfl, _, _, rfl, rfl, ?_⟩
    by_cases e : i = j
    · subst e
      have eg : g = f := by
        rw [List.getElem?_eq_getElem hj, ej] at h1
        exact (Option.some.inj h1).symm
      subst eg
      refine ⟨_, rfl, _, rfl, rfl, _, rfl, if_t (decide_eq_true rfl) ?_⟩
      exact ⟨_, rfl, k u h4⟩
    · have ne : g.x ≠ f.x := fun q => e (nd_ix hnd (x := f.x) (by rw [List.getElem?_map, h1, ← q]; rfl) (by rw [List.getElem?_map, List.getElem?_eq_getElem hj, ej]; rfl))
      refine ⟨_, rfl, _, rfl, rfl, _, rfl, if_f (decide_eq_false fun q => ne (V.str.inj q)) ?_⟩
      exact ⟨rfl, by omega, _, _, rfl⟩
  · omega
theorem ok_has_key (T : Txt w K mg) : C8.Cal P w K mg base (4) "has_key" (spHasKey K) [] := by
  refine calD (tell_has_key T) sc_has_key bind_has_key (fun vs H Q E h => ?_) (fun f cdv A outer s H vs Q E hr h => ?_)
  · obtain ⟨_, _, _, _, _, rfl, _⟩ := h
    rfl
  obtain ⟨v, fs, f, z, r, rfl, hv, hl, hx, hp, hf, hk, hz, k⟩ := h
  refine ⟨_, (pss_cons (ps_if (PW.pt (pw_or (pt_not (pt_val (pe_callB call_isi (by rfl) T.m_isinstance bt_isinstance (pa_cons (pv 0) (pa_cons (pe_bltn (v := .ty "tuple") (by rfl) T.m_tuple bt_tuple rfl) pa_nil))))) (pw_or (pt_cmpR op_ne (pe_callB call_len_seq (by rfl) T.m_len bt_len (pa_cons (pv 0) pa_nil)) pe_int (nomark _)) (pw_or (pt_cmpR op_ne (pe_ix ix_tup (pv 0) pe_int (fun _ _ => rfl)) pe_str (nomark _)) (pw_or1 (pt_not (pt_val (C8.pe_c (ok_are_fields T) hr (by decide) (by rfl) (pa_cons (pe_ix ix_tup (pv 0) pe_int (fun _ _ => rfl)) pa_nil)))))))))
      (pss_one (ps_ret pe_bl))
      pss_nil)
    (pss_cons (ps_set (i := 2) sc_has_key.nd rfl (by first | exact Or.inl rfl | exact Or.inr rfl) (C8.pe_c (ok_field_kind T) hr (by decide) (by rfl) (pa_cons (pv 0) (pa_cons (pv 1) pa_nil))))
    (pss_one (ps_ret (pe_and (pe_callB call_isi (by rfl) T.m_isinstance bt_isinstance (pa_cons (pv 2) (pa_cons (pe_bltn (v := .ty "tuple") (by rfl) T.m_tuple bt_tuple rfl) pa_nil))) (pe_and (pe_cmpR op_gt (pe_callB call_len_seq (by rfl) T.m_len bt_len (pa_cons (pv 2) pa_nil)) pe_int (nomark _)) (pe_one (pe_cmpR op_in_seq (pe_ix ix_tup (pv 2) pe_int (fun _ _ => rfl)) (pe_tup (pa_cons pe_str (pa_cons pe_str pa_nil))) rfl)))))))), ?_⟩
  obtain ⟨a, u, rfl, hS, hu⟩ := pair_of (x := "record") hv
  obtain ⟨b, rs, rfl, hb, hR⟩ := hu.tup_of
  refine ⟨_, rfl, _, _, _, _, _, rfl, .ty _, tyx_tup hS, isi_tt, _, rfl, if_f rfl ?_⟩
  refine ⟨_, rfl, a, _, rfl, .inr hS, rfl, _, rfl, if_f rfl ?_⟩
  refine ⟨_, rfl, a, _, _, _, rfl, rfl, hS, rfl, rfl, _, rfl, if_f (by rw [decide_eq_true rfl] <;> rfl) ?_⟩
  refine ⟨_, rfl, a, _, _, _, rfl, rfl, hS, rfl, b, rs, fs, rfl, hb, hR, hl, hx, hp, fun H1 e1 => ⟨_, rfl, if_f rfl ?_⟩⟩
  have q1 := fun {a xs} (h : SqT K H a xs) => (Kx.same (M := M0) e1).sqT NoT.zero h
  refine ⟨_, rfl, _, rfl, a, b, _, rs, fs, f, rfl, q1 hS, q1 hb, hR.sm e1, hf, hp, fun y hy => ?_⟩
  rw [hk] at hy
  obtain ⟨c, ys, rfl, hc, hys⟩ := hy.tup_of
  obtain ⟨y1, ys, rfl, h1, h2⟩ := RpA.cons_of hys
  obtain rfl := h1.str_of
  refine ⟨_, rfl, _, _, _, _, _, rfl, .ty _, tyx_tup hc, isi_tt, _, rfl, if_t rfl ?_⟩
  refine ⟨_, rfl, c, _, rfl, .inr hc, _, _, rfl, rfl, _, rfl, if_t (decide_eq_true (by rw [List.length_cons]; omega)) ?_⟩
  refine ⟨_, rfl, c, _, 0, _, rfl, rfl, hc, atI_nat (j := 0) rfl, (by decide), fun p np => ?_⟩
  refine ⟨p, _, rfl, .inr (SqT.of upd_same), rfl, rfl, ?_⟩
  refine bl_t ?_ (k _ (e1.trans (Kx.new _ np).to))
  rcases hz with rfl | rfl <;> decide +kernel
end
end OH
end

section
set_option Elab.async false
set_option linter.all false
set_option maxRecDepth 100000
set_option maxHeartbeats 4000000
set_option autoImplicit false
namespace OH
open PySem PySem.Spec PyProof.Rows L2
def spKindsWithin (K : PySem.W.Frag) (n : Nat) : Sp := fun vs H Q _ => ∃ (v : V) (c : Nat) (d : PyData) (ts : List Tk), vs = [v] ∧ Rp K H v d ∧ KT (n + 1) c d ts ∧
  ∀ (p : Addr) (H' : Hp) (ws : List V) (ks : List Fld), Same H H' → H' p = some (.lst ws) → RpA K H' ws (ks.map (·.k)) → (∀ f ∈ ks, KT n f.c f.k f.ts) → c = 1 + (ks.map (·.c)).sum → ks.length ≤ 8 → Q (.ref p) H'
theorem KT_form {n c : Nat} {d : PyData} {ts : List Tk} (h : KT (n + 1) c d ts) : ∃ (w0 : Str) (ds : List PyData), d = .tuple (.str w0 :: ds) := by
  unfold KT at h
  rcases h with ⟨lo, hi, e0, h1, h2, h3, rfl, rfl⟩ | ⟨m, e0, h1, h2, rfl, rfl⟩ | ⟨ws, e0, h1, h2, h3, h4, rfl, rfl⟩ | ⟨c1, k, tk, m, e0, h1, h2, h3, rfl, rfl⟩ | ⟨fs, e0, h1, h2, h3, rfl, rfl⟩ | ⟨key, c1, k, tk, m, e0, h1, h2, h3, h4, h5, rfl, rfl⟩ <;> exact ⟨_, _, rfl⟩
theorem RpA.one_of {K : PySem.W.Frag} {H : Hp} {vs : List V} {a : PyData} (h : RpA K H vs [a]) : ∃ u, vs = [u] ∧ Rp K H u a := by
  obtain ⟨u, r, rfl, h1, h2⟩ := h.cons_of
  obtain rfl := h2.nil_of
  exact ⟨u, rfl, h1⟩
theorem RpA.two_of {K : PySem.W.Frag} {H : Hp} {vs : List V} {a b : PyData} (h : RpA K H vs [a, b]) : ∃ u v, vs = [u, v] ∧ Rp K H u a ∧ Rp K H v b := by
  obtain ⟨u, r, rfl, h1, h2⟩ := h.cons_of
  obtain ⟨v, rfl, h3⟩ := h2.one_of
  exact ⟨u, v, rfl, h1, h3⟩
theorem RpA.three_of {K : PySem.W.Frag} {H : Hp} {vs : List V} {a b c : PyData} (h : RpA K H vs [a, b, c]) : ∃ u v x, vs = [u, v, x] ∧ Rp K H u a ∧ Rp K H v b ∧ Rp K H x c := by
  obtain ⟨u, r, rfl, h1, h2⟩ := h.cons_of
  obtain ⟨v, x, rfl, h3, h4⟩ := h2.two_of
  exact ⟨u, v, x, rfl, h1, h3, h4⟩
theorem rec_of {n c : Nat} {fs : List Fld} {ts : List Tk} (h : KT n c (recD fs) ts) : ∃ gs : List Fld, (gs.map fun f => pairD f.x f.k) = (fs.map fun f => pairD f.x f.k) ∧ gs.length ≤ 8 ∧ (∀ f ∈ gs, IsName f.x) ∧ (gs.map (·.x)).Pairwise nameLt := by
  cases n with
  | zero => exact h.elim
  | succ n =>
    unfold KT at h
    rcases h with ⟨lo, hi, e0, h1, h2, h3, e, rfl⟩ | ⟨m, e0, h1, h2, e, rfl⟩ | ⟨ws, e0, h1, h2, h3, h4, e, rfl⟩ | ⟨c1, k, tk, m, e0, h1, h2, h3, e, rfl⟩ | ⟨gs, e0, h1, h2, h3, e, rfl⟩ | ⟨key, c1, k, tk, m, e0, h1, h2, h3, h4, h5, e, rfl⟩ <;>
    first
    | (exfalso
       unfold recD at e
       injection e with e
       injection e with e _
       injection e with e
       revert e
       decide +kernel)
    | exact ⟨gs, (recD_inj e).symm, h1, fun f hf => (h2 f hf).1, h3⟩
section
variable {P : Program} {w : World} {K : PySem.W.Frag} {mg : Str → Option Value} {base : Heap}
theorem ok_kinds_within (T : Txt w K mg) {n : Nat} : C8.Cal P w K mg base (5) "kinds_within" (spKindsWithin K n) [] := by
  refine calD (tell_kinds_within T) sc_kinds_within bind_kinds_within (fun vs H Q E h => ?_) (fun f cdv A outer s H vs Q E hr h => ?_)
  · obtain ⟨_, _, _, _, rfl, _⟩ := h
    rfl
  obtain ⟨v, c, d, ts, rfl, hv, hk, k⟩ := h
  refine ⟨_, (pss_cons (ps_if (PW.pt (pw_or (pt_not (pt_val (pe_callB call_isi (by rfl) T.m_isinstance bt_isinstance (pa_cons (pv 0) (pa_cons (pe_bltn (v := .ty "tuple") (by rfl) T.m_tuple bt_tuple rfl) pa_nil))))) (pw_or (pt_cmpR op_eq (pe_callB call_len_seq (by rfl) T.m_len bt_len (pa_cons (pv 0) pa_nil)) pe_int (nomark _)) (pw_or1 (pt_not (pt_val (pe_callB call_isi (by rfl) T.m_isinstance bt_isinstance (pa_cons (pe_ix ix_tup (pv 0) pe_int (fun _ _ => rfl)) (pa_cons (pe_bltn (v := .ty "str") (by rfl) T.m_str bt_str rfl) pa_nil)))))))))
      (pss_one (ps_ret pe_non))
      pss_nil)
    (pss_cons (ps_set (i := 1) sc_kinds_within.nd rfl (by first | exact Or.inl rfl | exact Or.inr rfl) (pe_ix ix_tup (pv 0) pe_int (fun _ _ => rfl)))
    (pss_cons (ps_set (i := 2) sc_kinds_within.nd rfl (by first | exact Or.inl rfl | exact Or.inr rfl) pe_non)
    (pss_cons (ps_if (PW.pt (pw_or (PW.pt (pw_and (pt_cmpR op_eq (pv 1) pe_str (nomark _)) (pw_and1 (pt_val (C8.pe_c (ok_is_number_kind T) hr (by decide) (by rfl) (pa_cons (pv 0) pa_nil)))))) (pw_or1 (PW.pt (pw_and (pt_cmpR op_eq (pv 1) pe_str (nomark _)) (pw_and1 (pt_val (C8.pe_c (ok_is_choice_kind T) hr (by decide) (by rfl) (pa_cons (pv 0) pa_nil)))))))))
      (pss_one (ps_set (i := 2) sc_kinds_within.nd rfl (by first | exact Or.inl rfl | exact Or.inr rfl) (pe_lst pa_nil)))
      (pss_one (ps_if (PW.pt (pw_and (pt_cmpR op_eq (pv 1) pe_str (nomark _)) (pw_and (pt_cmpR op_eq (pe_callB call_len_seq (by rfl) T.m_len bt_len (pa_cons (pv 0) pa_nil)) pe_int (nomark _)) (pw_and1 (pt_val (C8.pe_c (ok_is_count T) hr (by decide) (by rfl) (pa_cons (pe_ix ix_tup (pv 0) pe_int (fun _ _ => rfl)) (pa_cons (C8.pe_gc (by rfl) T.g_MOST_SIGNS) pa_nil))))))))
        (pss_one (ps_set (i := 2) sc_kinds_within.nd rfl (by first | exact Or.inl rfl | exact Or.inr rfl) (pe_lst pa_nil)))
        (pss_one (ps_if (PW.pt (pw_and (pt_cmpR op_eq (pv 1) pe_str (nomark _)) (pw_and (pt_cmpR op_eq (pe_callB call_len_seq (by rfl) T.m_len bt_len (pa_cons (pv 0) pa_nil)) pe_int (nomark _)) (pw_and1 (pt_val (C8.pe_c (ok_is_count T) hr (by decide) (by rfl) (pa_cons (pe_ix ix_tup (pv 0) pe_int (fun _ _ => rfl)) (pa_cons (C8.pe_gc (by rfl) T.g_MOST_ITEMS) pa_nil))))))))
          (pss_one (ps_set (i := 2) sc_kinds_within.nd rfl (by first | exact Or.inl rfl | exact Or.inr rfl) (pe_lst (pa_cons (pe_ix ix_tup (pv 0) pe_int (fun _ _ => rfl)) pa_nil))))
          (pss_one (ps_if (PW.pt (pw_and (pt_cmpR op_eq (pv 1) pe_str (nomark _)) (pw_and (pt_cmpR op_eq (pe_callB call_len_seq (by rfl) T.m_len bt_len (pa_cons (pv 0) pa_nil)) pe_int (nomark _)) (pw_and1 (pt_val (C8.pe_c (ok_are_fields T) hr (by decide) (by rfl) (pa_cons (pe_ix ix_tup (pv 0) pe_int (fun _ _ => rfl)) pa_nil)))))))
            (pss_one (ps_setLc (i := 2) (own := [("name", 3), ("inner", 4)]) (by rfl) sc_kinds_within.nd rfl rfl (sw_true rfl rfl rfl (by decide +kernel)) (pi_tup (pe_ix ix_tup (pv 0) pe_int (fun _ _ => rfl))) (blkOk_by (own := [("name", 3), ("inner", 4)]) (N := ["kind", "word", "found", "name", "inner"]) (sc := defScope s_kinds_within) (by decide +kernel)) (fun _ _ _ _ _ => (show PG _ _ (gTup K 2 _) from pg_tup rfl (pgs_cons (pg_name (i := 3) sc_kinds_within.nd rfl (by first | exact Or.inl rfl | exact Or.inr rfl)) (pgs_cons (pg_name (i := 4) sc_kinds_within.nd rfl (by first | exact Or.inl rfl | exact Or.inr rfl)) pgs_nil)))) (fun _ _ _ _ _ => pts_nil) (fun _ _ _ _ _ => (pv 4))))
            (pss_one (ps_if (PW.pt (pw_and (pt_cmpR op_eq (pv 1) pe_str (nomark _)) (pw_and (pt_cmpR op_eq (pe_callB call_len_seq (by rfl) T.m_len bt_len (pa_cons (pv 0) pa_nil)) pe_int (nomark _)) (pw_and1 (pt_val (C8.pe_c (ok_is_count T) hr (by decide) (by rfl) (pa_cons (pe_ix ix_tup (pv 0) pe_int (fun _ _ => rfl)) (pa_cons (C8.pe_gc (by rfl) T.g_MOST_ITEMS) pa_nil))))))))
              (pss_one (ps_if (PW.pt (pw_and (pt_val (pe_callB call_isi (by rfl) T.m_isinstance bt_isinstance (pa_cons (pe_ix ix_tup (pv 0) pe_int (fun _ _ => rfl)) (pa_cons (pe_bltn (v := .ty "str") (by rfl) T.m_str bt_str rfl) pa_nil)))) (pw_and1 (pt_val (C8.pe_c (ok_has_key T) hr (by decide) (by rfl) (pa_cons (pe_ix ix_tup (pv 0) pe_int (fun _ _ => rfl)) (pa_cons (pe_ix ix_tup (pv 0) pe_int (fun _ _ => rfl)) pa_nil)))))))
                (pss_one (ps_set (i := 2) sc_kinds_within.nd rfl (by first | exact Or.inl rfl | exact Or.inr rfl) (pe_lst (pa_cons (pe_ix ix_tup (pv 0) pe_int (fun _ _ => rfl)) pa_nil))))
                pss_nil))
              pss_nil)))))))))
    (pss_one (ps_ret (pv 2))))))), ?_⟩
  obtain ⟨w0, ds, rfl⟩ := KT_form hk
  obtain ⟨a, xs, rfl, hS, hR⟩ := hv.tup_of
  obtain ⟨v0, vs, rfl, h0, hT⟩ := hR.cons_of
  obtain rfl := h0.str_of
  refine ⟨_, rfl, _, _, _, _, _, rfl, .ty _, tyx_tup hS, isi_tt, _, rfl, if_f rfl ?_⟩
  refine ⟨_, rfl, a, _, rfl, .inr hS, rfl, _, rfl, if_f (decide_eq_false fun q => by
    have z := V.int.inj q
    rw [List.length_cons] at z
    omega) ?_⟩
  refine ⟨_, rfl, a, _, 0, _, rfl, rfl, hS, atI_nat (j := 0) rfl, _, _, _, _, _, rfl, .ty _, .base (.str w0), isi_ss, _, rfl, if_f rfl ?_⟩
  refine ⟨_, rfl, a, _, 0, _, rfl, rfl, hS, atI_nat (j := 0) rfl, ?_⟩
  unfold KT at hk
  rcases hk with ⟨lo, hi, e0, h1, h2, h3, e, rfl⟩ | ⟨m, e0, h1, h2, e, rfl⟩ | ⟨ws, e0, h1, h2, h3, h4, e, rfl⟩ | ⟨c1, k1, tk, m, e0, h1, h2, h3, e, rfl⟩ | ⟨fs, e0, h1, h2, h3, e, rfl⟩ | ⟨key, c1, k1, tk, m, e0, h1, h2, h3, h4, h5, e, rfl⟩ <;> cases e
  · obtain ⟨u1, u2, rfl, r1, r2⟩ := hT.two_of
    obtain rfl := r1.int_of
    obtain rfl := r2.int_of
    refine ⟨_, rfl, rfl, _, rfl, if_t (by decide +kernel) ⟨_, rfl, a, _, lo, hi, rfl, hS, h1, h2, h3, _, rfl, if_t rfl (if_t rfl ?_)⟩⟩
    exact ⟨Nat.zero_le _, fun p np => ⟨_, rfl, k p _ [] [] (Kx.new _ np).to upd_same .nil (fun f h => nomatch h) e0 (Nat.zero_le _)⟩⟩
  · obtain ⟨u1, rfl, r1⟩ := hT.one_of
    obtain rfl := r1.int_of
    refine ⟨_, rfl, rfl, _, rfl, if_f (by decide +kernel) (if_f rfl ⟨_, rfl, rfl, _, rfl, if_f (by decide +kernel) (if_f rfl ?_)⟩)⟩
    refine ⟨_, rfl, rfl, _, rfl, if_t (by decide +kernel) ⟨_, rfl, a, _, rfl, .inr hS, rfl, _, rfl, if_t rfl ⟨_, rfl, a, _, _, _, rfl, rfl, hS, rfl, m, 60, rfl, h1, h2, _, rfl, if_t rfl ?_⟩⟩⟩
    exact ⟨Nat.zero_le _, fun p np => ⟨_, rfl, k p _ [] [] (Kx.new _ np).to upd_same .nil (fun f h => nomatch h) e0 (Nat.zero_le _)⟩⟩
  · obtain ⟨u1, rfl, r1⟩ := hT.one_of
    obtain ⟨b, ys, rfl, hb, hys⟩ := r1.tup_of
    obtain rfl := hys.strs
    refine ⟨_, rfl, rfl, _, rfl, if_f (by decide +kernel) (if_f rfl ⟨_, rfl, rfl, _, rfl, if_t (by decide +kernel) ⟨_, rfl, a, b, _, ws, rfl, hS, hb, h3, h4, h1, h2, fun H1 e1 => ⟨_, rfl, if_t rfl ?_⟩⟩⟩)⟩
    exact ⟨Nat.zero_le _, fun p np => ⟨_, rfl, k p _ [] [] (e1.trans (Kx.new _ np).to) upd_same .nil (fun f h => nomatch h) e0 (Nat.zero_le _)⟩⟩
  · obtain ⟨u1, u2, rfl, r1, r2⟩ := hT.two_of
    obtain rfl := r2.int_of
    refine ⟨_, rfl, rfl, _, rfl, if_f (by decide +kernel) (if_f rfl ⟨_, rfl, rfl, _, rfl, if_f (by decide +kernel) (if_f rfl ?_)⟩)⟩
    refine ⟨_, rfl, rfl, _, rfl, if_f (by decide +kernel) (if_f rfl ?_)⟩
    refine ⟨_, rfl, rfl, _, rfl, if_t (by decide +kernel) ⟨_, rfl, a, _, rfl, .inr hS, rfl, _, rfl, if_t rfl ⟨_, rfl, a, _, _, _, rfl, rfl, hS, rfl, m, 8, rfl, h2, h3, _, rfl, if_t rfl ?_⟩⟩⟩
    refine ⟨_, rfl, a, _, _, _, rfl, rfl, hS, rfl, (by show 1 ≤ sizeLine; decide), fun p np => ⟨_, rfl, k p _ [u1] [⟨"", c1, k1, tk⟩] (Kx.new _ np).to upd_same (.cons (r1.sm (Kx.new _ np).to) .nil) (fun f h => ?_) ?_ (by show 1 ≤ 8; decide)⟩⟩
    · rw [List.mem_singleton.mp h]
      exact h1
    · rw [e0]
      show c1 + 1 = 1 + (c1 + 0)
      omega
  · obtain ⟨u1, rfl, r1⟩ := hT.one_of
    obtain ⟨b, rs, rfl, hb, hrs⟩ := r1.tup_of
    refine ⟨_, rfl, rfl, _, rfl, if_f (by decide +kernel) (if_f rfl ⟨_, rfl, rfl, _, rfl, if_f (by decide +kernel) (if_f rfl ?_)⟩)⟩
    refine ⟨_, rfl, rfl, _, rfl, if_f (by decide +kernel) (if_f rfl ?_)⟩
    refine ⟨_, rfl, rfl, _, rfl, if_f (by decide +kernel) (if_f rfl ?_)⟩
    refine ⟨_, rfl, rfl, _, rfl, if_t (by decide +kernel) ⟨_, rfl, a, _, rfl, .inr hS, rfl, _, rfl, if_t rfl ⟨_, rfl, a, _, _, _, rfl, rfl, hS, rfl, b, rs, fs, rfl, hb, hrs, h1, (fun f hf => (h2 f hf).1), h3, fun H1 e1 => ⟨_, rfl, if_t rfl ?_⟩⟩⟩⟩
    have q1 := fun {a xs} (h : SqT K H a xs) => (Kx.same (M := M0) e1).sqT NoT.zero h
    have hR1 := hrs.sm e1
    have hlen : rs.length = fs.length := by rw [hrs.length, List.length_map]
    refine ⟨_, rfl, a, _, _, _, rfl, rfl, q1 hS, rfl, b, rfl, ⟨_, q1 hb⟩, fun D nD => ?_⟩
    refine lcS walk_tup (fun i acc H' => Same H1 H' ∧ RpA K H' acc ((fs.take i).map (·.k))) (by rw [hlen]; exact Nat.lt_of_le_of_lt h1 (by decide)) ⟨(Kx.new _ nD).to, .nil⟩ (fun i acc H' _ h => (Kx.same (M := M0) h.1).sqT NoT.zero (q1 hb)) (fun i acc v H2 H3 Q1 hi hl hD hI y k1 => ?_) (fun acc H2 hl hD hI => ?_)
    · obtain ⟨rfl, hv⟩ := y
      obtain ⟨f, b2, u, g1, rfl, g3, g4⟩ := field_at (hR1.sm hI.1) hv
      refine ⟨b2, _, rfl, g3, rfl, _, _, rfl, _, _, rfl, rfl, rfl, _, rfl, ?_⟩
      refine k1 u _ hD ⟨(Kx.mut (Kx.same hI.1) _ nD).to, ?_⟩
      have hm : Kx (M1 D) H3 (upd H3 D (.lst (acc ++ [u]))) := Kx.put _ rfl
      rw [List.take_add_one, g1, List.map_append]
      exact (hI.2.snoc g4).kx hm (NoT.one hD)
    · refine ⟨_, rfl, k D H2 acc fs (e1.trans hI.1) hD ?_ (fun f hf => (h2 f hf).2) e0 h1⟩
      have z := hI.2
      rw [hlen, List.take_length] at z
      exact z
  · obtain ⟨u1, u2, u3, rfl, r1, r2, r3⟩ := hT.three_of
    obtain rfl := r1.str_of
    obtain rfl := r3.int_of
    obtain ⟨fs, f, z, r, rfl, hf, rfl, hk1, hz⟩ := h3
    obtain ⟨gs, ge, g1, g2, g3⟩ := rec_of h1
    have hm : pairD f.x f.k ∈ gs.map fun f => pairD f.x f.k := by
      rw [ge]
      exact List.mem_map.mpr ⟨f, hf, rfl⟩
    obtain ⟨g, hg, eg⟩ := List.mem_map.mp hm
    obtain ⟨eg1, eg2⟩ := pairD_inj eg
    have hrec : recD gs = recD fs := by
      unfold recD
      rw [ge]
    refine ⟨_, rfl, rfl, _, rfl, if_f (by decide +kernel) (if_f rfl ⟨_, rfl, rfl, _, rfl, if_f (by decide +kernel) (if_f rfl ?_)⟩)⟩
    refine ⟨_, rfl, rfl, _, rfl, if_f (by decide +kernel) (if_f rfl ?_)⟩
    refine ⟨_, rfl, rfl, _, rfl, if_f (by decide +kernel) (if_f rfl ?_)⟩
    refine ⟨_, rfl, rfl, _, rfl, if_f (by decide +kernel) (if_f rfl ?_)⟩
    refine ⟨_, rfl, rfl, _, rfl, if_t (by decide +kernel) ⟨_, rfl, a, _, rfl, .inr hS, rfl, _, rfl, if_t rfl ⟨_, rfl, a, _, _, _, rfl, rfl, hS, rfl, m, 8, rfl, h4, h5, _, rfl, if_t rfl ?_⟩⟩⟩
    refine ⟨_, rfl, a, _, _, _, rfl, rfl, hS, rfl, _, _, _, _, _, rfl, .ty _, .base (.str _), isi_ss, _, rfl, if_t rfl ?_⟩
    refine ⟨_, rfl, a, _, _, _, rfl, rfl, hS, rfl, _, rfl, a, _, _, _, rfl, rfl, hS, rfl, u2, gs, g, z, r, by rw [eg1] <;> rfl, hrec ▸ r2, g1, g2, g3, hg, eg2.trans hk1, hz, fun H1 e1 => ⟨_, rfl, if_t rfl ?_⟩⟩
    have q1 := (Kx.same (M := M0) e1).sqT NoT.zero hS
    refine ⟨_, rfl, a, _, _, _, rfl, rfl, q1, rfl, (by show 1 ≤ sizeLine; decide), fun p np => ⟨_, rfl, k p _ [u2] [⟨"", c1, recD fs, tk⟩] (e1.trans (Kx.new _ np).to) upd_same (.cons (r2.sm (e1.trans (Kx.new _ np).to)) .nil) (fun f h => ?_) ?_ (by show 1 ≤ 8; decide)⟩⟩
    · rw [List.mem_singleton.mp h]
      exact h1
    · rw [e0]
      show c1 + 1 = 1 + (c1 + 0)
      omega
def spKindsLeft (K : PySem.W.Frag) (n : Nat) : Sp := fun vs H Q _ => ∃ (v : V) (c : Nat) (d : PyData) (ts : List Tk) (deep left : Int), vs = [v, .int deep, .int left] ∧ Rp K H v d ∧ KT n c d ts ∧ (n : Int) ≤ deep ∧ (c : Int) ≤ left ∧ ∀ H', Same H H' → Q (.int (left - c)) H'
theorem KT_pos {n c : Nat} {d : PyData} {ts : List Tk} (h : KT n c d ts) : 1 ≤ c := by
  cases n with
  | zero => exact h.elim
  | succ n =>
    unfold KT at h
    rcases h with ⟨lo, hi, e0, _⟩ | ⟨m, e0, _⟩ | ⟨ws, e0, _⟩ | ⟨c1, k, tk, m, e0, _⟩ | ⟨fs, e0, _⟩ | ⟨key, c1, k, tk, m, e0, _⟩ <;> omega
theorem sum_take_c {ks : List Fld} {i : Nat} {f : Fld} (h : ks[i]? = some f) : ((ks.take (i + 1)).map (·.c)).sum = ((ks.take i).map (·.c)).sum + f.c := by
  rw [List.take_add_one, h, List.map_append, List.sum_append]
  simp
theorem sum_take_le (ks : List Fld) : ∀ i, ((ks.take i).map (·.c)).sum ≤ (ks.map (·.c)).sum := by
  intro i
  have e : (ks.map (·.c)).sum = ((ks.take i).map (·.c)).sum + ((ks.drop i).map (·.c)).sum := by rw [← List.sum_append, ← List.map_append, List.take_append_drop]
  omega
theorem ok_kinds_left_s (T : Txt w K mg) {n : Nat} (ih : C8.Cal P w K mg base (6 + n) "kinds_left" (spKindsLeft K n) []) : C8.Cal P w K mg base (6 + n + 1) "kinds_left" (spKindsLeft K (n + 1)) [] := by
  refine calD (tell_kinds_left T) sc_kinds_left bind_kinds_left (fun vs H Q E h => ?_) (fun f cdv A outer s H vs Q E hr h => ?_)
  · obtain ⟨_, _, _, _, _, _, rfl, _⟩ := h
    rfl
  obtain ⟨v, c, d, ts, deep, left, rfl, hv, hk, hd, hc, k⟩ := h
  refine ⟨_, (pss_cons (ps_set (i := 3) sc_kinds_left.nd rfl (by first | exact Or.inl rfl | exact Or.inr rfl) (C8.pe_c (ok_kinds_within (n := n) T) hr (by omega) (by rfl) (pa_cons (pv 0) pa_nil)))
    (pss_cons (ps_if (PW.pt (pw_or (pt_cmpR op_isN (pv 3) pe_non (nomark _)) (pw_or (pt_cmpR op_lt (pv 1) pe_int (nomark _)) (pw_or1 (pt_cmpR op_lt (pv 2) pe_int (nomark _))))))
      (pss_one (ps_ret (pe_un un_neg pe_int)))
      pss_nil)
    (pss_cons (ps_set (i := 2) sc_kinds_left.nd rfl (by first | exact Or.inl rfl | exact Or.inr rfl) (pe_op op_sub (pv 2) pe_int))
    (pss_cons (ps_for PassesOwn.never rfl (pi_list (pv 3)) (pg_name (i := 4) sc_kinds_left.nd rfl (by first | exact Or.inl rfl | exact Or.inr rfl))
      (pss_one (ps_if (pt_cmpR op_ge (pv 2) pe_int (nomark _))
        (pss_one (ps_set (i := 2) sc_kinds_left.nd rfl (by first | exact Or.inl rfl | exact Or.inr rfl) (C8.pe_c ih hr (by omega) (by rfl) (pa_cons (pv 4) (pa_cons (pe_op op_sub (pv 1) pe_int) (pa_cons (pv 2) pa_nil))))))
        pss_nil)))
    (pss_one (ps_ret (pv 2))))))), ?_⟩
  have hcp := KT_pos hk
  refine ⟨_, rfl, v, c, d, ts, rfl, hv, hk, fun p H1 ws ks e1 hp hR hks ec hl => ?_⟩
  refine ⟨_, rfl, rfl, _, rfl, if_f rfl ?_⟩
  refine ⟨_, rfl, _, _, rfl, rfl, _, rfl, if_f (decide_eq_false (by omega)) ?_⟩
  refine ⟨_, rfl, _, _, rfl, rfl, _, rfl, if_f (decide_eq_false (by omega)) ?_⟩
  refine ⟨_, rfl, _, _, rfl, rfl, _, rfl, p, rfl, ⟨_, SqL.of hp⟩, ?_⟩
  have hlen : ws.length = ks.length := by rw [hR.length, List.length_map]
  refine for_it (D := { nx := _, rt := _ }) walk_list (fun i σ H' => Same H1 H' ∧ ∃ y4, σ = [some v, some (.int deep), some (.int (left - 1 - (((ks.take i).map (·.c)).sum : Nat))), some (.ref p), y4]) ⟨Same.refl _, none, by simp; rfl⟩ (fun i σ H' _ ⟨e, _⟩ => SqL.of (e _ _ hp)) (fun i x σ H2 H3 hi hP y => ?_) (fun σ H2 ⟨e2, y4, e⟩ => ?_)
  · obtain ⟨e2, y4, rfl⟩ := hP
    obtain ⟨rfl, hx⟩ := y
    obtain ⟨d1, g1, g2⟩ := (hR.sm e2).back hx
    rw [List.getElem?_map] at g1
    cases q : ks[i]? with
    | none =>
      rw [q] at g1
      cases g1
    | some f =>
      rw [q] at g1
      have ed : f.k = d1 := Option.some.inj g1
      subst ed
      have hf := hks f (List.mem_of_getElem? q)
      have hs1 := sum_take_c q
      have hs2 := sum_take_le ks (i + 1)
      refine ⟨_, rfl, _, _, rfl, rfl, _, rfl, if_t (decide_eq_true (by omega)) ?_⟩
      refine ⟨_, rfl, _, rfl, _, _, rfl, rfl, _, rfl, x, f.c, f.k, f.ts, _, _, rfl, g2, hf, by omega, by omega, fun H4 e4 => ?_⟩
      refine ⟨e2.trans e4, some x, ?_⟩
      rw [hs1]
      have ez : left - 1 - (((ks.take i).map (·.c)).sum : Nat) - (f.c : Int) = left - 1 - ((((ks.take i).map (·.c)).sum + f.c : Nat) : Int) := by omega
      rw [← ez]
      rfl
  · subst e
    rw [hlen, List.take_length]
    have ez : left - 1 - ((ks.map (·.c)).sum : Nat) = left - (c : Int) := by omega
    rw [ez]
    exact ⟨_, rfl, k _ (e1.trans e2)⟩
theorem ok_kinds_left (T : Txt w K mg) : ∀ n, C8.Cal P w K mg base (6 + n) "kinds_left" (spKindsLeft K n) []
  | 0 => by
    refine calD (k := 5) (tell_kinds_left T) sc_kinds_left bind_kinds_left (fun vs H Q E h => ?_) (fun f cdv A outer s H vs Q E hr h => ?_)
    · obtain ⟨_, _, _, _, _, _, _, _, h, _⟩ := h
      exact h.elim
    · obtain ⟨_, _, _, _, _, _, _, _, h, _⟩ := h
      exact h.elim
  | n + 1 => ok_kinds_left_s T (ok_kinds_left T n)
def spMadeKind (K : PySem.W.Frag) : Sp := fun vs H Q _ => ∃ (v : V) (d : PyData) (ts : List Tk), vs = [v] ∧ Rp K H v d ∧ KT4 d ts ∧ ∀ H', Same H H' → Q v H'
theorem ok_made_kind (T : Txt w K mg) : C8.Cal P w K mg base (11) "made_kind" (spMadeKind K) [] := by
  refine calD (tell_made_kind T) sc_made_kind bind_made_kind (fun vs H Q E h => ?_) (fun f cdv A outer s H vs Q E hr h => ?_)
  · obtain ⟨_, _, _, rfl, _⟩ := h
    rfl
  obtain ⟨v, d, ts, rfl, hv, ⟨c, hc, hk⟩, k⟩ := h
  refine ⟨_, (pss_cons (ps_if (pt_cmpR op_lt (C8.pe_c (ok_kinds_left T 4) hr (by decide) (by rfl) (pa_cons (pv 0) (pa_cons (C8.pe_gc (by rfl) T.g_DEEPEST) (pa_cons (C8.pe_gc (by rfl) T.g_MOST_KINDS) pa_nil)))) pe_int (nomark _))
      (pss_one ps_never)
      pss_nil)
    (pss_one (ps_ret (pv 0)))), ?_⟩
  refine ⟨_, rfl, v, c, d, ts, 5, 40, rfl, hv, hk, by decide, by omega, fun H1 e1 => ?_⟩
  exact ⟨_, _, rfl, rfl, _, rfl, if_f (decide_eq_false (by omega)) ⟨_, rfl, k _ e1⟩⟩
end
end OH
end

section
set_option Elab.async false
set_option linter.all false
set_option maxRecDepth 100000
set_option maxHeartbeats 4000000
set_option autoImplicit false
namespace OH
open PySem PySem.Spec PyProof.Rows L2
/-! ### the writers -/
def Sm (ts : List Tk) : Prop := (TC ts).length ≤ 10000000
theorem sizeL : sizeLine = 16777216 := sizeLine_eq
theorem Sm.at {a b c : List Tk} (h : Sm (a ++ (b ++ c))) : Sm b := by
  unfold Sm at h ⊢
  rw [TC_app, TC_app, List.length_append, List.length_append] at h
  omega
theorem sm_sep : ∀ {ps : List (List Tk)}, Sm (sep ps) → ∀ p ∈ ps, Sm p
  | [], _, _, hp => nomatch hp
  | [q], h, p, hp => by
    rw [List.mem_singleton.mp hp]
    exact h
  | q :: r :: l, h, p, hp => by
    rcases List.mem_cons.mp hp with rfl | hp
    · exact Sm.at (a := []) h
    · refine sm_sep (ps := r :: l) ?_ p hp
      have h' : Sm (q ++ ([.s 44, .sp] ++ sep (r :: l))) := h
      unfold Sm at h' ⊢
      rw [TC_app, TC_app, List.length_append, List.length_append] at h'
      omega
theorem Sm.fmt {x : Str} {ps : List (List Tk)} (h : Sm (fmt x ps)) : Sm (sep ps) := Sm.at (a := [.w x, .s 40]) (c := [.s 41]) h
theorem Sm.brk {a c : Nat} {ps : List (List Tk)} (h : Sm (.s a :: (sep ps ++ [.s c]))) : Sm (sep ps) := Sm.at (a := [.s a]) (c := [.s c]) h
theorem Sm.len {ts : List Tk} (h : Sm ts) : (T ts).length ≤ 10000000 := by
  rw [T_len]
  exact h
theorem len_app (a b : Str) : (a ++ b).length = a.length + b.length := by rw [TL.len_tl, TL.tl_append, List.length_append, TL.len_tl, TL.len_tl]
theorem tl_comma : TL.tl (", " : Str) = [44, 32] := rfl
theorem join_T : ∀ ps : List (List Tk), Txt.join ", " (ps.map T) = T (sep ps) := by
  intro ps
  refine TL.ext_tl ?_
  rw [TL.join_eq, TL.tl_join, T_tl, tl_comma]
  induction ps with
  | nil => rfl
  | cons p r ih =>
    cases r with
    | nil => rfl
    | cons q r =>
      show TL.tl (T p) ++ ([44, 32] ++ TL.joinL [44, 32] (((q :: r).map T).map TL.tl)) = TC (p ++ ([.s 44, .sp] ++ sep (q :: r)))
      rw [ih, TC_app, TC_app]
      rfl
theorem join_sz : ∀ ps : List (List Tk), ((ps.map T).map (·.length)).sum + (ps.map T).length * 2 ≤ (TC (sep ps)).length + 2
  | [] => by simp [sep, TC]
  | [p] => by
    show (T p).length + 0 + (0 + 1) * 2 ≤ (TC p).length + 2
    rw [T_len]
    omega
  | p :: q :: r => by
    have ih := join_sz (q :: r)
    have e : TC (sep (p :: q :: r)) = TC p ++ ([44, 32] ++ TC (sep (q :: r))) := by
      show TC (p ++ ([.s 44, .sp] ++ sep (q :: r))) = _
      rw [TC_app, TC_app]
      rfl
    rw [e, List.length_append, List.length_append]
    have e2 : ((List.map T (p :: q :: r)).map (·.length)).sum = (T p).length + ((List.map T (q :: r)).map (·.length)).sum := rfl
    have e3 : (List.map T (p :: q :: r)).length = (List.map T (q :: r)).length + 1 := rfl
    rw [e2, e3, T_len]
    have e4 : ([44, 32] : List Nat).length = 2 := rfl
    omega
theorem join_ok {ps : List (List Tk)} {xs : List Str} (e : xs = ps.map T) (h : Sm (sep ps)) : (xs.map (·.length)).sum + xs.length * (", " : Str).length ≤ 16777216 := by
  subst e
  have h1 := join_sz ps
  have h2 : (", " : Str).length = 2 := rfl
  rw [h2]
  unfold Sm at h
  omega
theorem fmt_T (x : Str) (ps : List (List Tk)) : ((x ++ "(") ++ T (sep ps)) ++ ")" = T (fmt x ps) := by
  refine TL.ext_tl ?_
  rw [TL.tl_append, TL.tl_append, TL.tl_append, T_tl]
  show _ = TC ([.w x, .s 40] ++ (sep ps ++ [.s 41]))
  rw [TC_app, TC_app]
  show (TL.tl x ++ [40]) ++ TC (sep ps) ++ [41] = (TL.tl x ++ [40]) ++ (TC (sep ps) ++ [41])
  rw [List.append_assoc]
theorem fmt_len (x : Str) (ps : List (List Tk)) : (T (fmt x ps)).length = x.length + 1 + (T (sep ps)).length + 1 := by
  rw [← fmt_T, len_app, len_app, len_app]
  rfl
def pairT (e : Ent) : List Tk := .w e.x :: .s 58 :: .sp :: e.ts
theorem pair_T (e : Ent) : (e.x ++ ": ") ++ T e.ts = T (pairT e) := by
  refine TL.ext_tl ?_
  rw [TL.tl_append, TL.tl_append, T_tl]
  show (TL.tl e.x ++ [58, 32]) ++ TC e.ts = TL.tl e.x ++ ([58] ++ ([32] ++ TC e.ts))
  rw [List.append_assoc]
  rfl
theorem pair_len (e : Ent) : (T (pairT e)).length = e.x.length + 2 + (T e.ts).length := by
  rw [← pair_T, len_app, len_app]
  rfl
theorem ent_at {K : PySem.W.Frag} {H : Hp} {rs : List V} {α : Type} {x : α → Str} {g : α → PyData} {es : List α} {i : Nat} {v : V} (h : RpA K H rs (es.map fun e => pairD (x e) (g e))) (e : rs[i]? = some v) :
    ∃ f b u, es[i]? = some f ∧ v = .ref b ∧ SqT K H b [.str (x f), u] ∧ Rp K H u (g f) := by
  obtain ⟨d, h1, h2⟩ := h.back e
  rw [List.getElem?_map] at h1
  cases q : es[i]? with
  | none =>
    rw [q] at h1
    cases h1
  | some f =>
    rw [q] at h1
    have e1 : pairD (x f) (g f) = d := Option.some.inj h1
    rw [← e1] at h2
    obtain ⟨b, u, h3, h4, h5⟩ := pair_of h2
    exact ⟨f, b, u, rfl, h3, h4, h5⟩
theorem log_num {i : Int} (h : IsNum i) : i.natAbs.log2 < 1920 := by
  by_cases e : i.natAbs = 0
  · rw [e]
    decide
  · refine (Nat.log2_lt e).mpr ?_
    have h1 : i.natAbs < 10 ^ 60 := by
      obtain ⟨h1, h2⟩ := h
      omega
    exact Nat.lt_trans h1 (by decide +kernel)
def spInBrackets (K : PySem.W.Frag) (l : Bool) : Sp := fun vs H Q _ => ∃ (x : Str) (a : Addr) (xs : List Str) (ps : List (List Tk)), vs = [.str x, .ref a] ∧ (SqL K H a (xs.map V.str) ∨ SqT K H a (xs.map V.str)) ∧ xs = ps.map T ∧ Sm (fmt x ps) ∧ Q (.str (T (fmt x ps))) H
def spPairsText (K : PySem.W.Frag) (S : Hp → Addr → List V → Prop) : Sp := fun vs H Q _ => ∃ (a : Addr) (rs : List V) (es : List Ent), vs = [.ref a] ∧ S H a rs ∧ RpA K H rs (es.map fun e => pairD e.x (.str (T e.ts))) ∧ es.length ≤ 8 ∧ Sm (sep (es.map pairT)) ∧
  ∀ H', Same H H' → Q (.str (T (sep (es.map pairT)))) H'
/-- a writer of what R relates -/
def spW (K : PySem.W.Frag) (R : PyData → List Tk → Prop) : Sp := fun vs H Q _ => ∃ (v : V) (d : PyData) (ts : List Tk), vs = [v] ∧ Rp K H v d ∧ R d ts ∧ Sm ts ∧ ∀ H', Same H H' → Q (.str (T ts)) H'
def KTc (n : Nat) (d : PyData) (ts : List Tk) : Prop := ∃ c, KT n c d ts
def spQuoted : Sp := fun vs H Q _ => ∃ x, vs = [.str x] ∧ IsText x ∧ Q (.str (T [.t x])) H
def spIsSign : Sp := fun vs H Q _ => ∃ c : Nat, vs = [.str ⟨#[c]⟩] ∧ 32 ≤ c ∧ c ≤ 126 ∧ c ≠ 34 ∧ c ≠ 37 ∧ Q (.bl true) H
theorem one_lt (a b : Nat) : decide (([a] : List Nat) < [b]) = decide (a < b) := by
  by_cases h : a < b
  · rw [decide_eq_true h, decide_eq_true (List.cons_lt_cons_iff.mpr (.inl h))]
  · rw [decide_eq_false h, decide_eq_false fun q => ?_]
    rcases List.cons_lt_cons_iff.mp q with q | ⟨_, q⟩
    · exact h q
    · exact absurd q (List.lt_irrefl _)
section
variable {P : Program} {w : World} {K : PySem.W.Frag} {mg : Str → Option Value} {base : Heap}
theorem ok_is_sign (T : Txt w K mg) : C8.Cal P w K mg base (1) "is_sign" (spIsSign) [] := by
  refine calD (tell_is_sign T) sc_is_sign bind_is_sign (fun vs H Q E h => ?_) (fun f cdv A outer s H vs Q E hr h => ?_)
  · obtain ⟨_, rfl, _⟩ := h
    rfl
  obtain ⟨c, rfl, h1, h2, h3, h4, k⟩ := h
  refine ⟨_, (pss_one (ps_ret (pe_and (pe_chain op_le_str op_le_str pe_str (pv 0) pe_str) (pe_and (pe_cmpR op_ne (pv 0) pe_str (nomark _)) (pe_one (pe_cmpR op_ne (pe_callB call_ord (by rfl) T.m_ord bt_ord (pa_cons (pv 0) pa_nil)) pe_int (nomark _))))))), ?_⟩
  have e1 : (!decide (([c] : List Nat) < [32])) = true := by rw [one_lt, decide_eq_false (by omega)]; rfl
  have e2 : (!decide (([126] : List Nat) < [c])) = true := by rw [one_lt, decide_eq_false (by omega)]; rfl
  refine ⟨_, rfl, _, _, rfl, rfl, _, rfl, if_t e1 ⟨_, _, rfl, rfl, _, rfl, if_t e2 ?_⟩⟩
  refine ⟨_, rfl, rfl, _, rfl, if_t (by rw [decide_eq_false fun q => h3 ?_]; rfl; injection q with q; injection q with q; exact (List.cons.inj (Array.toList_inj.mpr q)).1) ?_⟩
  refine ⟨_, rfl, ⟨#[c]⟩, rfl, rfl, rfl, ?_⟩
  exact bl_t (by rw [decide_eq_false fun q => h4 ?_]; rfl; have z := V.int.inj q; exact Int.ofNat.inj z) k
theorem ok_in_brackets (T : Txt w K mg) : C8.Cal P w K mg base (1) "in_brackets" (spInBrackets K true) [] := by
  refine calD (tell_in_brackets T) sc_in_brackets bind_in_brackets (fun vs H Q E h => ?_) (fun f cdv A outer s H vs Q E hr h => ?_)
  · obtain ⟨_, _, _, _, rfl, _⟩ := h
    rfl
  obtain ⟨x, a, xs, ps, rfl, hS, ex, hsm, k⟩ := h
  refine ⟨_, (pss_one (ps_ret (pe_op op_add_str (pe_op op_add_str (pe_op op_add_str (pv 0) pe_str) (pe_join pe_str (pv 1))) pe_str))), ?_⟩
  have hl := fmt_len x ps
  have hl2 := hsm.len
  have hz := sizeL
  have o1 : ("(" : Str).length = 1 := rfl
  have o2 : (")" : Str).length = 1 := rfl
  have ej : Txt.join ", " xs = OH.T (sep ps) := by rw [ex, join_T]
  refine ⟨_, rfl, _, _, rfl, rfl, by rw [o1]; omega, ⟨_, rfl⟩, _, rfl, _, a, xs, rfl, rfl, hS, join_ok ex hsm.fmt, ?_⟩
  rw [ej]
  refine ⟨_, _, rfl, rfl, by rw [len_app, o1]; omega, _, _, rfl, rfl, by rw [len_app, len_app, o1, o2]; omega, ?_⟩
  rw [fmt_T]
  exact k
theorem ok_quoted (T : Txt w K mg) : C8.Cal P w K mg base (1) "quoted" (spQuoted) [] := by
  refine calD (tell_quoted T) sc_quoted bind_quoted (fun vs H Q E h => ?_) (fun f cdv A outer s H vs Q E hr h => ?_)
  · obtain ⟨_, rfl, _⟩ := h
    rfl
  obtain ⟨x, rfl, hx, k⟩ := h
  refine ⟨_, (pss_one (ps_ret (pe_op op_add_str (pe_op op_add_str pe_str (pv 0)) pe_str))), ?_⟩
  have hz := sizeL
  have o1 : ("\"" : Str).length = 1 := rfl
  have h1 := hx.1
  refine ⟨_, rfl, _, _, rfl, rfl, by rw [o1]; omega, _, _, rfl, rfl, by rw [len_app, o1]; omega, ?_⟩
  have e : ("\"" ++ x) ++ "\"" = OH.T [.t x] := by
    refine TL.ext_tl ?_
    rw [TL.tl_append, TL.tl_append, T_tl]
    show (34 :: TL.tl x) ++ [34] = (34 :: (TL.tl x ++ [34])) ++ []
    rw [List.append_nil]
    rfl
  rw [e]
  exact k
theorem ok_pairs_textL (T : Txt w K mg) : C8.Cal P w K mg base (1) "pairs_text" (spPairsText K (SqL K)) [] := by
  refine calD (tell_pairs_text T) sc_pairs_text bind_pairs_text (fun vs H Q E h => ?_) (fun f cdv A outer s H vs Q E hr h => ?_)
  · obtain ⟨_, _, _, rfl, _⟩ := h
    rfl
  obtain ⟨a, rs, es, rfl, hS, hR, hl, hsm, k⟩ := h
  refine ⟨_, (pss_one (ps_ret (pe_join pe_str (pe_lc (own := [("name", 1), ("text", 2)]) (by rfl) sc_pairs_text.nd (pi_list (pv 0)) (blkOk_by (own := [("name", 1), ("text", 2)]) (N := ["pairs", "name", "text"]) (sc := defScope s_pairs_text) (by decide +kernel)) (fun _ _ _ _ _ => (show PG _ _ (gTup K 2 _) from pg_tup rfl (pgs_cons (pg_name (i := 1) sc_pairs_text.nd rfl (by first | exact Or.inl rfl | exact Or.inr rfl)) (pgs_cons (pg_name (i := 2) sc_pairs_text.nd rfl (by first | exact Or.inl rfl | exact Or.inr rfl)) pgs_nil)))) (fun _ _ _ _ _ => pts_nil) (fun _ _ _ _ _ => (pe_op op_add_str (pe_op op_add_str (pv 1) pe_str) (pv 2))))))), ?_⟩
  have hlen : rs.length = es.length := by rw [hR.length, List.length_map]
  have hz := sizeL
  refine ⟨⟨_, rfl⟩, _, rfl, a, rfl, ⟨_, hS⟩, fun D nD => ?_⟩
  refine lcP walk_list (fun i => ((es[i]?).map fun e => V.str (OH.T (pairT e))).getD .non) nD (by rw [hlen]; exact Nat.lt_of_le_of_lt hl (by decide)) (fun _ e => e.seq hS) (fun i v H1 H2 Q1 hi e1 y k1 => ?_) (fun H1 e1 hD => ?_)
  · obtain ⟨rfl, hv⟩ := y
    obtain ⟨e, b, u, h1, rfl, h3, h4⟩ := ent_at (x := Ent.x) (hR.sm e1) hv
    obtain rfl := h4.str_of
    have hb := (sm_sep hsm (pairT e) (List.mem_map.mpr ⟨e, List.mem_of_getElem? h1, rfl⟩)).len
    have hp := pair_len e
    have o1 : (": " : Str).length = 2 := rfl
    refine ⟨b, _, rfl, h3, rfl, _, _, rfl, _, _, rfl, rfl, rfl, _, rfl, _, _, rfl, rfl, by rw [o1]; omega, _, rfl, _, _, rfl, rfl, by rw [len_app, o1]; omega, ?_⟩
    rw [pair_T]
    have z := k1 _ (Same.refl _)
    rw [h1] at z
    exact z
  · have hN : H1 D = some (.lst (((es.map pairT).map OH.T).map V.str)) := by
      rw [hD, hlen, List.map_map, List.map_map, range_map_get (f := fun e : Ent => V.str (OH.T (pairT e))) es fun i e h => by rw [h]; rfl]
      rfl
    refine ⟨_, D, _, rfl, rfl, .inl (SqL.of hN), join_ok rfl hsm, ?_⟩
    rw [join_T]
    exact k _ e1
theorem ok_pairs_textT (T : Txt w K mg) : C8.Cal P w K mg base (1) "pairs_text" (spPairsText K (SqT K)) [] := by
  refine calD (tell_pairs_text T) sc_pairs_text bind_pairs_text (fun vs H Q E h => ?_) (fun f cdv A outer s H vs Q E hr h => ?_)
  · obtain ⟨_, _, _, rfl, _⟩ := h
    rfl
  obtain ⟨a, rs, es, rfl, hS, hR, hl, hsm, k⟩ := h
  refine ⟨_, (pss_one (ps_ret (pe_join pe_str (pe_lc (own := [("name", 1), ("text", 2)]) (by rfl) sc_pairs_text.nd (pi_tup (pv 0)) (blkOk_by (own := [("name", 1), ("text", 2)]) (N := ["pairs", "name", "text"]) (sc := defScope s_pairs_text) (by decide +kernel)) (fun _ _ _ _ _ => (show PG _ _ (gTup K 2 _) from pg_tup rfl (pgs_cons (pg_name (i := 1) sc_pairs_text.nd rfl (by first | exact Or.inl rfl | exact Or.inr rfl)) (pgs_cons (pg_name (i := 2) sc_pairs_text.nd rfl (by first | exact Or.inl rfl | exact Or.inr rfl)) pgs_nil)))) (fun _ _ _ _ _ => pts_nil) (fun _ _ _ _ _ => (pe_op op_add_str (pe_op op_add_str (pv 1) pe_str) (pv 2))))))), ?_⟩
  have hlen : rs.length = es.length := by rw [hR.length, List.length_map]
  have hz := sizeL
  refine ⟨⟨_, rfl⟩, _, rfl, a, rfl, ⟨_, hS⟩, fun D nD => ?_⟩
  refine lcP walk_tup (fun i => ((es[i]?).map fun e => V.str (OH.T (pairT e))).getD .non) nD (by rw [hlen]; exact Nat.lt_of_le_of_lt hl (by decide)) (fun _ e => (Kx.same (M := M0) e).sqT NoT.zero hS) (fun i v H1 H2 Q1 hi e1 y k1 => ?_) (fun H1 e1 hD => ?_)
  · obtain ⟨rfl, hv⟩ := y
    obtain ⟨e, b, u, h1, rfl, h3, h4⟩ := ent_at (x := Ent.x) (hR.sm e1) hv
    obtain rfl := h4.str_of
    have hb := (sm_sep hsm (pairT e) (List.mem_map.mpr ⟨e, List.mem_of_getElem? h1, rfl⟩)).len
    have hp := pair_len e
    have o1 : (": " : Str).length = 2 := rfl
    refine ⟨b, _, rfl, h3, rfl, _, _, rfl, _, _, rfl, rfl, rfl, _, rfl, _, _, rfl, rfl, by rw [o1]; omega, _, rfl, _, _, rfl, rfl, by rw [len_app, o1]; omega, ?_⟩
    rw [pair_T]
    have z := k1 _ (Same.refl _)
    rw [h1] at z
    exact z
  · have hN : H1 D = some (.lst (((es.map pairT).map OH.T).map V.str)) := by
      rw [hD, hlen, List.map_map, List.map_map, range_map_get (f := fun e : Ent => V.str (OH.T (pairT e))) es fun i e h => by rw [h]; rfl]
      rfl
    refine ⟨_, D, _, rfl, rfl, .inl (SqL.of hN), join_ok rfl hsm, ?_⟩
    rw [join_T]
    exact k _ e1
end
end OH
end

section
set_option Elab.async false
set_option linter.all false
set_option maxRecDepth 100000
set_option maxHeartbeats 4000000
set_option autoImplicit false
namespace OH
open PySem PySem.Spec PyProof.Rows L2
def VTp : Nat → PyData → List Tk → Prop
  | 0 => fun _ _ => False
  | n + 1 => VT n
theorem maps1 (a : List Tk) : [T a] = [a].map T := rfl
theorem Sm.mem {x : Str} {ps : List (List Tk)} (h : Sm (OH.fmt x ps)) {p : List Tk} (hp : p ∈ ps) : Sm p := sm_sep h.fmt p hp
section
variable {P : Program} {w : World} {K : PySem.W.Frag} {mg : Str → Option Value} {base : Heap}
theorem sq1 {K : PySem.W.Frag} {H1 H2 : Hp} (e1 : Same H1 H2) {a : Addr} {xs : List V} (h : SqT K H1 a xs) : SqT K H2 a xs := (Kx.same (M := M0) e1).sqT NoT.zero h
theorem ok_kind_text_s (T : Txt w K mg) {n : Nat} (ih : C8.Cal P w K mg base (2 + n) "kind_text" (spW K (KTc n)) []) : C8.Cal P w K mg base (2 + n + 1) "kind_text" (spW K (KTc (n + 1))) [] := by
  refine calD (tell_kind_text T) sc_kind_text bind_kind_text (fun vs H Q E h => ?_) (fun f cdv A outer s H vs Q E hr h => ?_)
  · obtain ⟨_, _, _, rfl, _⟩ := h
    rfl
  obtain ⟨v, d, ts, rfl, hv, ⟨c, hk⟩, hsm, k⟩ := h
  refine ⟨_, (pss_cons (ps_set (i := 1) sc_kind_text.nd rfl (by first | exact Or.inl rfl | exact Or.inr rfl) (pe_ix ix_tup (pv 0) pe_int (fun _ _ => rfl)))
    (pss_cons (ps_if (pt_cmpR op_eq (pv 1) pe_str (nomark _))
      (pss_one (ps_ret (C8.pe_c (ok_in_brackets T) hr (by omega) (by rfl) (pa_cons (pv 1) (pa_cons (pe_lst (pa_cons (pe_callTy call_str_int (by rfl) T.m_str bt_str (pa_cons (pe_ix ix_tup (pv 0) pe_int (fun _ _ => rfl)) pa_nil)) (pa_cons (pe_callTy call_str_int (by rfl) T.m_str bt_str (pa_cons (pe_ix ix_tup (pv 0) pe_int (fun _ _ => rfl)) pa_nil)) pa_nil))) pa_nil)))))
      pss_nil)
    (pss_cons (ps_if (pt_cmpR op_eq (pv 1) pe_str (nomark _))
      (pss_one (ps_ret (C8.pe_c (ok_in_brackets T) hr (by omega) (by rfl) (pa_cons (pv 1) (pa_cons (pe_lst (pa_cons (pe_callTy call_str_int (by rfl) T.m_str bt_str (pa_cons (pe_ix ix_tup (pv 0) pe_int (fun _ _ => rfl)) pa_nil)) pa_nil)) pa_nil)))))
      pss_nil)
    (pss_cons (ps_if (pt_cmpR op_eq (pv 1) pe_str (nomark _))
      (pss_one (ps_ret (C8.pe_c (ok_in_brackets T) hr (by omega) (by rfl) (pa_cons (pv 1) (pa_cons (pe_ix ix_tup (pv 0) pe_int (fun _ _ => rfl)) pa_nil)))))
      pss_nil)
    (pss_cons (ps_if (pt_cmpR op_eq (pv 1) pe_str (nomark _))
      (pss_one (ps_ret (C8.pe_c (ok_in_brackets T) hr (by omega) (by rfl) (pa_cons (pv 1) (pa_cons (pe_lst (pa_cons (pe_callTy call_str_int (by rfl) T.m_str bt_str (pa_cons (pe_ix ix_tup (pv 0) pe_int (fun _ _ => rfl)) pa_nil)) (pa_cons (C8.pe_c ih hr (by omega) (by rfl) (pa_cons (pe_ix ix_tup (pv 0) pe_int (fun _ _ => rfl)) pa_nil)) pa_nil))) pa_nil)))))
      pss_nil)
    (pss_cons (ps_if (pt_cmpR op_eq (pv 1) pe_str (nomark _))
      (pss_one (ps_ret (pe_op op_add_str (pe_op op_add_str (pe_op op_add_str (pv 1) pe_str) (C8.pe_c (ok_pairs_textL T) hr (by omega) (by rfl) (pa_cons (pe_lc (own := [("name", 2), ("inner", 3)]) (by rfl) sc_kind_text.nd (pi_tup (pe_ix ix_tup (pv 0) pe_int (fun _ _ => rfl))) (blkOk_by (own := [("name", 2), ("inner", 3)]) (N := ["kind", "word", "name", "inner"]) (sc := defScope s_kind_text) (by decide +kernel)) (fun _ _ _ _ _ => (show PG _ _ (gTup K 2 _) from pg_tup rfl (pgs_cons (pg_name (i := 2) sc_kind_text.nd rfl (by first | exact Or.inl rfl | exact Or.inr rfl)) (pgs_cons (pg_name (i := 3) sc_kind_text.nd rfl (by first | exact Or.inl rfl | exact Or.inr rfl)) pgs_nil)))) (fun _ _ _ _ _ => pts_nil) (fun _ _ _ _ _ => (pe_tup (pa_cons (pv 2) (pa_cons (C8.pe_c ih hr (by omega) (by rfl) (pa_cons (pv 3) pa_nil)) pa_nil))))) pa_nil))) pe_str)))
      pss_nil)
    (pss_one (ps_ret (C8.pe_c (ok_in_brackets T) hr (by omega) (by rfl) (pa_cons (pv 1) (pa_cons (pe_lst (pa_cons (pe_ix ix_tup (pv 0) pe_int (fun _ _ => rfl)) (pa_cons (pe_callTy call_str_int (by rfl) T.m_str bt_str (pa_cons (pe_ix ix_tup (pv 0) pe_int (fun _ _ => rfl)) pa_nil)) (pa_cons (C8.pe_c ih hr (by omega) (by rfl) (pa_cons (pe_ix ix_tup (pv 0) pe_int (fun _ _ => rfl)) pa_nil)) pa_nil)))) pa_nil))))))))))), ?_⟩
  unfold KT at hk
  rcases hk with ⟨lo, hi, e0, h1, h2, h3, rfl, rfl⟩ | ⟨m, e0, h1, h2, rfl, rfl⟩ | ⟨ws, e0, h1, h2, h3, h4, rfl, rfl⟩ | ⟨c1, k1, tk, m, e0, h1, h2, h3, rfl, rfl⟩ | ⟨fs, e0, h1, h2, h3, rfl, rfl⟩ | ⟨key, c1, k1, tk, m, e0, h1, h2, h3, h4, h5, rfl, rfl⟩
  · obtain ⟨a, xs, rfl, hS, hR⟩ := hv.tup_of
    obtain ⟨v0, vs, rfl, h0, hT⟩ := hR.cons_of
    obtain rfl := h0.str_of
    obtain ⟨u1, u2, rfl, r1, r2⟩ := hT.two_of
    obtain rfl := r1.int_of
    obtain rfl := r2.int_of
    refine ⟨_, rfl, a, _, _, _, rfl, rfl, hS, rfl, ?_⟩
    refine ⟨_, rfl, rfl, _, rfl, if_t (by decide +kernel) ?_⟩
    refine ⟨_, rfl, _, rfl, a, _, _, _, rfl, rfl, hS, rfl, lo, rfl, log_num (num_small h1 (Int.le_trans h2 h3)), ?_⟩
    refine ⟨_, rfl, a, _, _, _, rfl, rfl, hS, rfl, hi, rfl, log_num (num_small (Int.le_trans h1 h2) h3), (by show 2 ≤ sizeLine; decide), fun p np => ?_⟩
    refine ⟨_, p, [_, _], _, rfl, .inl (SqL.of upd_same), (by rw [← T_n, ← T_n]; rfl), hsm, k _ (Kx.new _ np).to⟩
  · obtain ⟨a, xs, rfl, hS, hR⟩ := hv.tup_of
    obtain ⟨v0, vs, rfl, h0, hT⟩ := hR.cons_of
    obtain rfl := h0.str_of
    obtain ⟨u1, rfl, r1⟩ := hT.one_of
    obtain rfl := r1.int_of
    refine ⟨_, rfl, a, _, _, _, rfl, rfl, hS, rfl, ?_⟩
    refine ⟨_, rfl, rfl, _, rfl, if_f (by decide +kernel) ?_⟩
    refine ⟨_, rfl, rfl, _, rfl, if_t (by decide +kernel) ?_⟩
    refine ⟨_, rfl, _, rfl, a, _, _, _, rfl, rfl, hS, rfl, m, rfl, log_num (num_tiny h1 h2), (by show 1 ≤ sizeLine; decide), fun p np => ?_⟩
    refine ⟨_, p, [_], _, rfl, .inl (SqL.of upd_same), (by rw [← T_n]; rfl), hsm, k _ (Kx.new _ np).to⟩
  · obtain ⟨a, xs, rfl, hS, hR⟩ := hv.tup_of
    obtain ⟨v0, vs, rfl, h0, hT⟩ := hR.cons_of
    obtain rfl := h0.str_of
    obtain ⟨u1, rfl, r1⟩ := hT.one_of
    obtain ⟨b, ys, rfl, hb, hys⟩ := r1.tup_of
    obtain rfl := hys.strs
    refine ⟨_, rfl, a, _, _, _, rfl, rfl, hS, rfl, ?_⟩
    refine ⟨_, rfl, rfl, _, rfl, if_f (by decide +kernel) ?_⟩
    refine ⟨_, rfl, rfl, _, rfl, if_f (by decide +kernel) ?_⟩
    refine ⟨_, rfl, rfl, _, rfl, if_t (by decide +kernel) ?_⟩
    refine ⟨_, rfl, _, rfl, a, _, _, _, rfl, rfl, hS, rfl, _, b, ws, _, rfl, .inr hb, ?_, hsm, k _ (Same.refl _)⟩
    rw [List.map_map]
    exact (List.map_congr_left (g := fun x => x) fun x _ => T_w x).trans (List.map_id' _) |>.symm
  · obtain ⟨a, xs, rfl, hS, hR⟩ := hv.tup_of
    obtain ⟨v0, vs, rfl, h0, hT⟩ := hR.cons_of
    obtain rfl := h0.str_of
    obtain ⟨u1, u2, rfl, r1, r2⟩ := hT.two_of
    obtain rfl := r2.int_of
    refine ⟨_, rfl, a, _, _, _, rfl, rfl, hS, rfl, ?_⟩
    refine ⟨_, rfl, rfl, _, rfl, if_f (by decide +kernel) ?_⟩
    refine ⟨_, rfl, rfl, _, rfl, if_f (by decide +kernel) ?_⟩
    refine ⟨_, rfl, rfl, _, rfl, if_f (by decide +kernel) ?_⟩
    refine ⟨_, rfl, rfl, _, rfl, if_t (by decide +kernel) ?_⟩
    refine ⟨_, rfl, _, rfl, a, _, _, _, rfl, rfl, hS, rfl, m, rfl, log_num (num_tiny h2 (Int.le_trans h3 (by decide))), ?_⟩
    refine ⟨_, rfl, a, _, _, _, rfl, rfl, hS, rfl, u1, k1, tk, rfl, r1, ⟨c1, h1⟩, hsm.mem (by simp), fun H1 e1 => ⟨(by show 2 ≤ sizeLine; decide), fun p np => ?_⟩⟩
    refine ⟨_, p, [_, _], _, rfl, .inl (SqL.of upd_same), (by rw [← T_n]; rfl), hsm, k _ (e1.trans (Kx.new _ np).to)⟩
  · obtain ⟨a, u, rfl, hS, hu⟩ := pair_of (x := "record") hv
    obtain ⟨b, rs, rfl, hb, hR⟩ := hu.tup_of
    have hlen : rs.length = fs.length := by rw [hR.length, List.length_map]
    let es : List Ent := fs.map fun f => ⟨f.x, f.k, f.ts⟩
    have ees : (fs.map fun f => (Tk.w f.x :: .s 58 :: .sp :: f.ts)) = es.map pairT := by
      show _ = (fs.map fun f => (⟨f.x, f.k, f.ts⟩ : Ent)).map pairT
      rw [List.map_map]
      rfl
    have hsm2 : Sm (fmt "record" (es.map pairT)) := by
      rw [← ees]
      exact hsm
    have hz := sizeL
    have hl2 := hsm2.len
    have hl3 := fmt_len "record" (es.map pairT)
    have o0 : ("record" : Str).length = 6 := rfl
    have o1 : ("(" : Str).length = 1 := rfl
    have o2 : (")" : Str).length = 1 := rfl
    refine ⟨_, rfl, a, _, _, _, rfl, rfl, hS, rfl, ?_⟩
    refine ⟨_, rfl, rfl, _, rfl, if_f (by decide +kernel) ?_⟩
    refine ⟨_, rfl, rfl, _, rfl, if_f (by decide +kernel) ?_⟩
    refine ⟨_, rfl, rfl, _, rfl, if_f (by decide +kernel) ?_⟩
    refine ⟨_, rfl, rfl, _, rfl, if_f (by decide +kernel) ?_⟩
    refine ⟨_, rfl, rfl, _, rfl, if_t (by decide +kernel) ?_⟩
    refine ⟨_, rfl, _, _, rfl, rfl, by rw [o0, o1]; omega, ?_⟩
    refine ⟨_, rfl, a, _, _, _, rfl, rfl, hS, rfl, b, rfl, ⟨_, hb⟩, fun D nD => ?_⟩
    refine lcS walk_tup (fun i acc H' => Same H H' ∧ RpA K H' acc ((fs.take i).map fun f => pairD f.x (.str (OH.T f.ts)))) (by rw [hlen]; exact Nat.lt_of_le_of_lt h1 (by decide)) ⟨(Kx.new _ nD).to, .nil⟩ (fun i acc H' _ h => sq1 h.1 hb) (fun i acc v H2 H3 Q1 hi hl hD hI y k1 => ?_) (fun acc H2 hl hD hI => ?_)
    · obtain ⟨rfl, hv⟩ := y
      obtain ⟨f, b2, u, g1, rfl, g3, g4⟩ := field_at (hR.sm hI.1) hv
      have hf := List.mem_of_getElem? g1
      have hsf : Sm f.ts := Sm.at (a := [.w f.x, .s 58, .sp]) (c := []) (by rw [List.append_nil]; exact hsm.mem (List.mem_map.mpr ⟨f, hf, rfl⟩))
      refine ⟨b2, _, rfl, g3, rfl, _, _, rfl, _, _, rfl, rfl, rfl, _, rfl, _, rfl, u, f.k, f.ts, rfl, g4, ⟨_, (h2 f hf).2⟩, hsf, fun H4 e4 => ⟨(by show 2 ≤ sizeLine; decide), fun p np => ?_⟩⟩
      have e5 : Same H3 (upd H4 p (.tup [V.str f.x, V.str (OH.T f.ts)])) := e4.trans (Kx.new _ np).to
      refine k1 _ _ (e5 _ _ hD) ⟨(Kx.mut (Kx.same (hI.1.trans e5)) _ nD).to, ?_⟩
      have hm : Kx (M1 D) (upd H4 p (.tup [V.str f.x, V.str (OH.T f.ts)])) (upd (upd H4 p (.tup [V.str f.x, V.str (OH.T f.ts)])) D (.lst (acc ++ [.ref p]))) := Kx.put _ rfl
      rw [List.take_add_one, g1, List.map_append]
      refine ((hI.2.sm e5).snoc (Rp.tup (SqT.of upd_same) (.cons (.str f.x) (.cons (.str (OH.T f.ts)) .nil)))).kx hm (NoT.one (e5 _ _ hD))
    · have hq := hI.2
      rw [hlen, List.take_length] at hq
      have hq2 : RpA K H2 acc (es.map fun e => pairD e.x (.str (OH.T e.ts))) := by
        show RpA K H2 acc ((fs.map fun f => (⟨f.x, f.k, f.ts⟩ : Ent)).map _)
        rw [List.map_map]
        exact hq
      refine ⟨D, acc, es, rfl, SqL.of hD, hq2, (by show (fs.map _).length ≤ 8; rw [List.length_map]; exact h1), hsm2.fmt, fun H3 e3 => ?_⟩
      refine ⟨_, _, rfl, rfl, by rw [len_app, o0, o1]; omega, _, _, rfl, rfl, by rw [len_app, len_app, o0, o1, o2]; omega, ?_⟩
      rw [fmt_T]
      have kk := k _ (hI.1.trans e3)
      unfold recT at kk
      rw [ees] at kk
      exact kk
  · obtain ⟨a, xs, rfl, hS, hR⟩ := hv.tup_of
    obtain ⟨v0, vs, rfl, h0, hT⟩ := hR.cons_of
    obtain rfl := h0.str_of
    obtain ⟨u1, u2, u3, rfl, r1, r2, r3⟩ := hT.three_of
    obtain rfl := r1.str_of
    obtain rfl := r3.int_of
    refine ⟨_, rfl, a, _, _, _, rfl, rfl, hS, rfl, ?_⟩
    refine ⟨_, rfl, rfl, _, rfl, if_f (by decide +kernel) ?_⟩
    refine ⟨_, rfl, rfl, _, rfl, if_f (by decide +kernel) ?_⟩
    refine ⟨_, rfl, rfl, _, rfl, if_f (by decide +kernel) ?_⟩
    refine ⟨_, rfl, rfl, _, rfl, if_f (by decide +kernel) ?_⟩
    refine ⟨_, rfl, rfl, _, rfl, if_f (by decide +kernel) ?_⟩
    refine ⟨_, rfl, _, rfl, a, _, _, _, rfl, rfl, hS, rfl, ?_⟩
    refine ⟨_, rfl, a, _, _, _, rfl, rfl, hS, rfl, m, rfl, log_num (num_tiny h4 (Int.le_trans h5 (by decide))), ?_⟩
    refine ⟨_, rfl, a, _, _, _, rfl, rfl, hS, rfl, u2, k1, tk, rfl, r2, ⟨c1, h1⟩, hsm.mem (by simp), fun H1 e1 => ⟨(by show 3 ≤ sizeLine; decide), fun p np => ?_⟩⟩
    refine ⟨_, p, [_, _, _], _, rfl, .inl (SqL.of upd_same), (by rw [← T_n]; show _ = [OH.T [.w key], _, _]; rw [T_w]), hsm, k _ (e1.trans (Kx.new _ np).to)⟩
theorem ok_kind_text (T : Txt w K mg) : ∀ n, C8.Cal P w K mg base (2 + n) "kind_text" (spW K (KTc n)) []
  | 0 => by
    refine calD (k := 1) (tell_kind_text T) sc_kind_text bind_kind_text (fun vs H Q E h => ?_) (fun f cdv A outer s H vs Q E hr h => ?_)
    · obtain ⟨_, _, _, _, _, ⟨_, h⟩, _⟩ := h
      exact h.elim
    · obtain ⟨_, _, _, _, _, ⟨_, h⟩, _⟩ := h
      exact h.elim
  | n + 1 => ok_kind_text_s T (ok_kind_text T n)
end
end OH
end

section
set_option Elab.async false
set_option linter.all false
set_option maxRecDepth 100000
set_option maxHeartbeats 4000000
set_option autoImplicit false
namespace OH
open PySem PySem.Spec PyProof.Rows L2
theorem VT_form {n : Nat} {d : PyData} {ts : List Tk} (h : VT n d ts) : (∃ i, IsNum i ∧ d = .int i ∧ ts = [.n i]) ∨ (∃ x, IsText x ∧ d = .str x ∧ ts = [.t x]) ∨
    (∃ es : List Ent, es.length ≤ 8 ∧ (∀ e ∈ es, VTp n e.v e.ts) ∧ d = .tuple [.str "list", .tuple (es.map (·.v))] ∧ ts = .s 91 :: (sep (es.map (·.ts)) ++ [.s 93])) ∨
    (∃ es : List Ent, es.length ≤ 8 ∧ (∀ e ∈ es, VTp n e.v e.ts) ∧ d = .tuple [.str "rows", .tuple (es.map (·.v))] ∧ ts = .s 40 :: (sep (es.map (·.ts)) ++ [.s 41])) ∨
    (∃ es : List Ent, es.length ≤ 8 ∧ (∀ e ∈ es, IsWord e.x ∧ VTp n e.v e.ts) ∧ d = .tuple [.str "record", .tuple (es.map fun e => pairD e.x e.v)] ∧ ts = .s 123 :: (sep (es.map pairT) ++ [.s 125])) := by
  cases n with
  | zero =>
    unfold VT at h
    rcases h with h | h
    · exact .inl h
    · exact .inr (.inl h)
  | succ n =>
    unfold VT at h
    exact h
theorem brk_T (o c : Str) (a b : Nat) (ho : TL.tl o = [a]) (hc : TL.tl c = [b]) (ps : List (List Tk)) : (o ++ T (sep ps)) ++ c = T (.s a :: (sep ps ++ [.s b])) := by
  refine TL.ext_tl ?_
  rw [TL.tl_append, TL.tl_append, ho, hc, T_tl, T_tl, TC_cons, TC_app]
  show [a] ++ TC (sep ps) ++ [b] = [a] ++ (TC (sep ps) ++ [b])
  rw [List.append_assoc]
theorem brk_len (a b : Nat) (ps : List (List Tk)) : (T (.s a :: (sep ps ++ [.s b]))).length = (T (sep ps)).length + 2 := by
  rw [T_len, T_len, TC_cons, TC_app, List.length_append, List.length_append]
  show 1 + ((TC (sep ps)).length + 1) = _
  omega
theorem Parts_at {Tr : PyData → List Tk → Prop} : ∀ {q : List Nat} {ds : List PyData} {ps : List (List Tk)}, Parts Tr q ds ps → q.length = ds.length ∧ ds.length = ps.length ∧ ∀ (i c : Nat) (d : PyData), q[i]? = some c → ds[i]? = some d → ∃ p : List Tk, ps[i]? = some p ∧ PR Tr c d p
  | [], ds, ps, h => by
    obtain ⟨rfl, rfl⟩ := Parts_nil h
    exact ⟨rfl, rfl, fun i c d e _ => by simp at e⟩
  | q :: qs, ds, ps, h => by
    obtain ⟨d, ds, p, ps, rfl, rfl, h1, h2⟩ := Parts_cons h
    obtain ⟨l1, l2, l3⟩ := Parts_at h2
    refine ⟨congrArg Nat.succ l1, congrArg Nat.succ l2, fun i c d' e1 e2 => ?_⟩
    cases i with
    | zero =>
      simp at e1 e2
      subst e1 e2
      exact ⟨p, rfl, h1⟩
    | succ i =>
      obtain ⟨p', g1, g2⟩ := l3 i c d' (by simpa using e1) (by simpa using e2)
      exact ⟨p', by simpa using g1, g2⟩
theorem turnF_asc : ∀ p ∈ turnF, p.2.cps.all (· < 128) = true := by unfold turnF; decide +kernel
theorem pieceF_asc : ∀ p ∈ pieceF, p.2.cps.all (· < 128) = true := by unfold pieceF; decide +kernel
theorem turnKV {x z : Str} (h : (x, z) ∈ turnF) : (x, He.Dv.str z) ∈ turnsKV := (show turnsKV = turnF.map (fun p : Str × Str => (p.1, He.Dv.str p.2)) from rfl) ▸ List.mem_map.mpr ⟨_, h, rfl⟩
theorem pieceKV {x z : Str} (h : (x, z) ∈ pieceF) : (x, He.Dv.str z) ∈ piecesKV := (show piecesKV = pieceF.map (fun p : Str × Str => (p.1, He.Dv.str p.2)) from rfl) ▸ List.mem_map.mpr ⟨_, h, rfl⟩
theorem form_lens {F : List (Str × Str)} {Tr : PyData → List Tk → Prop} (hF : ∀ p ∈ F, (TL.tl p.2).length ≤ 6) {x q : Str} (h : (x, q) ∈ F) {ds : List PyData} {ps : List (List Tk)} (hp : Parts Tr (TL.tl q) ds ps) : q.cps.size = ds.length ∧ ds.length = ps.length ∧ ds.length ≤ 6 := by
  obtain ⟨h1, h2, _⟩ := Parts_at hp
  have h3 : (TL.tl q).length ≤ 6 := hF _ h
  have e : (TL.tl q).length = q.cps.size := Array.length_toList
  refine ⟨by omega, h2, by omega⟩
theorem turnF_six : ∀ p ∈ turnF, (TL.tl p.2).length ≤ 6 := by unfold turnF; decide +kernel
theorem cut1 (v : V) (vs : List V) : cutV (v :: vs) (some 1) none = vs := by
  unfold cutV
  have e1 : HT.sIx (v :: vs).length 0 (some 1) = 1 := by
    rw [show (1 : Int) = ((1 : Nat) : Int) from rfl, HT.sIx_nat, List.length_cons]
    omega
  rw [e1, HT.sIx_none]
  show List.take ((v :: vs).length - 1) vs = vs
  rw [List.length_cons]
  exact List.take_of_length_le (by omega)
theorem cut1_no (v : V) (vs : List V) : ¬ (HT.sIx (v :: vs).length 0 (some 1) = 0 ∧ HT.sIx (v :: vs).length (v :: vs).length none = (v :: vs).length) := fun h => by
  have e1 : HT.sIx (v :: vs).length 0 (some 1) = 1 := by
    rw [show (1 : Int) = ((1 : Nat) : Int) from rfl, HT.sIx_nat, List.length_cons]
    omega
  rw [e1] at h
  exact absurd h.1 (by decide)
def spPartText (K : PySem.W.Frag) (n : Nat) : Sp := fun vs H Q _ => ∃ (c : Nat) (v : V) (d : PyData) (ts : List Tk), vs = [.str ⟨#[c]⟩, v] ∧ Rp K H v d ∧ PR (TT n) c d ts ∧ Sm ts ∧ ∀ H', Same H H' → Q (.str (T ts)) H'
section
variable {P : Program} {w : World} {K : PySem.W.Frag} {mg : Str → Option Value} {base : Heap}
theorem ok_value_text_s (T : Txt w K mg) {n : Nat} (ih : C8.Cal P w K mg base (2 + n) "value_text" (spW K (VTp n)) []) : C8.Cal P w K mg base (2 + n + 1) "value_text" (spW K (VTp (n + 1))) [] := by
  refine calD (tell_value_text T) sc_value_text bind_value_text (fun vs H Q E h => ?_) (fun f cdv A outer s H vs Q E hr h => ?_)
  · obtain ⟨_, _, _, rfl, _⟩ := h
    rfl
  obtain ⟨v, d, ts, rfl, hv, hk, hsm, k⟩ := h
  refine ⟨_, (pss_cons (ps_if (pt_val (pe_callB call_isi (by rfl) T.m_isinstance bt_isinstance (pa_cons (pv 0) (pa_cons (pe_bltn (v := .ty "str") (by rfl) T.m_str bt_str rfl) pa_nil))))
      (pss_one (ps_ret (C8.pe_c (ok_quoted T) hr (by omega) (by rfl) (pa_cons (pv 0) pa_nil))))
      pss_nil)
    (pss_cons (ps_if (pt_not (pt_val (pe_callB call_isi (by rfl) T.m_isinstance bt_isinstance (pa_cons (pv 0) (pa_cons (pe_bltn (v := .ty "tuple") (by rfl) T.m_tuple bt_tuple rfl) pa_nil)))))
      (pss_one (ps_ret (pe_callTy call_str_int (by rfl) T.m_str bt_str (pa_cons (pv 0) pa_nil))))
      pss_nil)
    (pss_cons (ps_if (pt_cmpR op_eq (pe_ix ix_tup (pv 0) pe_int (fun _ _ => rfl)) pe_str (nomark _))
      (pss_one (ps_ret (pe_op op_add_str (pe_op op_add_str pe_str (C8.pe_c (ok_pairs_textL T) hr (by omega) (by rfl) (pa_cons (pe_lc (own := [("name", 3), ("inner", 4)]) (by rfl) sc_value_text.nd (pi_tup (pe_ix ix_tup (pv 0) pe_int (fun _ _ => rfl))) (blkOk_by (own := [("name", 3), ("inner", 4)]) (N := ["value", "items", "item", "name", "inner"]) (sc := defScope s_value_text) (by decide +kernel)) (fun _ _ _ _ _ => (show PG _ _ (gTup K 2 _) from pg_tup rfl (pgs_cons (pg_name (i := 3) sc_value_text.nd rfl (by first | exact Or.inl rfl | exact Or.inr rfl)) (pgs_cons (pg_name (i := 4) sc_value_text.nd rfl (by first | exact Or.inl rfl | exact Or.inr rfl)) pgs_nil)))) (fun _ _ _ _ _ => pts_nil) (fun _ _ _ _ _ => (pe_tup (pa_cons (pv 3) (pa_cons (C8.pe_c ih hr (by omega) (by rfl) (pa_cons (pv 4) pa_nil)) pa_nil))))) pa_nil))) pe_str)))
      pss_nil)
    (pss_cons (ps_set (i := 1) sc_value_text.nd rfl (by first | exact Or.inl rfl | exact Or.inr rfl) (pe_join pe_str (pe_lc (own := [("item", 2)]) (by rfl) sc_value_text.nd (pi_tup (pe_ix ix_tup (pv 0) pe_int (fun _ _ => rfl))) (blkOk_by (own := [("item", 2)]) (N := ["value", "items", "item", "name", "inner"]) (sc := defScope s_value_text) (by decide +kernel)) (fun _ _ _ _ _ => (pg_name (i := 2) sc_value_text.nd rfl (by first | exact Or.inl rfl | exact Or.inr rfl))) (fun _ _ _ _ _ => pts_nil) (fun _ _ _ _ _ => (C8.pe_c ih hr (by omega) (by rfl) (pa_cons (pv 2) pa_nil))))))
    (pss_cons (ps_if (pt_cmpR op_eq (pe_ix ix_tup (pv 0) pe_int (fun _ _ => rfl)) pe_str (nomark _))
      (pss_one (ps_ret (pe_op op_add_str (pe_op op_add_str pe_str (pv 1)) pe_str)))
      pss_nil)
    (pss_one (ps_ret (pe_op op_add_str (pe_op op_add_str pe_str (pv 1)) pe_str)))))))), ?_⟩
  have hz := sizeL
  rcases VT_form hk with ⟨i, h1, rfl, rfl⟩ | ⟨x, h1, rfl, rfl⟩ | ⟨es, h1, h2, rfl, rfl⟩ | ⟨es, h1, h2, rfl, rfl⟩ | ⟨es, h1, h2, rfl, rfl⟩
  · obtain rfl := hv.int_of
    refine ⟨_, rfl, _, _, _, _, _, rfl, .ty _, .base (.int i), isi_is, _, rfl, if_f rfl ?_⟩
    refine ⟨_, rfl, _, _, _, _, _, rfl, .ty _, .base (.int i), isi_it, _, rfl, if_t rfl ?_⟩
    refine ⟨_, rfl, i, rfl, log_num h1, ?_⟩
    have kk := k _ (Same.refl _)
    rw [T_n] at kk
    exact kk
  · obtain rfl := hv.str_of
    refine ⟨_, rfl, _, _, _, _, _, rfl, .ty _, .base (.str x), isi_ss, _, rfl, if_t rfl ?_⟩
    exact ⟨_, rfl, x, rfl, h1, k _ (Same.refl _)⟩
  · obtain ⟨a, xs, rfl, hS, hR⟩ := hv.tup_of
    obtain ⟨v0, u, rfl, h0, hu⟩ := hR.two_of
    obtain rfl := h0.str_of
    obtain ⟨b, rs, rfl, hb, hR⟩ := hu.tup_of
    have hlen : rs.length = es.length := by rw [hR.length, List.length_map]
    have hl2 := hsm.len
    have hl3 := brk_len 91 93 (es.map (·.ts))
    refine ⟨_, rfl, _, _, _, _, _, rfl, .ty _, tyx_tup hS, isi_ts, _, rfl, if_f rfl ?_⟩
    refine ⟨_, rfl, _, _, _, _, _, rfl, .ty _, tyx_tup hS, isi_tt, _, rfl, if_f rfl ?_⟩
    refine ⟨_, rfl, a, _, _, _, rfl, rfl, hS, rfl, rfl, _, rfl, if_f (by decide +kernel) ?_⟩
    refine ⟨⟨_, rfl⟩, _, rfl, a, _, _, _, rfl, rfl, hS, rfl, b, rfl, ⟨_, hb⟩, fun D nD => ?_⟩
    refine lcS walk_tup (fun i acc H' => Same H H' ∧ acc = (es.take i).map fun e => V.str (OH.T e.ts)) (by rw [hlen]; exact Nat.lt_of_le_of_lt h1 (by decide)) ⟨(Kx.new _ nD).to, rfl⟩ (fun i acc H' _ h => sq1 h.1 hb) (fun i acc v H2 H3 Q1 hi hl hD hI y k1 => ?_) (fun acc H2 hl hD hI => ?_)
    · obtain ⟨rfl, hv⟩ := y
      obtain ⟨d1, g1, g2⟩ := (hR.sm hI.1).back hv
      rw [List.getElem?_map] at g1
      cases q : es[i]? with
      | none =>
        rw [q] at g1
        cases g1
      | some e =>
        rw [q] at g1
        obtain rfl := Option.some.inj g1
        have he := List.mem_of_getElem? q
        refine ⟨rfl, _, rfl, v, e.v, e.ts, rfl, g2, h2 e he, sm_sep hsm.brk e.ts (List.mem_map.mpr ⟨e, he, rfl⟩), fun H4 e4 => ?_⟩
        refine k1 _ _ (e4 _ _ hD) ⟨(Kx.mut (Kx.same (hI.1.trans e4)) _ nD).to, ?_⟩
        rw [List.take_add_one, q, List.map_append, hI.2]
        rfl
    · have hq := hI.2
      rw [hlen, List.take_length] at hq
      subst hq
      refine ⟨_, D, (es.map (·.ts)).map OH.T, rfl, rfl, .inl (SqL.of (by rw [hD, List.map_map, List.map_map]; rfl)), join_ok rfl hsm.brk, ?_⟩
      rw [join_T]
      refine ⟨_, rfl, a, _, _, _, rfl, rfl, sq1 hI.1 hS, rfl, rfl, _, rfl, if_t (by decide +kernel) ?_⟩
      refine ⟨_, rfl, _, _, rfl, rfl, by show 1 + _ ≤ _; omega, _, _, rfl, rfl, by rw [len_app]; show 1 + _ + 1 ≤ _; omega, ?_⟩
      rw [brk_T "[" "]" 91 93 rfl rfl]
      exact k _ hI.1
  · obtain ⟨a, xs, rfl, hS, hR⟩ := hv.tup_of
    obtain ⟨v0, u, rfl, h0, hu⟩ := hR.two_of
    obtain rfl := h0.str_of
    obtain ⟨b, rs, rfl, hb, hR⟩ := hu.tup_of
    have hlen : rs.length = es.length := by rw [hR.length, List.length_map]
    have hl2 := hsm.len
    have hl3 := brk_len 40 41 (es.map (·.ts))
    refine ⟨_, rfl, _, _, _, _, _, rfl, .ty _, tyx_tup hS, isi_ts, _, rfl, if_f rfl ?_⟩
    refine ⟨_, rfl, _, _, _, _, _, rfl, .ty _, tyx_tup hS, isi_tt, _, rfl, if_f rfl ?_⟩
    refine ⟨_, rfl, a, _, _, _, rfl, rfl, hS, rfl, rfl, _, rfl, if_f (by decide +kernel) ?_⟩
    refine ⟨⟨_, rfl⟩, _, rfl, a, _, _, _, rfl, rfl, hS, rfl, b, rfl, ⟨_, hb⟩, fun D nD => ?_⟩
    refine lcS walk_tup (fun i acc H' => Same H H' ∧ acc = (es.take i).map fun e => V.str (OH.T e.ts)) (by rw [hlen]; exact Nat.lt_of_le_of_lt h1 (by decide)) ⟨(Kx.new _ nD).to, rfl⟩ (fun i acc H' _ h => sq1 h.1 hb) (fun i acc v H2 H3 Q1 hi hl hD hI y k1 => ?_) (fun acc H2 hl hD hI => ?_)
    · obtain ⟨rfl, hv⟩ := y
      obtain ⟨d1, g1, g2⟩ := (hR.sm hI.1).back hv
      rw [List.getElem?_map] at g1
      cases q : es[i]? with
      | none =>
        rw [q] at g1
        cases g1
      | some e =>
        rw [q] at g1
        obtain rfl := Option.some.inj g1
        have he := List.mem_of_getElem? q
        refine ⟨rfl, _, rfl, v, e.v, e.ts, rfl, g2, h2 e he, sm_sep hsm.brk e.ts (List.mem_map.mpr ⟨e, he, rfl⟩), fun H4 e4 => ?_⟩
        refine k1 _ _ (e4 _ _ hD) ⟨(Kx.mut (Kx.same (hI.1.trans e4)) _ nD).to, ?_⟩
        rw [List.take_add_one, q, List.map_append, hI.2]
        rfl
    · have hq := hI.2
      rw [hlen, List.take_length] at hq
      subst hq
      refine ⟨_, D, (es.map (·.ts)).map OH.T, rfl, rfl, .inl (SqL.of (by rw [hD, List.map_map, List.map_map]; rfl)), join_ok rfl hsm.brk, ?_⟩
      rw [join_T]
      refine ⟨_, rfl, a, _, _, _, rfl, rfl, sq1 hI.1 hS, rfl, rfl, _, rfl, if_f (by decide +kernel) ?_⟩
      refine ⟨_, rfl, _, _, rfl, rfl, by show 1 + _ ≤ _; omega, _, _, rfl, rfl, by rw [len_app]; show 1 + _ + 1 ≤ _; omega, ?_⟩
      rw [brk_T "(" ")" 40 41 rfl rfl]
      exact k _ hI.1
  · obtain ⟨a, u, rfl, hS, hu⟩ := pair_of (x := "record") hv
    obtain ⟨b, rs, rfl, hb, hR⟩ := hu.tup_of
    have hlen : rs.length = es.length := by rw [hR.length, List.length_map]
    have hl2 := hsm.len
    have hl3 := brk_len 123 125 (es.map pairT)
    refine ⟨_, rfl, _, _, _, _, _, rfl, .ty _, tyx_tup hS, isi_ts, _, rfl, if_f rfl ?_⟩
    refine ⟨_, rfl, _, _, _, _, _, rfl, .ty _, tyx_tup hS, isi_tt, _, rfl, if_f rfl ?_⟩
    refine ⟨_, rfl, a, _, _, _, rfl, rfl, hS, rfl, rfl, _, rfl, if_t (by decide +kernel) ?_⟩
    refine ⟨_, rfl, a, _, _, _, rfl, rfl, hS, rfl, b, rfl, ⟨_, hb⟩, fun D nD => ?_⟩
    refine lcS walk_tup (fun i acc H' => Same H H' ∧ RpA K H' acc ((es.take i).map fun f => pairD f.x (.str (OH.T f.ts)))) (by rw [hlen]; exact Nat.lt_of_le_of_lt h1 (by decide)) ⟨(Kx.new _ nD).to, .nil⟩ (fun i acc H' _ h => sq1 h.1 hb) (fun i acc v H2 H3 Q1 hi hl hD hI y k1 => ?_) (fun acc H2 hl hD hI => ?_)
    · obtain ⟨rfl, hv⟩ := y
      obtain ⟨f, b2, u, g1, rfl, g3, g4⟩ := ent_at (x := Ent.x) (hR.sm hI.1) hv
      have hf := List.mem_of_getElem? g1
      have hsf : Sm f.ts := Sm.at (a := [.w f.x, .s 58, .sp]) (c := []) (by rw [List.append_nil]; exact sm_sep hsm.brk _ (List.mem_map.mpr ⟨f, hf, rfl⟩))
      refine ⟨b2, _, rfl, g3, rfl, _, _, rfl, _, _, rfl, rfl, rfl, _, rfl, _, rfl, u, f.v, f.ts, rfl, g4, (h2 f hf).2, hsf, fun H4 e4 => ⟨(by show 2 ≤ sizeLine; decide), fun p np => ?_⟩⟩
      have e5 : Same H3 (upd H4 p (.tup [V.str f.x, V.str (OH.T f.ts)])) := e4.trans (Kx.new _ np).to
      refine k1 _ _ (e5 _ _ hD) ⟨(Kx.mut (Kx.same (hI.1.trans e5)) _ nD).to, ?_⟩
      have hm : Kx (M1 D) (upd H4 p (.tup [V.str f.x, V.str (OH.T f.ts)])) (upd (upd H4 p (.tup [V.str f.x, V.str (OH.T f.ts)])) D (.lst (acc ++ [.ref p]))) := Kx.put _ rfl
      rw [List.take_add_one, g1, List.map_append]
      refine ((hI.2.sm e5).snoc (Rp.tup (SqT.of upd_same) (.cons (.str f.x) (.cons (.str (OH.T f.ts)) .nil)))).kx hm (NoT.one (e5 _ _ hD))
    · have hq := hI.2
      rw [hlen, List.take_length] at hq
      refine ⟨D, acc, es, rfl, SqL.of hD, hq, h1, hsm.brk, fun H3 e3 => ?_⟩
      refine ⟨_, _, rfl, rfl, by show 1 + _ ≤ _; omega, _, _, rfl, rfl, by rw [len_app]; show 1 + _ + 1 ≤ _; omega, ?_⟩
      rw [brk_T "{" "}" 123 125 rfl rfl]
      exact k _ (hI.1.trans e3)
theorem ok_value_text (T : Txt w K mg) : ∀ n, C8.Cal P w K mg base (2 + n) "value_text" (spW K (VTp n)) []
  | 0 => by
    refine calD (k := 1) (tell_value_text T) sc_value_text bind_value_text (fun vs H Q E h => ?_) (fun f cdv A outer s H vs Q E hr h => ?_)
    · obtain ⟨_, _, _, _, _, h, _⟩ := h
      exact h.elim
    · obtain ⟨_, _, _, _, _, h, _⟩ := h
      exact h.elim
  | n + 1 => ok_value_text_s T (ok_value_text T n)
theorem ok_part_text_s (T : Txt w K mg) {n : Nat} (ih : C8.Cal P w K mg base (6 + 2 * n) "turn_text" (spW K (TT n)) []) : C8.Cal P w K mg base (6 + 2 * n + 1) "part_text" (spPartText K n) [] := by
  refine calD (tell_part_text T) sc_part_text bind_part_text (fun vs H Q E h => ?_) (fun f cdv A outer s H vs Q E hr h => ?_)
  · obtain ⟨_, _, _, _, rfl, _⟩ := h
    rfl
  obtain ⟨c, v, d, ts, rfl, hv, hk, hsm, k⟩ := h
  refine ⟨_, (pss_cons (ps_if (pt_cmpR op_eq (pv 0) pe_str (nomark _))
      (pss_one (ps_ret (pv 1)))
      pss_nil)
    (pss_cons (ps_if (pt_cmpR op_eq (pv 0) pe_str (nomark _))
      (pss_one (ps_ret (pe_callTy call_str_int (by rfl) T.m_str bt_str (pa_cons (pv 1) pa_nil))))
      pss_nil)
    (pss_cons (ps_if (pt_cmpR op_eq (pv 0) pe_str (nomark _))
      (pss_one (ps_ret (C8.pe_c (ok_kind_text T 4) hr (by omega) (by rfl) (pa_cons (pv 1) pa_nil))))
      pss_nil)
    (pss_cons (ps_if (pt_cmpR op_eq (pv 0) pe_str (nomark _))
      (pss_one (ps_ret (C8.pe_c (ok_value_text T 4) hr (by omega) (by rfl) (pa_cons (pv 1) pa_nil))))
      pss_nil)
    (pss_cons (ps_if (pt_cmpR op_eq (pv 0) pe_str (nomark _))
      (pss_one (ps_ret (C8.pe_c ih hr (by omega) (by rfl) (pa_cons (pv 1) pa_nil))))
      pss_nil)
    (pss_one (ps_ret (C8.pe_c (ok_quoted T) hr (by omega) (by rfl) (pa_cons (pv 1) pa_nil))))))))), ?_⟩
  rcases hk with ⟨rfl, x, h1, rfl, rfl⟩ | ⟨rfl, i, h1, rfl, rfl⟩ | ⟨rfl, c1, h1⟩ | ⟨rfl, h1⟩ | ⟨rfl, h1⟩ | ⟨rfl, x, h1, rfl, rfl⟩
  · obtain rfl := hv.str_of
    refine ⟨_, rfl, rfl, _, rfl, if_t (by decide +kernel) ⟨_, rfl, ?_⟩⟩
    have kk := k _ (Same.refl _)
    rw [T_w] at kk
    exact kk
  · obtain rfl := hv.int_of
    refine ⟨_, rfl, rfl, _, rfl, if_f (by decide +kernel) ⟨_, rfl, rfl, _, rfl, if_t (by decide +kernel) ⟨_, rfl, i, rfl, log_num h1, ?_⟩⟩⟩
    have kk := k _ (Same.refl _)
    rw [T_n] at kk
    exact kk
  · refine ⟨_, rfl, rfl, _, rfl, if_f (by decide +kernel) ⟨_, rfl, rfl, _, rfl, if_f (by decide +kernel) ⟨_, rfl, rfl, _, rfl, if_t (by decide +kernel) ?_⟩⟩⟩
    exact ⟨_, rfl, v, d, ts, rfl, hv, ⟨c1, h1⟩, hsm, k⟩
  · refine ⟨_, rfl, rfl, _, rfl, if_f (by decide +kernel) ⟨_, rfl, rfl, _, rfl, if_f (by decide +kernel) ⟨_, rfl, rfl, _, rfl, if_f (by decide +kernel) ⟨_, rfl, rfl, _, rfl, if_t (by decide +kernel) ?_⟩⟩⟩⟩
    exact ⟨_, rfl, v, d, ts, rfl, hv, h1, hsm, k⟩
  · refine ⟨_, rfl, rfl, _, rfl, if_f (by decide +kernel) ⟨_, rfl, rfl, _, rfl, if_f (by decide +kernel) ⟨_, rfl, rfl, _, rfl, if_f (by decide +kernel) ⟨_, rfl, rfl, _, rfl, if_f (by decide +kernel) ⟨_, rfl, rfl, _, rfl, if_t (by decide +kernel) ?_⟩⟩⟩⟩⟩
    exact ⟨_, rfl, v, d, ts, rfl, hv, h1, hsm, k⟩
  · obtain rfl := hv.str_of
    refine ⟨_, rfl, rfl, _, rfl, if_f (by decide +kernel) ⟨_, rfl, rfl, _, rfl, if_f (by decide +kernel) ⟨_, rfl, rfl, _, rfl, if_f (by decide +kernel) ⟨_, rfl, rfl, _, rfl, if_f (by decide +kernel) ⟨_, rfl, rfl, _, rfl, if_f (by decide +kernel) ?_⟩⟩⟩⟩⟩
    exact ⟨_, rfl, x, rfl, h1, k _ (Same.refl _)⟩
theorem ok_turn_text_s (T : Txt w K mg) {n : Nat} (ih : C8.Cal P w K mg base (6 + 2 * n) "turn_text" (spW K (TT n)) []) : C8.Cal P w K mg base (7 + 2 * n + 1) "turn_text" (spW K (TT (n + 1))) [] := by
  refine calD (tell_turn_text T) sc_turn_text bind_turn_text (fun vs H Q E h => ?_) (fun f cdv A outer s H vs Q E hr h => ?_)
  · obtain ⟨_, _, _, rfl, _⟩ := h
    rfl
  obtain ⟨v, d, ts, rfl, hv, hk, hsm, k⟩ := h
  refine ⟨_, (pss_cons (ps_set (i := 1) sc_turn_text.nd rfl (by first | exact Or.inl rfl | exact Or.inr rfl) (pe_ix ix_tup (pv 0) pe_int (fun _ _ => rfl)))
    (pss_cons (ps_if (pt_cmpR op_eq (pv 1) pe_str (nomark _))
      (pss_one (ps_ret (pe_op op_add_str (pe_op op_add_str (pe_op op_add_str (pe_op op_add_str (pe_op op_add_str (pv 1) pe_str) (pe_join pe_str (pe_ix ix_tup (pv 0) pe_int (fun _ _ => rfl)))) pe_str) (C8.pe_c (ok_pairs_textT T) hr (by omega) (by rfl) (pa_cons (pe_ix ix_tup (pv 0) pe_int (fun _ _ => rfl)) pa_nil))) pe_str)))
      pss_nil)
    (pss_one (ps_ret (C8.pe_c (ok_in_brackets T) hr (by omega) (by rfl) (pa_cons (pv 1) (pa_cons (pe_lc (own := [("sort", 2), ("part", 3)]) (by rfl) sc_turn_text.nd (pi_zipST (by rfl) T.m_zip (pa_cons (pe_ix ix_kdict (C8.pe_gc (by rfl) T.g_TURNS) (pv 1) (fun _ _ => rfl)) (pa_cons (pe_slice sl_tupA (pv 0) (po_some pe_int) po_none) pa_nil))) (blkOk_by (own := [("sort", 2), ("part", 3)]) (N := ["turn", "word", "sort", "part"]) (sc := defScope s_turn_text) (by decide +kernel)) (fun _ _ _ _ _ => (show PG _ _ (gTup K 2 _) from pg_tup rfl (pgs_cons (pg_name (i := 2) sc_turn_text.nd rfl (by first | exact Or.inl rfl | exact Or.inr rfl)) (pgs_cons (pg_name (i := 3) sc_turn_text.nd rfl (by first | exact Or.inl rfl | exact Or.inr rfl)) pgs_nil)))) (fun _ _ _ _ _ => pts_nil) (fun _ _ _ _ _ => (C8.pe_c (ok_part_text_s T ih) hr (by omega) (by rfl) (pa_cons (pv 2) (pa_cons (pv 3) pa_nil))))) pa_nil))))))), ?_⟩
  have hz := sizeL
  rcases hk with ⟨ws, ps, ⟨h1, h2⟩, ⟨h3, h4⟩, h5, h6, rfl, rfl⟩ | ⟨x, q, ds, ps, hF, hP, rfl, rfl⟩
  · obtain ⟨a, xs, rfl, hS, hR⟩ := hv.tup_of
    obtain ⟨v0, u1, u2, rfl, r0, r1, r2⟩ := hR.three_of
    obtain rfl := r0.str_of
    obtain ⟨b, ys, rfl, hb, hys⟩ := r1.tup_of
    obtain rfl := hys.strs
    obtain ⟨b2, rs, rfl, hb2, hrs⟩ := r2.tup_of
    let es : List Ent := ps.map fun p => ⟨p.x, .str p.y, [.w p.y]⟩
    have ees : (ps.map fun p => [Tk.w p.x, .s 58, .sp, .w p.y]) = es.map pairT := by
      show _ = (ps.map fun p => (⟨p.x, .str p.y, [.w p.y]⟩ : Ent)).map pairT
      rw [List.map_map]
      rfl
    have hq2 : RpA K H rs (es.map fun e => pairD e.x (.str (OH.T e.ts))) := by
      show RpA K H rs ((ps.map fun p => (⟨p.x, .str p.y, [.w p.y]⟩ : Ent)).map _)
      rw [List.map_map]
      have e : (ps.map ((fun e : Ent => pairD e.x (.str (OH.T e.ts))) ∘ fun p => (⟨p.x, .str p.y, [.w p.y]⟩ : Ent))) = ps.map fun p => pairD p.x (.str p.y) := List.map_congr_left fun p _ => by
        show pairD p.x (.str (OH.T [.w p.y])) = _
        rw [T_w]
      rw [e]
      exact hrs
    rw [ees] at hsm k
    have e0 : ("words" ++ "(" ++ OH.T (sep (ws.map fun x => [.w x])) ++ "; " ++ OH.T (sep (es.map pairT)) ++ ")") = OH.T (.w "words" :: .s 40 :: (sep (ws.map fun x => [.w x]) ++ (.s 59 :: .sp :: (sep (es.map pairT) ++ [.s 41])))) := by
      refine TL.ext_tl ?_
      rw [TL.tl_append, TL.tl_append, TL.tl_append, TL.tl_append, TL.tl_append, T_tl, T_tl, T_tl]
      show _ = TC ([.w "words", .s 40] ++ (sep (ws.map fun x => [.w x]) ++ ([.s 59, .sp] ++ (sep (es.map pairT) ++ [.s 41]))))
      rw [TC_app, TC_app, TC_app, TC_app]
      simp only [List.append_assoc]
      rfl
    have s1 : Sm (sep (ws.map fun x => [.w x])) := Sm.at (a := [.w "words", .s 40]) hsm
    have s2 : Sm (sep (es.map pairT)) := Sm.at (a := .w "words" :: .s 40 :: (sep (ws.map fun x => [.w x]) ++ [.s 59, .sp])) (c := [.s 41]) (by simpa using hsm)
    have hl := hsm.len
    rw [← e0, len_app, len_app, len_app, len_app, len_app] at hl
    have ew : ws = (ws.map fun x => [Tk.w x]).map OH.T := by
      rw [List.map_map]
      exact (List.map_congr_left (g := fun x => x) fun x _ => T_w x).trans (List.map_id' _) |>.symm
    have ej : Txt.join ", " ws = OH.T (sep (ws.map fun x => [.w x])) := by
      rw [← join_T, ← ew]
    refine ⟨_, rfl, a, _, _, _, rfl, rfl, hS, rfl, ?_⟩
    refine ⟨_, rfl, rfl, _, rfl, if_t (by decide +kernel) ?_⟩
    refine ⟨_, rfl, _, _, rfl, rfl, (by decide +kernel), ⟨_, rfl⟩, _, rfl, a, _, _, _, rfl, rfl, hS, rfl, _, b, ws, rfl, rfl, .inr hb, join_ok ew s1, ?_⟩
    rw [ej]
    refine ⟨_, _, rfl, rfl, by rw [len_app]; omega, _, _, rfl, rfl, by rw [len_app, len_app]; omega, ?_⟩
    refine ⟨_, rfl, a, _, _, _, rfl, rfl, hS, rfl, b2, rs, es, rfl, hb2, hq2, (by show (ps.map _).length ≤ 8; rw [List.length_map]; exact h4), s2, fun H1 e1 => ?_⟩
    refine ⟨_, _, rfl, rfl, by rw [len_app, len_app, len_app]; omega, _, _, rfl, rfl, by rw [len_app, len_app, len_app, len_app]; omega, ?_⟩
    rw [e0]
    exact k _ e1
  · obtain ⟨a, xs, rfl, hS, hR⟩ := hv.tup_of
    obtain ⟨v0, vs, rfl, h0, hT⟩ := hR.cons_of
    obtain rfl := h0.str_of
    obtain ⟨l1, l2, l3⟩ := form_lens turnF_six hF hP
    obtain ⟨_, _, hat⟩ := Parts_at hP
    have hlv : vs.length = ds.length := hT.length
    refine ⟨_, rfl, a, _, 0, _, rfl, rfl, hS, atI_nat (j := 0) rfl, ?_⟩
    refine ⟨_, rfl, rfl, _, rfl, if_f (decide_eq_false fun e => turnF_words _ hF (V.str.inj e)) ?_⟩
    refine ⟨_, rfl, _, rfl, _, x, _, rfl, rfl, T.k_TURNS (turnKV hF), _, rfl, _, rfl, a, _, rfl, hS, (fun e => absurd e (cut1_no _ _)), fun _ p np => ?_⟩
    rw [cut1]
    have ep : Same H (upd H p (.tup vs)) := (Kx.new _ np).to
    refine ⟨q, p, vs, rfl, turnF_asc _ hF, SqT.of upd_same, fun D nD => ?_⟩
    have hT2 := hT.sm ep
    refine lcS (walk_zipS (by omega)) (fun i acc H' => Same (upd H p (.tup vs)) H' ∧ acc = (ps.take i).map fun e => V.str (OH.T e)) (by rw [hlv]; exact Nat.lt_of_le_of_lt l3 (by decide)) ⟨(Kx.new _ nD).to, rfl⟩ (fun i acc H' _ h => sq1 h.1 (SqT.of upd_same)) (fun i acc v H2 H3 Q1 hi hl hD hI y k1 => ?_) (fun acc H2 hl hD hI => ?_)
    · obtain ⟨t, c', y', rfl, nt, rfl, hc, hy⟩ := y
      have hc : (q.cps[i]?).map (fun c => V.str ⟨#[c]⟩) = some c' := hc
      cases hq : q.cps[i]? with
      | none =>
        rw [hq] at hc
        cases hc
      | some c =>
        rw [hq] at hc
        obtain rfl := Option.some.inj hc
        obtain ⟨d1, g1, g2⟩ := (hT2.sm hI.1).back hy
        obtain ⟨pp, g3, g4⟩ := hat i c d1 (by show (q.cps.toList)[i]? = some c; rw [Array.getElem?_toList]; exact hq) g1
        have et : Same H2 (upd H2 t (.tup [.str ⟨#[c]⟩, y'])) := (Kx.new _ nt).to
        refine ⟨t, _, rfl, SqT.of upd_same, rfl, _, _, rfl, _, _, rfl, rfl, rfl, _, rfl, _, rfl, c, y', d1, pp, rfl, g2.sm et, g4, hsm.mem (List.mem_of_getElem? g3), fun H4 e4 => ?_⟩
        have e5 := et.trans e4
        refine k1 _ _ (e5 _ _ hD) ⟨(Kx.mut (Kx.same (hI.1.trans e5)) _ nD).to, ?_⟩
        rw [List.take_add_one, g3, List.map_append, hI.2]
        rfl
    · have hq := hI.2
      rw [hlv, l2, List.take_length] at hq
      subst hq
      refine ⟨x, D, ps.map OH.T, ps, rfl, .inl (SqL.of (by rw [hD, List.map_map]; rfl)), rfl, hsm, k _ (ep.trans hI.1)⟩
theorem ok_turn_text (T : Txt w K mg) : ∀ n, C8.Cal P w K mg base (6 + 2 * n) "turn_text" (spW K (TT n)) []
  | 0 => by
    refine calD (k := 5) (tell_turn_text T) sc_turn_text bind_turn_text (fun vs H Q E h => ?_) (fun f cdv A outer s H vs Q E hr h => ?_)
    · obtain ⟨_, _, _, _, _, h, _⟩ := h
      exact h.elim
    · obtain ⟨_, _, _, _, _, h, _⟩ := h
      exact h.elim
  | n + 1 => cal_mono (ok_turn_text_s T (ok_turn_text T n)) (by omega)
theorem ok_part_text (T : Txt w K mg) (n : Nat) : C8.Cal P w K mg base (6 + 2 * n + 1) "part_text" (spPartText K n) [] := ok_part_text_s T (ok_turn_text T n)
theorem ok_piece_text (T : Txt w K mg) : C8.Cal P w K mg base (16) "piece_text" (spW K PT) [] := by
  refine calD (tell_piece_text T) sc_piece_text bind_piece_text (fun vs H Q E h => ?_) (fun f cdv A outer s H vs Q E hr h => ?_)
  · obtain ⟨_, _, _, rfl, _⟩ := h
    rfl
  obtain ⟨v, d, ts, rfl, hv, ⟨x, q, ds, ps, hF, hP, rfl, rfl⟩, hsm, k⟩ := h
  refine ⟨_, (pss_cons (ps_set (i := 1) sc_piece_text.nd rfl (by first | exact Or.inl rfl | exact Or.inr rfl) (pe_ix ix_tup (pv 0) pe_int (fun _ _ => rfl)))
    (pss_one (ps_ret (C8.pe_c (ok_in_brackets T) hr (by decide) (by rfl) (pa_cons (pv 1) (pa_cons (pe_lc (own := [("sort", 2), ("part", 3)]) (by rfl) sc_piece_text.nd (pi_zipST (by rfl) T.m_zip (pa_cons (pe_ix ix_kdict (C8.pe_gc (by rfl) T.g_PIECES) (pv 1) (fun _ _ => rfl)) (pa_cons (pe_slice sl_tupA (pv 0) (po_some pe_int) po_none) pa_nil))) (blkOk_by (own := [("sort", 2), ("part", 3)]) (N := ["piece", "word", "sort", "part"]) (sc := defScope s_piece_text) (by decide +kernel)) (fun _ _ _ _ _ => (show PG _ _ (gTup K 2 _) from pg_tup rfl (pgs_cons (pg_name (i := 2) sc_piece_text.nd rfl (by first | exact Or.inl rfl | exact Or.inr rfl)) (pgs_cons (pg_name (i := 3) sc_piece_text.nd rfl (by first | exact Or.inl rfl | exact Or.inr rfl)) pgs_nil)))) (fun _ _ _ _ _ => pts_nil) (fun _ _ _ _ _ => (C8.pe_c (ok_part_text T 4) hr (by decide) (by rfl) (pa_cons (pv 2) (pa_cons (pv 3) pa_nil))))) pa_nil)))))), ?_⟩
  obtain ⟨a, xs, rfl, hS, hR⟩ := hv.tup_of
  obtain ⟨v0, vs, rfl, h0, hT⟩ := hR.cons_of
  obtain rfl := h0.str_of
  obtain ⟨l1, l2, l3⟩ := form_lens pieceF_codes hF hP
  obtain ⟨_, _, hat⟩ := Parts_at hP
  have hlv : vs.length = ds.length := hT.length
  refine ⟨_, rfl, a, _, 0, _, rfl, rfl, hS, atI_nat (j := 0) rfl, ?_⟩
  refine ⟨_, rfl, _, rfl, _, x, _, rfl, rfl, T.k_PIECES (pieceKV hF), _, rfl, _, rfl, a, _, rfl, hS, (fun e => absurd e (cut1_no _ _)), fun _ p np => ?_⟩
  rw [cut1]
  have ep : Same H (upd H p (.tup vs)) := (Kx.new _ np).to
  refine ⟨q, p, vs, rfl, pieceF_asc _ hF, SqT.of upd_same, fun D nD => ?_⟩
  have hT2 := hT.sm ep
  refine lcS (walk_zipS (by omega)) (fun i acc H' => Same (upd H p (.tup vs)) H' ∧ acc = (ps.take i).map fun e => V.str (OH.T e)) (by rw [hlv]; exact Nat.lt_of_le_of_lt l3 (by decide)) ⟨(Kx.new _ nD).to, rfl⟩ (fun i acc H' _ h => sq1 h.1 (SqT.of upd_same)) (fun i acc v H2 H3 Q1 hi hl hD hI y k1 => ?_) (fun acc H2 hl hD hI => ?_)
  · obtain ⟨t, c', y', rfl, nt, rfl, hc, hy⟩ := y
    have hc : (q.cps[i]?).map (fun c => V.str ⟨#[c]⟩) = some c' := hc
    cases hq : q.cps[i]? with
    | none =>
      rw [hq] at hc
      cases hc
    | some c =>
      rw [hq] at hc
      obtain rfl := Option.some.inj hc
      obtain ⟨d1, g1, g2⟩ := (hT2.sm hI.1).back hy
      obtain ⟨pp, g3, g4⟩ := hat i c d1 (by show (q.cps.toList)[i]? = some c; rw [Array.getElem?_toList]; exact hq) g1
      have et : Same H2 (upd H2 t (.tup [.str ⟨#[c]⟩, y'])) := (Kx.new _ nt).to
      refine ⟨t, _, rfl, SqT.of upd_same, rfl, _, _, rfl, _, _, rfl, rfl, rfl, _, rfl, _, rfl, c, y', d1, pp, rfl, g2.sm et, g4, hsm.mem (List.mem_of_getElem? g3), fun H4 e4 => ?_⟩
      have e5 := et.trans e4
      refine k1 _ _ (e5 _ _ hD) ⟨(Kx.mut (Kx.same (hI.1.trans e5)) _ nD).to, ?_⟩
      rw [List.take_add_one, g3, List.map_append, hI.2]
      rfl
  · have hq := hI.2
    rw [hlv, l2, List.take_length] at hq
    subst hq
    refine ⟨x, D, ps.map OH.T, ps, rfl, .inl (SqL.of (by rw [hD, List.map_map]; rfl)), rfl, hsm, k _ (ep.trans hI.1)⟩
theorem ok_path_text (T : Txt w K mg) : C8.Cal P w K mg base (1) "path_text" (spW K PathT) [] := by
  refine calD (tell_path_text T) sc_path_text bind_path_text (fun vs H Q E h => ?_) (fun f cdv A outer s H vs Q E hr h => ?_)
  · obtain ⟨_, _, _, rfl, _⟩ := h
    rfl
  obtain ⟨v, d, ts, rfl, hv, ⟨xs, h1, h2, rfl, rfl⟩, hsm, k⟩ := h
  refine ⟨_, (pss_cons (ps_if (pt_cmpR op_eq (pe_callB call_len_seq (by rfl) T.m_len bt_len (pa_cons (pv 0) pa_nil)) pe_int (nomark _))
      (pss_one (ps_ret pe_str))
      pss_nil)
    (pss_one (ps_ret (pe_join pe_str (pe_lc (own := [("name", 1)]) (by rfl) sc_path_text.nd (pi_tup (pv 0)) (blkOk_by (own := [("name", 1)]) (N := ["path", "name"]) (sc := defScope s_path_text) (by decide +kernel)) (fun _ _ _ _ _ => (pg_name (i := 1) sc_path_text.nd rfl (by first | exact Or.inl rfl | exact Or.inr rfl))) (fun _ _ _ _ _ => pts_nil) (fun _ _ _ _ _ => (pe_op op_add_str pe_str (pv 1)))))))), ?_⟩
  obtain ⟨a, ys, rfl, hS, hys⟩ := hv.tup_of
  obtain rfl := hys.strs
  have hz := sizeL
  have hlen : (xs.map V.str).length = xs.length := List.length_map _
  by_cases e : xs = []
  · subst e
    refine ⟨_, rfl, a, _, rfl, .inr hS, rfl, _, rfl, if_t rfl ?_⟩
    exact k _ (Same.refl _)
  · have hpos : ¬ V.int ((xs.map V.str).length : Nat) = V.int 0 := fun q => e (by
      have z := V.int.inj q
      rw [hlen] at z
      exact List.length_eq_zero_iff.mp (Int.ofNat.inj z))
    refine ⟨_, rfl, a, _, rfl, .inr hS, rfl, _, rfl, if_f (decide_eq_false hpos) ?_⟩
    refine ⟨⟨_, rfl⟩, _, rfl, a, rfl, ⟨_, hS⟩, fun D nD => ?_⟩
    have ht : pathT xs = xs.flatMap fun x => [.s 47, .w x] := if_neg e
    rw [ht] at k hsm
    refine lcP walk_tup (fun i => ((xs[i]?).map fun x => V.str ("/" ++ x)).getD .non) nD (by rw [hlen]; exact Nat.lt_of_le_of_lt h1 (by decide)) (fun _ e => sq1 e hS) (fun i v H1 H2 Q1 hi e1 y k1 => ?_) (fun H1 e1 hD => ?_)
    · obtain ⟨rfl, hv⟩ := y
      rw [List.getElem?_map] at hv
      cases hq : xs[i]? with
      | none =>
        rw [hq] at hv
        cases hv
      | some x =>
        rw [hq] at hv
        obtain rfl := Option.some.inj hv
        have hx := (h2 x (List.mem_of_getElem? hq)).1.2
        have z := k1 _ (Same.refl _)
        rw [hq] at z
        exact ⟨rfl, _, rfl, _, _, rfl, rfl, (by show 1 + _ ≤ _; omega), z⟩
    · have hN : H1 D = some (.lst ((xs.map fun x => ("/" ++ x : Str)).map V.str)) := by
        rw [hD, hlen, List.map_map, range_map_get (f := fun x : Str => V.str ("/" ++ x)) xs fun i x h => by rw [h]; rfl]
        rfl
      have ej : ∀ l : List Str, Txt.join "" (l.map fun x => ("/" ++ x : Str)) = OH.T (l.flatMap fun x => [.s 47, .w x]) := fun l => by
        refine TL.ext_tl ?_
        rw [TL.join_eq, TL.tl_join, T_tl]
        show TL.joinL [] _ = _
        induction l with
        | nil => rfl
        | cons x l ih =>
          cases l with
          | nil =>
            show TL.tl ("/" ++ x) = _
            rw [TL.tl_append]
            show 47 :: TL.tl x = 47 :: (TL.tl x ++ [])
            rw [List.append_nil]
          | cons y l =>
            show TL.tl ("/" ++ x) ++ ([] ++ TL.joinL [] (((y :: l).map fun x => ("/" ++ x : Str)).map TL.tl)) = TC ([.s 47, .w x] ++ (y :: l).flatMap fun x => [.s 47, .w x])
            rw [ih, TC_app, TL.tl_append, List.nil_append]
            show (47 :: TL.tl x) ++ _ = (47 :: (TL.tl x ++ [])) ++ _
            rw [List.append_nil]
      have es : ∀ l : List Str, (∀ x ∈ l, IsWord x) → ((l.map fun x => ("/" ++ x : Str)).map (·.length)).sum ≤ l.length * 9 := fun l hl => by
        induction l with
        | nil => exact Nat.zero_le _
        | cons x l ih =>
          have i1 := ih fun z hz => hl z (List.mem_cons_of_mem _ hz)
          have i2 := (hl x (List.mem_cons_self ..)).1.2
          rw [List.map_cons, List.map_cons, List.sum_cons, List.length_cons, len_app]
          show 1 + x.length + _ ≤ _
          omega
      have e0 : ("" : Str).length = 0 := rfl
      refine ⟨_, D, _, rfl, rfl, .inl (SqL.of hN), by rw [e0, Nat.mul_zero]; have := es xs h2; omega, ?_⟩
      rw [ej]
      exact k _ e1
theorem ok_change_text (T : Txt w K mg) : C8.Cal P w K mg base (17) "change_text" (spW K CT) [] := by
  refine calD (tell_change_text T) sc_change_text bind_change_text (fun vs H Q E h => ?_) (fun f cdv A outer s H vs Q E hr h => ?_)
  · obtain ⟨_, _, _, rfl, _⟩ := h
    rfl
  obtain ⟨v, d, ts, rfl, hv, ⟨p, t, q, u, h1, h2, rfl, rfl⟩, hsm, k⟩ := h
  refine ⟨_, (pss_one (ps_ret (pe_op op_add_str (pe_op op_add_str (C8.pe_c (ok_path_text T) hr (by decide) (by rfl) (pa_cons (pe_ix ix_tup (pv 0) pe_int (fun _ _ => rfl)) pa_nil)) pe_str) (C8.pe_c (ok_piece_text T) hr (by decide) (by rfl) (pa_cons (pe_ix ix_tup (pv 0) pe_int (fun _ _ => rfl)) pa_nil))))), ?_⟩
  have hz := sizeL
  obtain ⟨a, xs, rfl, hS, hR⟩ := hv.tup_of
  obtain ⟨v1, v2, rfl, r1, r2⟩ := hR.two_of
  have s1 : Sm t := Sm.at (a := []) hsm
  have s2 : Sm u := Sm.at (a := t ++ [.sp]) (c := []) (by rw [List.append_nil, List.append_assoc]; exact hsm)
  have e0 : (OH.T t ++ " ") ++ OH.T u = OH.T (t ++ (.sp :: u)) := by
    have e1 : (" " : Str) = OH.T [.sp] := rfl
    rw [e1, T_app, T_app, List.append_assoc]
    rfl
  have hl := hsm.len
  rw [← e0, len_app, len_app] at hl
  refine ⟨_, rfl, a, _, _, _, rfl, rfl, hS, rfl, v1, p, t, rfl, r1, h1, s1, fun H1 e1 => ?_⟩
  refine ⟨_, _, rfl, rfl, by omega, ?_⟩
  refine ⟨_, rfl, a, _, _, _, rfl, rfl, sq1 e1 hS, rfl, v2, q, u, rfl, r2.sm e1, h2, s2, fun H2 e2 => ?_⟩
  refine ⟨_, _, rfl, rfl, by rw [len_app]; omega, ?_⟩
  rw [e0]
  exact k _ (e1.trans e2)
end
end OH
end

section
set_option Elab.async false
set_option linter.all false
set_option maxRecDepth 100000
set_option maxHeartbeats 4000000
set_option autoImplicit false
namespace OH
open PySem PySem.Spec PyProof.Rows L2
/-- a while of n turns -/
theorem while_up {c : L2.TT} {tb : TS} {D : Ends} {σ : L2.St} {H : Hp} (n : Nat) (Pv : Nat → L2.St → Hp → Prop) (h0 : Pv 0 σ H)
    (hs : ∀ i σ H (m : Nat) (W : Nat → L2.St → Hp → Prop), i ≤ n → Pv i σ H → (i < n → ∀ σ' H', Pv (i + 1) σ' H' → ∃ m', m' < m ∧ W m' σ' H') →
      c σ H fun b H1 => if b = true then (∃ N : L2.St → Hp → Prop, (∀ σ' H', N σ' H' → ∃ m', m' < m ∧ W m' σ' H') ∧ tb { D with nx := N, ct := N, bk := D.nx } σ H1) else D.nx σ H1) : tWhile c tb D σ H := by
  refine ⟨fun m σ H => ∃ i, m = n - i ∧ i ≤ n ∧ Pv i σ H, ⟨n, 0, rfl, Nat.zero_le _, h0⟩, ?_⟩
  rintro m σ H ⟨i, rfl, hi, p⟩
  exact hs i σ H (n - i) _ hi p fun hl σ' H' p' => ⟨n - (i + 1), by omega, i + 1, rfl, hl, p'⟩
def spRunEnd : Sp := fun vs H Q _ => ∃ (x sg : Str) (a b c : List Nat), vs = [.str x, .int (a.length : Nat), .str sg] ∧ TL.tl x = a ++ (b ++ c) ∧ x.length ≤ 10000000 ∧ (∀ d ∈ b, decide (d ∈ sg.cps.toList) = true) ∧ (∀ d l, c = d :: l → decide (d ∈ sg.cps.toList) = false) ∧
  Q (.int ((a.length + b.length : Nat) : Int)) H
def spQuotedEnd : Sp := fun vs H Q _ => ∃ (x y : Str) (a c : List Nat), vs = [.str x, .int (a.length : Nat)] ∧ TL.tl x = a ++ (34 :: (TL.tl y ++ 34 :: c)) ∧ x.length ≤ 10000000 ∧ IsText y ∧ ∀ H', Same H H' → Q (.int ((a.length + 1 + y.length + 1 : Nat) : Int)) H'
def spNumberEnd : Sp := fun vs H Q _ => ∃ (x : Str) (i : Int) (a c : List Nat), vs = [.str x, .int (a.length : Nat)] ∧ TL.tl x = a ++ (numI i ++ c) ∧ x.length ≤ 10000000 ∧ IsNum i ∧ (∀ d l, c = d :: l → ¬ (48 ≤ d ∧ d ≤ 57)) ∧ Q (.int ((a.length + (numI i).length : Nat) : Int)) H
def spWordsOf (K : PySem.W.Frag) : Sp := fun vs H Q _ => ∃ (ts : List Tk), vs = [.str (T ts)] ∧ Gd ts ∧ Sm ts ∧ ∀ (p : Addr) (H' : Hp) (us : List V), Same H H' → H' p = some (.lst us) → H p = none → RpA K H' us ((st ts).map tokD ++ [tokD .e]) → Q (.ref p) H'
theorem at_mid {x : Str} {a b : List Nat} {c : Nat} (h : TL.tl x = a ++ c :: b) : atI x.cps.toList ((a.length : Nat) : Int) = some c := by
  refine atI_nat ?_
  show (TL.tl x)[a.length]? = some c
  rw [h, List.getElem?_append_right (Nat.le_refl _), Nat.sub_self]
  rfl
theorem len_mid {x : Str} {a b : List Nat} (h : TL.tl x = a ++ b) : x.length = a.length + b.length := by rw [TL.len_tl, h, List.length_append]
theorem sg_ne {c d : Nat} (h : c ≠ d) : decide (V.str ⟨#[c]⟩ = V.str ⟨#[d]⟩) = false := decide_eq_false fun q => h (by
  injection q with q
  injection q with q
  exact (List.cons.inj (Array.toList_inj.mpr q)).1)
theorem sg_nes {c d : Nat} {z : Str} (hz : z = ⟨#[d]⟩) (h : c ≠ d) : decide (V.str ⟨#[c]⟩ = V.str z) = false := hz ▸ sg_ne h
theorem sg_eqs {c d : Nat} {z : Str} (hz : z = ⟨#[d]⟩) (h : c = d) : decide (V.str ⟨#[c]⟩ = V.str z) = true := by
  subst hz h
  exact decide_eq_true rfl
def WP (K : PySem.W.Frag) (H : Hp) (x : Str) (p : Addr) (ts : List Tk) (i : Nat) (σ : L2.St) (H' : Hp) : Prop :=
  Same H H' ∧ ∃ (us : List V) (y3 y4 : Option V), σ = [some (.str x), some (.ref p), some (.int ((TC (ts.take i)).length : Nat)), y3, y4] ∧ H' p = some (.lst us) ∧ RpA K H' us ((st (ts.take i)).map tokD)
theorem tc_take {ts : List Tk} {i : Nat} {t : Tk} (h : ts[i]? = some t) : TC (ts.take (i + 1)) = TC (ts.take i) ++ t.cs := by
  rw [List.take_add_one, h, TC_app]
  show _ ++ (t.cs ++ []) = _
  rw [List.append_nil]
theorem st_take {ts : List Tk} {i : Nat} {t : Tk} (h : ts[i]? = some t) : st (ts.take (i + 1)) = st (ts.take i) ++ st [t] := by
  rw [List.take_add_one, h, st_app]
  rfl
theorem st_one {t : Tk} (h : t ≠ .sp) : st [t] = [t] := by
  cases t with
  | sp => exact absurd rfl h
  | _ => rfl
theorem wp_add {K : PySem.W.Frag} {H H2 : Hp} {x : Str} {p : Addr} {ts : List Tk} {i : Nat} {t : Tk} {us : List V} {v : V} {y3 y4 : Option V} (hp : H p = none) (ht : ts[i]? = some t) (hne : t ≠ .sp) (hS : Same H H2) (h2 : H2 p = some (.lst us))
    (hR : RpA K H2 us ((st (ts.take i)).map tokD)) (hv : Rp K H2 v (tokD t)) {e : Int} (he : e = (((TC (ts.take i)).length + t.cs.length : Nat) : Int)) :
    WP K H x p ts (i + 1) [some (.str x), some (.ref p), some (.int e), y3, y4] (upd H2 p (.lst (us ++ [v]))) := by
  have hm : Kx (M1 p) H2 (upd H2 p (.lst (us ++ [v]))) := Kx.put _ rfl
  refine ⟨(Kx.mut (Kx.same hS) _ hp).to, us ++ [v], y3, y4, ?_, upd_same, ?_⟩
  · rw [tc_take ht, List.length_append, he]
  · rw [st_take ht, st_one hne, List.map_append]
    exact (hR.snoc hv).kx hm (NoT.one h2)
theorem take_len_le {ts : List Tk} {i : Nat} : (st (ts.take i)).length ≤ ts.length := by
  have h1 : (st (ts.take i)).length ≤ (ts.take i).length := List.length_filter_le ..
  rw [List.length_take] at h1
  omega
section
variable {P : Program} {w : World} {K : PySem.W.Frag} {mg : Str → Option Value} {base : Heap}
theorem ok_run_end (T : Txt w K mg) : C8.Cal P w K mg base (1) "run_end" (spRunEnd) [] := by
  refine calD (tell_run_end T) sc_run_end bind_run_end (fun vs H Q E h => ?_) (fun f cdv A outer s H vs Q E hr h => ?_)
  · obtain ⟨_, _, _, _, _, rfl, _⟩ := h
    rfl
  obtain ⟨x, sg, a, b, c, rfl, hx, hl, hb, hc, k⟩ := h
  refine ⟨_, (pss_cons (ps_while PassesOwn.never (PW.pt (pw_and (pt_cmpR op_lt (pv 1) (pe_callB call_len_str (by rfl) T.m_len bt_len (pa_cons (pv 0) pa_nil)) (nomark _)) (pw_and1 (pt_cmpR op_in_sign (pe_ix ix_str (pv 0) (pv 1) (fun _ _ => rfl)) (pv 2) rfl))))
      (pss_one (ps_set (i := 1) sc_run_end.nd rfl (by first | exact Or.inl rfl | exact Or.inr rfl) (pe_op op_add (pv 1) pe_int))))
    (pss_one (ps_ret (pv 1)))), ?_⟩
  have hz := sizeL
  have hlen := len_mid hx
  rw [List.length_append] at hlen
  refine while_up b.length (fun i σ H' => H' = H ∧ σ = [some (.str x), some (.int ((a.length + i : Nat) : Int)), some (.str sg)]) ⟨rfl, rfl⟩ (fun i σ H1 m W hi hP hW => ?_)
  · obtain ⟨rfl, rfl⟩ := hP
    by_cases hib : i < b.length
    · have hx2 : TL.tl x = (a ++ b.take i) ++ (b[i] :: (b.drop (i + 1) ++ c)) := by
        rw [hx, List.append_assoc]
        congr 1
        rw [← List.cons_append, ← List.drop_eq_getElem_cons hib, ← List.append_assoc, List.take_append_drop]
      have hat := at_mid hx2
      rw [List.length_append, List.length_take, Nat.min_eq_left (by omega)] at hat
      refine ⟨_, rfl, _, rfl, x, rfl, by omega, _, _, rfl, rfl, _, rfl, if_t (decide_eq_true (by omega)) ?_⟩
      refine ⟨_, rfl, _, rfl, x, _, _, rfl, rfl, by omega, hat, _, rfl, _, sg, rfl, rfl, _, rfl, if_t (hb _ (List.getElem_mem hib)) ?_⟩
      refine Exists.intro _ ⟨hW hib, ?_⟩
      refine ⟨_, rfl, _, _, rfl, rfl, rfl, ?_⟩
      show _ = _
      rw [show ((a.length + (i + 1) : Nat) : Int) = ((a.length + i : Nat) : Int) + 1 by omega]
      rfl
    · have e : i = b.length := by omega
      subst e
      cases c with
      | nil =>
        rw [List.length_nil] at hlen
        refine ⟨_, rfl, _, rfl, x, rfl, by omega, _, _, rfl, rfl, _, rfl, if_f (decide_eq_false (by omega)) ?_⟩
        exact ⟨_, rfl, k⟩
      | cons d l =>
        have hat := at_mid (x := x) (a := a ++ b) (c := d) (b := l) (by rw [hx, List.append_assoc])
        rw [List.length_append] at hat
        rw [List.length_cons] at hlen
        refine ⟨_, rfl, _, rfl, x, rfl, by omega, _, _, rfl, rfl, _, rfl, if_t (decide_eq_true (by omega)) ?_⟩
        refine ⟨_, rfl, _, rfl, x, _, _, rfl, rfl, by omega, hat, _, rfl, _, sg, rfl, rfl, _, rfl, if_f (hc _ _ rfl) ?_⟩
        exact ⟨_, rfl, k⟩
theorem ok_quoted_end (T : Txt w K mg) : C8.Cal P w K mg base (2) "quoted_end" (spQuotedEnd) [] := by
  refine calD (tell_quoted_end T) sc_quoted_end bind_quoted_end (fun vs H Q E h => ?_) (fun f cdv A outer s H vs Q E hr h => ?_)
  · obtain ⟨_, _, _, _, rfl, _⟩ := h
    rfl
  obtain ⟨x, y, a, c, rfl, hx, hl, hy, k⟩ := h
  refine ⟨_, (pss_cons (ps_set (i := 2) sc_quoted_end.nd rfl (by first | exact Or.inl rfl | exact Or.inr rfl) (pe_bm PySem.F.plainAttrs_str PySem.F.slot_str_find PySem.F.type_str_find mt_find3 (pv 0) (pa_cons pe_str (pa_cons (pe_op op_add (pv 1) pe_int) pa_nil))))
    (pss_cons (ps_if (PW.pt (pw_or (pt_cmpR op_lt (pv 2) pe_int (nomark _)) (pw_or1 (pt_not (pt_val (pe_callB (cr_all rfl) (by rfl) T.m_all bt_all (pa_cons (pe_lc (own := [("sign", 3)]) (by rfl) sc_quoted_end.nd (pi_str (pe_slice sl_str (pv 0) (po_some (pe_op op_add (pv 1) pe_int)) (po_some (pv 2)))) (blkOk_by (own := [("sign", 3)]) (N := ["text", "at", "end", "sign"]) (sc := defScope s_quoted_end) (by decide +kernel)) (fun _ _ _ _ _ => (pg_name (i := 3) sc_quoted_end.nd rfl (by first | exact Or.inl rfl | exact Or.inr rfl))) (fun _ _ _ _ _ => pts_nil) (fun _ _ _ _ _ => (C8.pe_c (ok_is_sign T) hr (by decide) (by rfl) (pa_cons (pv 3) pa_nil)))) pa_nil)))))))
      (pss_one ps_never)
      pss_nil)
    (pss_one (ps_ret (pe_op op_add (pv 2) pe_int))))), ?_⟩
  have hz := sizeL
  have ha : ((a.length : Nat) : Int) + 1 = (((a ++ [34]).length : Nat) : Int) := by
    rw [List.length_append]
    rfl
  have hx2 : TL.tl x = (a ++ [34]) ++ (TL.tl y ++ 34 :: c) := by
    rw [hx, List.append_assoc]
    rfl
  have hf := find_quote hx2 fun d hd => ((hy.2 d hd).2.1)
  have hlen : x.length = a.length + 1 + (y.length + (c.length + 1)) := by
    rw [len_mid hx2, List.length_append, List.length_append, List.length_cons, TL.len_tl y]
    rfl
  have hla : (a ++ [34]).length = a.length + 1 := List.length_append
  have e34 : ("\"" : Str) = ⟨#[34]⟩ := rfl
  refine ⟨_, rfl, rfl, _, rfl, _, _, rfl, rfl, _, _, _, rfl, rfl, ?_⟩
  rw [ha, e34, hf]
  refine ⟨_, rfl, _, _, rfl, rfl, _, rfl, if_f (decide_eq_false (by omega)) ?_⟩
  refine ⟨_, rfl, _, rfl, _, _, rfl, rfl, _, rfl, _, rfl, _, rfl, x, rfl, by omega, ?_⟩
  rw [ha, ← TL.len_tl y, cut_midS hx2]
  refine ⟨_, rfl, fun D nD => ?_⟩
  refine lcP walk_str (fun _ => .bl true) nD (Nat.lt_of_le_of_lt hy.1 (by decide)) (fun _ _ => True.intro) (fun i v H1 H2 Q1 hi e1 z k1 => ?_) (fun H1 e1 hD => ?_)
  · obtain ⟨rfl, c1, hc, rfl⟩ := z
    have hm : c1 ∈ TL.tl y := Array.mem_toList_iff.mpr (Array.mem_of_getElem? hc)
    obtain ⟨⟨g1, g2⟩, g3, g4⟩ := hy.2 c1 hm
    exact ⟨rfl, _, rfl, c1, rfl, g1, g2, g3, g4, k1 _ (Same.refl _)⟩
  · refine ⟨D, (List.range y.cps.size).map fun _ => true, rfl, SqL.of (by rw [hD, List.map_map]; rfl), _, rfl, if_f (by rw [all_true] <;> rfl) ?_⟩
    refine ⟨_, rfl, _, _, rfl, rfl, ?_⟩
    have kk := k _ e1
    rw [show ((a.length + 1 + y.length + 1 : Nat) : Int) = (((a ++ [34]).length + y.length : Nat) : Int) + 1 by rw [List.length_append]; show ((a.length + 1 + y.length + 1 : Nat) : Int) = ((a.length + 1 + y.length : Nat) : Int) + 1; omega] at kk
    exact kk
theorem ok_number_end (T : Txt w K mg) : C8.Cal P w K mg base (2) "number_end" (spNumberEnd) [] := by
  refine calD (tell_number_end T) sc_number_end bind_number_end (fun vs H Q E h => ?_) (fun f cdv A outer s H vs Q E hr h => ?_)
  · obtain ⟨_, _, _, _, rfl, _⟩ := h
    rfl
  obtain ⟨x, i, a, c, rfl, hx, hl, hi, hc, k⟩ := h
  refine ⟨_, (pss_cons (ps_set (i := 2) sc_number_end.nd rfl (by first | exact Or.inl rfl | exact Or.inr rfl) (pe_op op_add (pv 1) (pe_callTy call_int1 (by rfl) T.m_int bt_int (pa_cons (pe_cmpR op_eq (pe_ix ix_str (pv 0) (pv 1) (fun _ _ => rfl)) pe_str (nomark _)) pa_nil))))
    (pss_cons (ps_set (i := 3) sc_number_end.nd rfl (by first | exact Or.inl rfl | exact Or.inr rfl) (C8.pe_c (ok_run_end T) hr (by decide) (by rfl) (pa_cons (pv 0) (pa_cons (pv 2) (pa_cons (C8.pe_gc (by rfl) T.g_FIGURES) pa_nil)))))
    (pss_cons (ps_if (PW.pt (pw_or (pt_cmpR op_eq (pv 3) (pv 2) (nomark _)) (pw_or (pt_cmpR op_gt (pe_op op_sub (pv 3) (pv 2)) (C8.pe_gc (by rfl) T.g_MOST_FIGURES) (nomark _)) (pw_or1 (PW.pt (pw_and (pt_cmpR op_eq (pe_ix ix_str (pv 0) (pv 2) (fun _ _ => rfl)) pe_str (nomark _)) (pw_and1 (PW.pt (pw_or (pt_cmpR op_gt (pv 3) (pe_op op_add (pv 2) pe_int) (nomark _)) (pw_or1 (pt_cmpR op_gt (pv 2) (pv 1) (nomark _))))))))))))
      (pss_one ps_never)
      pss_nil)
    (pss_one (ps_ret (pv 3)))))), ?_⟩
  have hz := sizeL
  obtain ⟨m, hm, hm60⟩ := numI_form i hi
  have hne := TL.numL_ne m
  have hl60 : (TL.numL m).length ≤ 60 := TL.numL_len (by decide) hm60
  have hd : ∀ d ∈ TL.numL m, decide (d ∈ (Str.ofString "0123456789").cps.toList) = true := fun d hd => by
    rw [figs_iff]
    exact decide_eq_true (TL.numL_digits m d hd)
  have hc2 : ∀ d l, c = d :: l → decide (d ∈ (Str.ofString "0123456789").cps.toList) = false := fun d l e => by
    rw [figs_iff]
    exact decide_eq_false (hc d l e)
  cases hq : TL.numL m with
  | nil => exact absurd hq hne
  | cons d0 l0 =>
    have hd0 : 48 ≤ d0 ∧ d0 ≤ 57 := TL.numL_digits m d0 (by rw [hq]; exact List.mem_cons_self ..)
    have hpos : 1 ≤ (TL.numL m).length := by rw [hq, List.length_cons]; omega
    rcases hm with hm | ⟨hm, hm0⟩
    · rw [hm] at hx k
      have hlen := len_mid hx
      rw [List.length_append] at hlen
      have hx2 : TL.tl x = a ++ d0 :: (l0 ++ c) := by
        rw [hx, hq]
        rfl
      refine ⟨_, rfl, _, rfl, _, rfl, x, _, _, rfl, rfl, by omega, at_mid hx2, rfl, .inr ⟨_, rfl, ?_⟩⟩
      rw [show decide (V.str ⟨#[d0]⟩ = V.str "-") = false from sg_nes (d := 45) rfl (by omega)]
      refine ⟨_, _, rfl, rfl, ?_⟩
      have e0 : ((a.length : Nat) : Int) + (if false = true then 1 else 0) = ((a.length : Nat) : Int) := by simp
      show gName 2 (V.int (((a.length : Nat) : Int) + (if false = true then 1 else 0))) _ _ _
      rw [e0]
      refine ⟨_, rfl, _, rfl, x, _, a, TL.numL m, c, rfl, hx, hl, hd, hc2, ?_⟩
      refine ⟨_, rfl, _, rfl, rfl, _, rfl, if_f (decide_eq_false fun q => by have := V.int.inj q; omega) ?_⟩
      refine ⟨_, rfl, _, rfl, _, _, rfl, rfl, _, _, rfl, rfl, _, rfl, if_f (decide_eq_false (by omega)) ?_⟩
      refine ⟨_, rfl, _, rfl, x, _, _, rfl, rfl, by omega, at_mid hx2, rfl, _, rfl, ?_⟩
      by_cases hz0 : d0 = 48
      · subst hz0
        obtain ⟨hl0, _⟩ := numL_zero m l0 hq
        subst hl0
        have hone : (TL.numL m).length = 1 := by rw [hq]; rfl
        refine if_t (sg_eqs (d := 48) rfl rfl) ?_
        refine ⟨_, rfl, _, rfl, _, _, rfl, rfl, _, _, rfl, rfl, _, rfl, if_f (decide_eq_false (by omega)) ?_⟩
        refine ⟨_, rfl, _, rfl, _, _, rfl, rfl, _, rfl, if_f (decide_eq_false (by omega)) ?_⟩
        exact ⟨_, rfl, k⟩
      · refine if_f (sg_nes rfl hz0) ?_
        exact ⟨_, rfl, k⟩
    · rw [hm] at hx k
      have hx1 : TL.tl x = a ++ 45 :: (TL.numL m ++ c) := hx
      have hx3 : TL.tl x = (a ++ [45]) ++ (TL.numL m ++ c) := by
        rw [hx, List.append_assoc]
        rfl
      have hlen := len_mid hx3
      rw [List.length_append, List.length_append] at hlen
      have hlen : x.length = a.length + 1 + ((TL.numL m).length + c.length) := hlen
      have hx2 : TL.tl x = (a ++ [45]) ++ d0 :: (l0 ++ c) := by
        rw [hx3, hq]
        rfl
      have ha : (((a ++ [45]).length : Nat) : Int) = ((a.length : Nat) : Int) + 1 := by
        rw [List.length_append]
        rfl
      refine ⟨_, rfl, _, rfl, _, rfl, x, _, _, rfl, rfl, by omega, at_mid hx1, rfl, .inr ⟨_, rfl, ?_⟩⟩
      rw [show decide (V.str ⟨#[45]⟩ = V.str "-") = true from sg_eqs (d := 45) rfl rfl]
      refine ⟨_, _, rfl, rfl, ?_⟩
      have e0 : ((a.length : Nat) : Int) + (if true = true then 1 else 0) = (((a ++ [45]).length : Nat) : Int) := by rw [ha]; rfl
      show gName 2 (V.int (((a.length : Nat) : Int) + (if true = true then 1 else 0))) _ _ _
      rw [e0]
      refine ⟨_, rfl, _, rfl, x, _, a ++ [45], TL.numL m, c, rfl, hx3, hl, hd, hc2, ?_⟩
      refine ⟨_, rfl, _, rfl, rfl, _, rfl, if_f (decide_eq_false fun q => by have := V.int.inj q; omega) ?_⟩
      refine ⟨_, rfl, _, rfl, _, _, rfl, rfl, _, _, rfl, rfl, _, rfl, if_f (decide_eq_false (by omega)) ?_⟩
      refine ⟨_, rfl, _, rfl, x, _, _, rfl, rfl, by omega, at_mid hx2, rfl, _, rfl, ?_⟩
      have hz0 : d0 ≠ 48 := fun e => hm0 (numL_zero m l0 (by rw [hq, e])).2
      refine if_f (sg_nes rfl hz0) ?_
      refine ⟨_, rfl, ?_⟩
      rw [show ((a.length + (45 :: TL.numL m).length : Nat) : Int) = (((a ++ [45]).length + (TL.numL m).length : Nat) : Int) by rw [List.length_append, List.length_cons]; show ((a.length + ((TL.numL m).length + 1) : Nat) : Int) = ((a.length + 1 + (TL.numL m).length : Nat) : Int); omega] at k
      exact k
theorem ok_words_of (T : Txt w K mg) : C8.Cal P w K mg base (3) "words_of" (spWordsOf K) [] := by
  refine calD (tell_words_of T) sc_words_of bind_words_of (fun vs H Q E h => ?_) (fun f cdv A outer s H vs Q E hr h => ?_)
  · obtain ⟨_, rfl, _⟩ := h
    rfl
  obtain ⟨ts, rfl, hg, hsm, k⟩ := h
  refine ⟨_, (pss_cons (ps_set (i := 1) sc_words_of.nd rfl (by first | exact Or.inl rfl | exact Or.inr rfl) (pe_lst pa_nil))
    (pss_cons (ps_set (i := 2) sc_words_of.nd rfl (by first | exact Or.inl rfl | exact Or.inr rfl) pe_int)
    (pss_cons (ps_while PassesOwn.never (pt_cmpR op_lt (pv 2) (pe_callB call_len_str (by rfl) T.m_len bt_len (pa_cons (pv 0) pa_nil)) (nomark _))
      (pss_cons (ps_set (i := 3) sc_words_of.nd rfl (by first | exact Or.inl rfl | exact Or.inr rfl) (pe_ix ix_str (pv 0) (pv 2) (fun _ _ => rfl)))
      (pss_cons (ps_set (i := 4) sc_words_of.nd rfl (by first | exact Or.inl rfl | exact Or.inr rfl) (pe_op op_add (pv 2) pe_int))
      (pss_cons (ps_if (pt_cmpR op_eq (pv 3) pe_str (nomark _))
        (pss_cons (ps_set (i := 4) sc_words_of.nd rfl (by first | exact Or.inl rfl | exact Or.inr rfl) (C8.pe_c (ok_quoted_end T) hr (by decide) (by rfl) (pa_cons (pv 0) (pa_cons (pv 2) pa_nil))))
        (pss_one (ps_expr (pe_bm PySem.F.plainAttrs_list PySem.F.slot_list_append PySem.F.type_list_append mt_append (pv 1) (pa_cons (pe_tup (pa_cons pe_str (pa_cons (pe_slice sl_str (pv 0) (po_some (pe_op op_add (pv 2) pe_int)) (po_some (pe_op op_sub (pv 4) pe_int))) pa_nil))) pa_nil)))))
        (pss_one (ps_if (pt_cmpR op_in_sign (pv 3) (C8.pe_gc (by rfl) T.g_LETTERS_texts) rfl)
          (pss_cons (ps_set (i := 4) sc_words_of.nd rfl (by first | exact Or.inl rfl | exact Or.inr rfl) (C8.pe_c (ok_run_end T) hr (by decide) (by rfl) (pa_cons (pv 0) (pa_cons (pv 2) (pa_cons (C8.pe_gc (by rfl) T.g_LETTERS_texts) pa_nil)))))
          (pss_cons (ps_if (pt_cmpR op_gt (pe_op op_sub (pv 4) (pv 2)) (C8.pe_gc (by rfl) T.g_LONGEST) (nomark _))
            (pss_one ps_never)
            pss_nil)
          (pss_one (ps_expr (pe_bm PySem.F.plainAttrs_list PySem.F.slot_list_append PySem.F.type_list_append mt_append (pv 1) (pa_cons (pe_tup (pa_cons pe_str (pa_cons (pe_slice sl_str (pv 0) (po_some (pv 2)) (po_some (pv 4))) pa_nil))) pa_nil))))))
          (pss_one (ps_if (PW.pt (pw_or (pt_cmpR op_in_sign (pv 3) (C8.pe_gc (by rfl) T.g_FIGURES) rfl) (pw_or1 (pt_cmpR op_eq (pv 3) pe_str (nomark _)))))
            (pss_cons (ps_set (i := 4) sc_words_of.nd rfl (by first | exact Or.inl rfl | exact Or.inr rfl) (C8.pe_c (ok_number_end T) hr (by decide) (by rfl) (pa_cons (pv 0) (pa_cons (pv 2) pa_nil))))
            (pss_one (ps_expr (pe_bm PySem.F.plainAttrs_list PySem.F.slot_list_append PySem.F.type_list_append mt_append (pv 1) (pa_cons (pe_tup (pa_cons pe_str (pa_cons (pe_callTy call_int_str (by rfl) T.m_int bt_int (pa_cons (pe_slice sl_str (pv 0) (po_some (pv 2)) (po_some (pv 4))) pa_nil)) pa_nil))) pa_nil)))))
            (pss_one (ps_if (pt_cmpR op_in_sign (pv 3) (C8.pe_gc (by rfl) T.g_SIGNS) rfl)
              (pss_one (ps_expr (pe_bm PySem.F.plainAttrs_list PySem.F.slot_list_append PySem.F.type_list_append mt_append (pv 1) (pa_cons (pe_tup (pa_cons pe_str (pa_cons (pv 3) pa_nil))) pa_nil))))
              (pss_one (ps_if (pt_cmpR op_ne (pv 3) pe_str (nomark _))
                (pss_one ps_never)
                pss_nil)))))))))
      (pss_one (ps_set (i := 2) sc_words_of.nd rfl (by first | exact Or.inl rfl | exact Or.inr rfl) (pv 4)))))))
    (pss_cons (ps_expr (pe_bm PySem.F.plainAttrs_list PySem.F.slot_list_append PySem.F.type_list_append mt_append (pv 1) (pa_cons (pe_tup (pa_cons pe_str (pa_cons pe_str pa_nil))) pa_nil)))
    (pss_one (ps_ret (pv 1))))))), ?_⟩
  have hz := sizeL
  have hxl := hsm.len
  have hgl := gd_len hg
  have hsm' : (TC ts).length ≤ 10000000 := hsm
  generalize hX : OH.T ts = x at *
  have hX2 : TL.tl x = TC ts := by rw [← hX]; rfl
  have hxl2 : x.length = (TC ts).length := by rw [TL.len_tl, hX2]
  refine ⟨Nat.zero_le _, fun p np => ?_⟩
  refine while_up ts.length (fun i σ H' => WP K H x p ts i σ H') ⟨(Kx.new _ np).to, [], none, none, rfl, upd_same, .nil⟩ (fun i σ H1 m W hi hP hW => ?_)
  obtain ⟨e1, us, y3, y4, rfl, hp, hR⟩ := hP
  have hul : us.length ≤ ts.length := by
    rw [hR.length, List.length_map]
    exact take_len_le
  by_cases hlt : i < ts.length
  · have ht : ts[i]? = some ts[i] := List.getElem?_eq_getElem hlt
    have ed : ts.drop i = ts[i] :: ts.drop (i + 1) := List.drop_eq_getElem_cons hlt
    have hgd : Gd (ts[i] :: ts.drop (i + 1)) := ed ▸ gd_drop i hg
    have hx : TL.tl x = TC (ts.take i) ++ (ts[i].cs ++ TC (ts.drop (i + 1))) := by
      rw [hX2, ← TC_cons, ← ed, ← TC_app, List.take_append_drop]
    have hlen := len_mid hx
    rw [List.length_append] at hlen
    have hpos := gd_pos hgd
    generalize hr : ts.drop (i + 1) = r at *
    generalize ha : TC (ts.take i) = a at *
    have add := fun {H2 : Hp} {us : List V} {v : V} {y3 y4 : Option V} hne (hS : Same H H2) h2 hR (hv : Rp K H2 v (tokD ts[i])) {e : Int} (he : e = ((a.length + ts[i].cs.length : Nat) : Int)) => wp_add (x := x) (us := us) (y3 := y3) (y4 := y4) np ht hne hS h2 hR hv (e := e) (by rw [ha]; exact he)
    refine ⟨_, rfl, _, rfl, x, rfl, by omega, _, _, rfl, rfl, _, rfl, if_t (decide_eq_true (by omega)) ?_⟩
    refine Exists.intro _ ⟨hW hlt, ?_⟩
    cases q : ts[i] with
    | w z =>
      rw [q] at hx hgd hlen hpos ht add
      obtain ⟨hw, hb, hg2⟩ := hgd
      have hzl : z.length = (TL.tl z).length := TL.len_tl z
      cases hq : TL.tl z with
      | nil =>
        have h1 := hw.1.1
        rw [hzl, hq] at h1
        exact absurd h1 (by decide)
      | cons c l =>
        have hc := hw.2 c (by rw [hq]; exact List.mem_cons_self ..)
        have hx1 : TL.tl x = a ++ (TL.tl z ++ TC r) := hx
        have hat := at_mid (x := x) (a := a) (c := c) (b := l ++ TC r) (by rw [hx1, hq]; rfl)
        have hlet : ∀ d ∈ TL.tl z, decide (d ∈ (Str.ofString "abcdefghijklmnopqrstuvwxyz").cps.toList) = true := fun d hd => by
          rw [letters_iff]
          exact decide_eq_true (hw.2 d hd)
        have hno : ∀ d l, TC r = d :: l → decide (d ∈ (Str.ofString "abcdefghijklmnopqrstuvwxyz").cps.toList) = false := fun d l e => by
          rw [letters_iff]
          exact (brk_head hb hg2 d l e).1
        have h8 := hw.1.2
        refine ⟨_, rfl, _, rfl, x, _, _, rfl, rfl, by omega, hat, _, rfl, _, _, rfl, rfl, ?_⟩
        refine ⟨_, rfl, rfl, _, rfl, if_f (sg_nes (d := 34) rfl (by omega)) ?_⟩
        refine ⟨_, rfl, c, _, rfl, rfl, _, rfl, if_t (hlet c (by rw [hq]; exact List.mem_cons_self ..)) ?_⟩
        refine ⟨_, rfl, _, rfl, x, _, a, TL.tl z, TC r, rfl, hx1, hxl, hlet, hno, ?_⟩
        refine ⟨_, rfl, _, rfl, _, _, rfl, rfl, _, _, rfl, rfl, _, rfl, if_f (decide_eq_false (by omega)) ?_⟩
        refine ⟨_, rfl, .inl ⟨rfl, _, SqL.of hp⟩, _, rfl, _, rfl, _, rfl, _, rfl, _, rfl, x, rfl, by omega, ?_⟩
        rw [← hzl, cut_midS hx1]
        refine ⟨(by show 2 ≤ sizeLine; decide), fun q nq => ?_⟩
        have hqp : p ≠ q := fun z => by
          rw [← z, hp] at nq
          cases nq
        have e2 : Same H1 (upd H1 q (.tup [V.str "word", V.str z])) := (Kx.new _ nq).to
        refine ⟨p, us, _, rfl, rfl, by rw [upd_ne hqp]; exact hp, by omega, ?_⟩
        refine ⟨_, rfl, add (fun z => nomatch z) (e1.trans e2) (e2 _ _ hp) (hR.sm e2) (Rp.tup (SqT.of upd_same) (.cons (.str "word") (.cons (.str z) .nil))) ?_⟩
        rw [hzl]
        rfl
    | n j =>
      rw [q] at hx hgd hlen hpos ht add
      obtain ⟨hw, hb, hg2⟩ := hgd
      cases hq : numI j with
      | nil => exact absurd hq (numI_ne j)
      | cons c l =>
        have hf := numI_fig j c (by rw [hq]; exact List.mem_cons_self ..)
        have hcf : (48 ≤ c ∧ c ≤ 57) ∨ c = 45 := by
          unfold figB at hf
          rcases Bool.or_eq_true _ _ |>.mp hf with z | z
          · exact .inl (of_decide_eq_true z)
          · exact .inr (of_decide_eq_true z)
        have hx1 : TL.tl x = a ++ (numI j ++ TC r) := hx
        have hlen : x.length = a.length + ((numI j).length + (TC r).length) := hlen
        have hat := at_mid (x := x) (a := a) (c := c) (b := l ++ TC r) (by rw [hx1, hq]; rfl)
        have hno : ∀ d l, TC r = d :: l → ¬ (48 ≤ d ∧ d ≤ 57) := fun d l e q => by
          have z := (brk_head hb hg2 d l e).2
          unfold figB at z
          rw [decide_eq_true q] at z
          cases z
        have hj := numI_len hw
        refine ⟨_, rfl, _, rfl, x, _, _, rfl, rfl, by omega, hat, _, rfl, _, _, rfl, rfl, ?_⟩
        refine ⟨_, rfl, rfl, _, rfl, if_f (sg_nes (d := 34) rfl (by omega)) ?_⟩
        refine ⟨_, rfl, c, _, rfl, rfl, _, rfl, if_f (by rw [letters_iff]; exact decide_eq_false (by omega)) ?_⟩
        have go : (D : V → Hp → Prop) → True := fun _ => trivial
        suffices hs : _ by
          by_cases hfc : 48 ≤ c ∧ c ≤ 57
          · exact ⟨_, rfl, c, _, rfl, rfl, _, rfl, if_t (by rw [figs_iff]; exact decide_eq_true hfc) hs⟩
          · exact ⟨_, rfl, c, _, rfl, rfl, _, rfl, if_f (by rw [figs_iff]; exact decide_eq_false hfc) ⟨_, rfl, rfl, _, rfl, if_t (sg_eqs (d := 45) rfl (by omega)) hs⟩⟩
        refine ⟨_, rfl, _, rfl, x, j, a, TC r, rfl, hx1, hxl, hw, hno, ?_⟩
        refine ⟨_, rfl, .inl ⟨rfl, _, SqL.of hp⟩, _, rfl, _, rfl, _, rfl, _, rfl, _, rfl, x, rfl, by omega, ?_⟩
        rw [cut_mid hx1]
        refine ⟨_, j, rfl, intText_numI j hw rfl, by show (numI j).toArray.size ≤ 640; rw [List.size_toArray]; omega, (by show 2 ≤ sizeLine; decide), fun q nq => ?_⟩
        have hqp : p ≠ q := fun z => by
          rw [← z, hp] at nq
          cases nq
        have e2 : Same H1 (upd H1 q (.tup [V.str "number", V.int j])) := (Kx.new _ nq).to
        refine ⟨p, us, _, rfl, rfl, by rw [upd_ne hqp]; exact hp, by omega, ?_⟩
        exact ⟨_, rfl, add (fun z => nomatch z) (e1.trans e2) (e2 _ _ hp) (hR.sm e2) (Rp.tup (SqT.of upd_same) (.cons (.str "number") (.cons (.int j) .nil))) rfl⟩
    | t z =>
      rw [q] at hx hgd hlen hpos ht add
      obtain ⟨hw, hg2⟩ := hgd
      have hzl : z.length = (TL.tl z).length := TL.len_tl z
      have hx1 : TL.tl x = a ++ (34 :: (TL.tl z ++ 34 :: TC r)) := by
        rw [hx]
        show a ++ ((34 :: (TL.tl z ++ [34])) ++ TC r) = _
        rw [List.cons_append, List.append_assoc]
        rfl
      have hcl : (Tk.t z).cs.length = z.length + 2 := by
        show (34 :: (TL.tl z ++ [34])).length = _
        rw [List.length_cons, List.length_append, hzl]
        rfl
      rw [hcl] at hlen add
      have hat := at_mid (x := x) hx1
      refine ⟨_, rfl, _, rfl, x, _, _, rfl, rfl, by omega, hat, _, rfl, _, _, rfl, rfl, ?_⟩
      refine ⟨_, rfl, rfl, _, rfl, if_t (sg_eqs (d := 34) rfl rfl) ?_⟩
      refine ⟨_, rfl, _, rfl, x, z, a, TC r, rfl, hx1, hxl, hw, fun H2 e2 => ?_⟩
      have hla : (a ++ [34]).length = a.length + 1 := List.length_append
      have ea : ((a.length : Nat) : Int) + 1 = (((a ++ [34]).length : Nat) : Int) := by rw [hla]; rfl
      have eb : ((a.length + 1 + z.length + 1 : Nat) : Int) - 1 = (((a ++ [34]).length + z.length : Nat) : Int) := by rw [hla]; omega
      refine ⟨_, rfl, .inl ⟨rfl, _, SqL.of (e2 _ _ hp)⟩, _, rfl, _, rfl, _, _, rfl, rfl, _, rfl, _, rfl, _, _, rfl, rfl, _, rfl, x, rfl, by omega, ?_⟩
      rw [ea, eb, cut_midS (x := x) (y := z) (a := a ++ [34]) (c := 34 :: TC r) (by rw [hx1, List.append_assoc]; rfl)]
      refine ⟨(by show 2 ≤ sizeLine; decide), fun q nq => ?_⟩
      have hp2 := e2 _ _ hp
      have hqp : p ≠ q := fun z => by
        rw [← z, hp2] at nq
        cases nq
      have e3 : Same H2 (upd H2 q (.tup [V.str "text", V.str z])) := (Kx.new _ nq).to
      have e4 := e2.trans e3
      refine ⟨p, us, _, rfl, rfl, by rw [upd_ne hqp]; exact hp2, by omega, ?_⟩
      refine ⟨_, rfl, add (fun z => nomatch z) (e1.trans e4) (e4 _ _ hp) (hR.sm e4) (Rp.tup (SqT.of upd_same) (.cons (.str "text") (.cons (.str z) .nil))) ?_⟩
      omega
    | s c =>
      rw [q] at hx hgd hlen hpos ht add
      have hc := sign_cases hgd.1
      have hat := at_mid (x := x) (a := a) (c := c) (b := TC r) hx
      have hnf : ¬ (48 ≤ c ∧ c ≤ 57) ∧ c ≠ 45 := by
        have z := hc.2.1
        unfold figB at z
        rcases Bool.or_eq_false_iff.mp z with ⟨z1, z2⟩
        exact ⟨of_decide_eq_false z1, of_decide_eq_false z2⟩
      refine ⟨_, rfl, _, rfl, x, _, _, rfl, rfl, by omega, hat, _, rfl, _, _, rfl, rfl, ?_⟩
      refine ⟨_, rfl, rfl, _, rfl, if_f (sg_nes (d := 34) rfl hc.2.2.1) ?_⟩
      refine ⟨_, rfl, c, _, rfl, rfl, _, rfl, if_f (by rw [letters_iff]; exact hc.1) ?_⟩
      refine ⟨_, rfl, c, _, rfl, rfl, _, rfl, if_f (by rw [figs_iff]; exact decide_eq_false hnf.1) ⟨_, rfl, rfl, _, rfl, if_f (sg_nes (d := 45) rfl hnf.2) ?_⟩⟩
      refine ⟨_, rfl, c, _, rfl, rfl, _, rfl, if_t (signs_iff hgd.1) ?_⟩
      refine ⟨_, rfl, .inl ⟨rfl, _, SqL.of hp⟩, _, rfl, (by show 2 ≤ sizeLine; decide), fun q nq => ?_⟩
      have hqp : p ≠ q := fun z => by
        rw [← z, hp] at nq
        cases nq
      have e2 : Same H1 (upd H1 q (.tup [V.str "sign", V.str ⟨#[c]⟩])) := (Kx.new _ nq).to
      refine ⟨p, us, _, rfl, rfl, by rw [upd_ne hqp]; exact hp, by omega, ?_⟩
      exact ⟨_, rfl, add (fun z => nomatch z) (e1.trans e2) (e2 _ _ hp) (hR.sm e2) (Rp.tup (SqT.of upd_same) (.cons (.str "sign") (.cons (.str ⟨#[c]⟩) .nil))) rfl⟩
    | sp =>
      rw [q] at hx hgd hlen hpos ht add
      have hat := at_mid (x := x) (a := a) (c := 32) (b := TC r) hx
      refine ⟨_, rfl, _, rfl, x, _, _, rfl, rfl, by omega, hat, _, rfl, _, _, rfl, rfl, ?_⟩
      refine ⟨_, rfl, rfl, _, rfl, if_f (sg_nes (d := 34) rfl (by decide)) ?_⟩
      refine ⟨_, rfl, 32, _, rfl, rfl, _, rfl, if_f (by rw [letters_iff]; rfl) ?_⟩
      refine ⟨_, rfl, 32, _, rfl, rfl, _, rfl, if_f (by rw [figs_iff]; rfl) ⟨_, rfl, rfl, _, rfl, if_f (sg_nes (d := 45) rfl (by decide)) ?_⟩⟩
      refine ⟨_, rfl, 32, _, rfl, rfl, _, rfl, if_f (signs_no (by decide)) ?_⟩
      refine ⟨_, rfl, rfl, _, rfl, if_f (by decide +kernel) ?_⟩
      refine ⟨_, rfl, e1, us, some (.str ⟨#[32]⟩), some (.int (((a.length : Nat) : Int) + 1)), ?_, hp, ?_⟩
      · rw [tc_take ht, List.length_append, ha]
        rfl
      · rw [st_take ht]
        show RpA K H1 us ((st (ts.take i) ++ []).map tokD)
        rw [List.append_nil]
        exact hR
    | e =>
      rw [q] at hgd
      exact hgd.elim
  · have e : i = ts.length := by omega
    subst e
    rw [List.take_length] at hR
    refine ⟨_, rfl, _, rfl, x, rfl, by omega, _, _, rfl, rfl, _, rfl, if_f (decide_eq_false (by rw [List.take_length]; omega)) ?_⟩
    show tSeq _ _ _ _ _
    refine ⟨_, rfl, .inl ⟨rfl, _, SqL.of hp⟩, (by show 2 ≤ sizeLine; decide), fun q nq => ?_⟩
    have hqp : p ≠ q := fun z => by
      rw [← z, hp] at nq
      cases nq
    refine ⟨p, us, _, rfl, rfl, by rw [upd_ne hqp]; exact hp, by omega, ?_⟩
    refine ⟨_, rfl, k p _ (us ++ [.ref q]) ?_ upd_same np ?_⟩
    · exact (Kx.mut (Kx.same (e1.trans (Kx.new _ nq).to)) _ np).to
    · have e2 : Same H1 (upd H1 q (.tup [V.str "end", V.str ""])) := (Kx.new _ nq).to
      have hm : Kx (M1 p) (upd H1 q (.tup [V.str "end", V.str ""])) (upd (upd H1 q (.tup [V.str "end", V.str ""])) p (.lst (us ++ [.ref q]))) := Kx.put _ rfl
      exact ((hR.sm e2).snoc (Rp.tup (SqT.of upd_same) (.cons (.str "end") (.cons (.str "") .nil)))).kx hm (NoT.one (e2 _ _ hp))
end
end OH
end

section
set_option Elab.async false
set_option linter.all false
set_option maxRecDepth 100000
set_option maxHeartbeats 4000000
set_option autoImplicit false
namespace OH
open PySem PySem.Spec PyProof.Rows L2
/-! ### the reader -/
def rf (L : Addr) (i k : Nat) : List (Str × V) := [("words", .ref L), ("at", .int (i : Nat)), ("deep", .int (k : Nat))]
/-- the reader at r stands before the words ts, k brackets deep -/
def RS (K : PySem.W.Frag) (H : Hp) (r L : Addr) (ts : List Tk) (k : Nat) : Prop :=
  ∃ (dx : Addr) (us : List V) (i : Nat), H r = some (.ins (TRc K) dx (rf L i k)) ∧ H L = some (.lst us) ∧ i ≤ us.length ∧ RpA K H (us.drop i) (ts.map tokD) ∧ ∀ t ∈ ts, Nc 1 (tokD t)
section
variable {K : PySem.W.Frag} {H H' : Hp} {r L : Addr} {ts : List Tk} {k : Nat}
theorem RS.ne (h : RS K H r L ts k) : H r ≠ none ∧ H L ≠ none := by
  obtain ⟨dx, us, i, h1, h2, _⟩ := h
  constructor
  · intro z
    rw [h1] at z
    cases z
  · intro z
    rw [h2] at z
    cases z
theorem RS.kx {M : Addr → Prop} (h : RS K H r L ts k) (e : Kx M H H') (hr : ¬ M r) (hL : ¬ M L) (n : NoT M H) : RS K H' r L ts k := by
  obtain ⟨dx, us, i, h1, h2, h3, h4, h5⟩ := h
  exact ⟨dx, us, i, e _ _ hr h1, e _ _ hL h2, h3, h4.kx e n, h5⟩
theorem RS.sm (h : RS K H r L ts k) (e : Same H H') : RS K H' r L ts k := h.kx (Kx.same (M := M0) e) (fun z => z) (fun z => z) NoT.zero
/-- a list of ours, laid after, is written -/
theorem RS.put {H0 : Hp} {p : Addr} {xs : List V} {o : HO} (h : RS K H r L ts k) (h0 : RS K H0 r L ts k ∨ (H0 r ≠ none ∧ H0 L ≠ none)) (np : H0 p = none) (hp : H p = some (.lst xs)) : RS K (upd H p o) r L ts k := by
  have hh : H0 r ≠ none ∧ H0 L ≠ none := by
    rcases h0 with h0 | h0
    · exact h0.ne
    · exact h0
  exact h.kx (M := M1 p) (Kx.put _ rfl) (fun e => hh.1 (by rw [show r = p from e]; exact np)) (fun e => hh.2 (by rw [show L = p from e]; exact np)) (NoT.one hp)
theorem RS.nt (h : RS K H r L ts k) : NoT (M1 r) H := by
  obtain ⟨dx, us, i, h1, _⟩ := h
  exact NoT.ins h1
theorem RS.step {dx : Addr} {us : List V} {i : Nat} {t : Tk} {k' : Nat} (h1 : H r = some (.ins (TRc K) dx (rf L i k))) (h2 : H L = some (.lst us)) (h3 : i ≤ us.length) (h4 : RpA K H (us.drop i) ((t :: ts).map tokD)) (h5 : ∀ z ∈ t :: ts, Nc 1 (tokD z)) :
    RS K (upd H r (.ins (TRc K) dx (rf L (i + 1) k'))) r L ts k' := by
  have hm : Kx (M1 r) H (upd H r (.ins (TRc K) dx (rf L (i + 1) k'))) := Kx.put _ rfl
  have hLr : L ≠ r := fun e => by
    rw [e, h1] at h2
    cases h2
  obtain ⟨v, vs, e, g1, g2⟩ := RpA.cons_of h4
  have hlt : i < us.length := by
    rcases Nat.lt_or_ge i us.length with z | z
    · exact z
    · rw [List.drop_eq_nil_of_le z] at e
      cases e
  refine ⟨dx, us, i + 1, upd_same, by rw [upd_ne hLr]; exact h2, hlt, ?_, fun z hz => h5 z (List.mem_cons_of_mem _ hz)⟩
  have e2 : us.drop (i + 1) = vs := by
    rw [List.drop_eq_getElem_cons hlt] at e
    exact (List.cons.inj e).2
  rw [e2]
  exact g2.kx hm (NoT.ins h1)
theorem RS.deep {dx : Addr} {us : List V} {i : Nat} {k' : Nat} (h1 : H r = some (.ins (TRc K) dx (rf L i k))) (h2 : H L = some (.lst us)) (h3 : i ≤ us.length) (h4 : RpA K H (us.drop i) (ts.map tokD)) (h5 : ∀ z ∈ ts, Nc 1 (tokD z)) :
    RS K (upd H r (.ins (TRc K) dx (rf L i k'))) r L ts k' := by
  have hm : Kx (M1 r) H (upd H r (.ins (TRc K) dx (rf L i k'))) := Kx.put _ rfl
  have hLr : L ≠ r := fun e => by
    rw [e, h1] at h2
    cases h2
  exact ⟨dx, us, i, upd_same, by rw [upd_ne hLr]; exact h2, h3, h4.kx hm (NoT.ins h1), h5⟩
theorem at_head {us : List V} {i : Nat} {t : Tk} (h4 : RpA K H (us.drop i) ((t :: ts).map tokD)) : ∃ v, atI us ((i : Nat) : Int) = some v ∧ Rp K H v (tokD t) := by
  obtain ⟨v, vs, e, g1, g2⟩ := RpA.cons_of h4
  refine ⟨v, atI_nat ?_, g1⟩
  have : (us.drop i)[0]? = some v := by rw [e]; rfl
  rw [List.getElem?_drop] at this
  exact this
theorem at_second {us : List V} {i : Nat} {t t' : Tk} (h4 : RpA K H (us.drop i) ((t :: t' :: ts).map tokD)) : ∃ v, atI us (((i : Nat) : Int) + 1) = some v ∧ Rp K H v (tokD t') := by
  obtain ⟨v, vs, e, g1, g2⟩ := RpA.cons_of h4
  obtain ⟨v2, vs2, e2, g3, g4⟩ := RpA.cons_of g2
  refine ⟨v2, ?_, g3⟩
  have : (us.drop i)[1]? = some v2 := by rw [e, e2]; rfl
  rw [List.getElem?_drop] at this
  exact atI_nat (j := i + 1) this
end
theorem lk_words (L : Addr) (i k : Nat) : (rf L i k).lookup ("words" : Str) = some (V.ref L) := rfl
theorem lk_at (L : Addr) (i k : Nat) : (rf L i k).lookup ("at" : Str) = some (V.int (i : Nat)) := rfl
theorem lk_deep (L : Addr) (i k : Nat) : (rf L i k).lookup ("deep" : Str) = some (V.int (k : Nat)) := rfl
theorem lk_none (L : Addr) (i k : Nat) (m : Str) (h : m ≠ "words" ∧ m ≠ "at" ∧ m ≠ "deep") : (rf L i k).lookup m = none := by
  unfold rf
  rw [List.lookup_cons, List.lookup_cons, List.lookup_cons, beq_eq_false_iff_ne.mpr h.1, beq_eq_false_iff_ne.mpr h.2.1, beq_eq_false_iff_ne.mpr h.2.2]
  rfl
theorem put_at (L : Addr) (i k : Nat) : putF "at" ((fun i j : Int => V.int (i + j)) ((i : Nat) : Int) 1) (rf L i k) = rf L (i + 1) k := rfl
theorem put_up (L : Addr) (i k : Nat) : putF "deep" ((fun i j : Int => V.int (i + j)) ((k : Nat) : Int) 1) (rf L i k) = rf L i (k + 1) := rfl
theorem put_down (L : Addr) (i k : Nat) : putF "deep" ((fun i j : Int => V.int (i - j)) ((k + 1 : Nat) : Int) 1) (rf L i (k + 1)) = rf L i k := by
  have e : ((k + 1 : Nat) : Int) - 1 = ((k : Nat) : Int) := by omega
  show putF "deep" (V.int (((k + 1 : Nat) : Int) - 1)) (rf L i (k + 1)) = _
  rw [e]
  rfl
theorem tag_ne {a b : Str} {d e : PyData} (hab : a ≠ b) : PyData.tuple [.str a, d] ≠ .tuple [.str b, e] := fun h => by
  injection h with h
  injection h with h _
  injection h with h
  exact hab h
theorem tokD_s (t : Tk) (c : Nat) : tokD t = tokD (.s c) ↔ t = .s c := by
  constructor
  · intro h
    cases t with
    | s d =>
      unfold tokD at h
      injection h with h
      injection h with _ h
      injection h with h _
      injection h with h
      injection h with h
      rw [(List.cons.inj (Array.toList_inj.mpr h)).1]
    | sp => cases h
    | w x => exact absurd h (tag_ne (by decide +kernel))
    | n x => exact absurd h (tag_ne (by decide +kernel))
    | t x => exact absurd h (tag_ne (by decide +kernel))
    | e => exact absurd h (tag_ne (by decide +kernel))
  · intro h
    rw [h]
theorem nc_sign (c : Nat) (h : c < 200) : Nc 1 (tokD (.s c)) := nc_two nc_lit (.str (strOk_of fun d hd => by
  have : d = c := by
    have hd' : d ∈ [c] := hd
    exact List.mem_singleton.mp hd'
  omega))
/-! promises -/
section
variable (K : PySem.W.Frag)
def spNextIs : Sp := fun vs H Q _ => ∃ (r L : Addr) (t : Tk) (rest : List Tk) (k c : Nat), vs = [.ref r, .str ⟨#[c]⟩] ∧ c < 200 ∧ RS K H r L (t :: rest) k ∧ ∀ H', Same H H' → Q (.bl (decide (t = .s c))) H'
def spDue : Sp := fun vs H Q _ => ∃ (r L : Addr) (rest : List Tk) (k c : Nat), vs = [.ref r, .str ⟨#[c]⟩] ∧ c < 200 ∧ RS K H r L (.s c :: rest) k ∧ ∀ H', Kx (M1 r) H H' → RS K H' r L rest k → Q .non H'
def spTaken : Sp := fun vs H Q _ => ∃ (r L : Addr) (t : Tk) (rest : List Tk) (k : Nat) (z : Str) (d : PyData), vs = [.ref r, .str z] ∧ tokD t = .tuple [.str z, d] ∧ RS K H r L (t :: rest) k ∧ ∀ v H', Kx (M1 r) H H' → Rp K H' v d → RS K H' r L rest k → Q v H'
def spOpened : Sp := fun vs H Q _ => ∃ (r L : Addr) (rest : List Tk) (k c : Nat), vs = [.ref r, .str ⟨#[c]⟩] ∧ c < 200 ∧ RS K H r L (.s c :: rest) k ∧ k < 40 ∧ ∀ H', Kx (M1 r) H H' → RS K H' r L rest (k + 1) → Q .non H'
def spClosed : Sp := fun vs H Q _ => ∃ (r L : Addr) (rest : List Tk) (k c : Nat), vs = [.ref r, .str ⟨#[c]⟩] ∧ c < 200 ∧ RS K H r L (.s c :: rest) (k + 1) ∧ ∀ H', Kx (M1 r) H H' → RS K H' r L rest k → Q .non H'
def spEnded : Sp := fun vs H Q _ => ∃ (r L : Addr) (v : V) (rest : List Tk) (k : Nat), vs = [.ref r, v] ∧ RS K H r L (.e :: rest) k ∧ ∀ H', Kx (M1 r) H H' → Q v H'
/-- the words left: with commas before all but the first -/
def Gm (ps : List (List Tk)) : List Tk := ps.flatMap fun p => .s 44 :: st p
def Rem (ps : List (List Tk)) (i : Nat) (tl : List Tk) : List Tk := if i = 0 then st (sep ps) ++ tl else Gm (ps.drop i) ++ tl
def spGoesOn : Sp := fun vs H Q _ => ∃ (r L : Addr) (ps : List (List Tk)) (rest : List Tk) (k c i : Nat), vs = [.ref r, .int (i : Nat), .str ⟨#[c]⟩] ∧ c < 200 ∧ c ≠ 44 ∧ i ≤ ps.length ∧ (∀ p ∈ ps, ∃ h l, st p = h :: l ∧ h ≠ .s c) ∧ RS K H r L (Rem ps i (.s c :: rest)) k ∧
  (∀ p H', ps[i]? = some p → Kx (M1 r) H H' → RS K H' r L (st p ++ (Gm (ps.drop (i + 1)) ++ .s c :: rest)) k → Q (.bl true) H') ∧ (i = ps.length → ∀ H', Kx (M1 r) H H' → RS K H' r L (.s c :: rest) k → Q (.bl false) H')
end
theorem st_sepc : ∀ (p : List Tk) (ps : List (List Tk)), st (sep (p :: ps)) = st p ++ Gm ps
  | p, [] => (List.append_nil _).symm
  | p, q :: r => by
    rw [st_sep2, st_sepc q r]
    rfl
theorem rem_zero (ps : List (List Tk)) (tl : List Tk) : Rem ps 0 tl = st (sep ps) ++ tl := if_pos rfl
theorem rem_succ (ps : List (List Tk)) (i : Nat) (tl : List Tk) : Rem ps (i + 1) tl = Gm (ps.drop (i + 1)) ++ tl := if_neg (Nat.succ_ne_zero i)
theorem rem_end (ps : List (List Tk)) (tl : List Tk) : Rem ps ps.length tl = tl := by
  cases ps with
  | nil => rfl
  | cons p ps =>
    rw [List.length_cons, rem_succ]
    have e : (p :: ps).drop (ps.length + 1) = [] := by simp
    rw [e]
    rfl
/-- the words before the i-th part, its comma first -/
theorem rem_at {ps : List (List Tk)} {i : Nat} {p : List Tk} (h : ps[i]? = some p) (tl : List Tk) : Rem ps i tl = (if i = 0 then [] else [.s 44]) ++ (st p ++ (Gm (ps.drop (i + 1)) ++ tl)) := by
  cases i with
  | zero =>
    cases ps with
    | nil => cases h
    | cons q ps =>
      have e : q = p := Option.some.inj h
      subst e
      rw [rem_zero, st_sepc, List.append_assoc]
      rfl
  | succ i =>
    obtain ⟨hlt, e⟩ := List.getElem?_eq_some_iff.mp h
    rw [rem_succ, List.drop_eq_getElem_cons hlt, e]
    show ((.s 44 :: st p) ++ Gm _) ++ tl = [.s 44] ++ _
    rw [List.append_assoc]
    rfl
section
variable {P : Program} {w : World} {K : PySem.W.Frag} {mg : Str → Option Value} {base : Heap}
theorem ok_TextReader_next_is (T : Txt w K mg) : C8.Met P w K mg base (1) (TRc K) "next_is" (spNextIs K) [] := by
  refine metD (tell_TextReader_next_is T) sc_TextReader_next_is bind_TextReader_next_is (fun vs H Q E h => ?_) (fun f cdv A outer s H vs Q E hr h => ?_)
  · obtain ⟨_, _, _, _, _, _, rfl, _⟩ := h
    rfl
  obtain ⟨r, L, t, rest, k, c, rfl, hc, ⟨dx, us, i, h1, h2, h3, h4, h5⟩, kk⟩ := h
  refine ⟨_, (pss_one (ps_ret (pe_cmpR (op_eqD (hud_of hr)) (pe_ix ix_list (pe_fld (pv 0) rfl) (pe_fld (pv 0) rfl) (fun _ _ => rfl)) (pe_tup (pa_cons pe_str (pa_cons (pv 1) pa_nil))) (nomark _)))), ?_⟩
  obtain ⟨v, hv, hd⟩ := at_head h4
  refine ⟨_, rfl, r, _, dx, _, _, rfl, h1, T.cl, T.no_words, lk_words _ _ _, _, rfl, r, _, dx, _, _, rfl, h1, T.cl, T.no_at, lk_at _ _ _, ?_⟩
  refine ⟨L, us, _, v, rfl, rfl, SqL.of h2, hv, _, rfl, (by show 2 ≤ sizeLine; decide), fun q nq => ?_⟩
  have e1 : Same H (upd H q (.tup [V.str "sign", V.str ⟨#[c]⟩])) := (Kx.new _ nq).to
  have n1 := h5 t (List.mem_cons_self ..)
  have n2 := nc_sign c hc
  refine ⟨tokD t, tokD (.s c), (hd.sm e1).dp, .tup (SqT.of upd_same) (.cons (.str "sign") (.cons (.str ⟨#[c]⟩) .nil)), n1.shaped (by decide), n2.shaped (by decide), ?_⟩
  rw [n1.eqv n2 (b := decide (t = .s c)) (by rw [decide_eq_true_iff]; exact (tokD_s t c).symm)]
  exact kk _ e1
theorem ok_TextReader_due (T : Txt w K mg) : C8.Met P w K mg base (2) (TRc K) "due" (spDue K) [] := by
  refine metD (tell_TextReader_due T) sc_TextReader_due bind_TextReader_due (fun vs H Q E h => ?_) (fun f cdv A outer s H vs Q E hr h => ?_)
  · obtain ⟨_, _, _, _, _, rfl, _⟩ := h
    rfl
  obtain ⟨r, L, rest, k, c, rfl, hc, hs, kk⟩ := h
  refine ⟨_, (pss_cons (ps_if (pt_not (pt_val (C8.pe_mt (ok_TextReader_next_is T) hr (by decide) (pv 0) (pa_cons (pv 1) pa_nil))))
      (pss_one ps_never)
      pss_nil)
    (pss_one (ps_fld (pv 0) (pe_op op_add (pe_fld (pv 0) rfl) pe_int) rfl))), ?_⟩
  have hs0 := hs
  obtain ⟨dx, us, i, h1, h2, h3, h4, h5⟩ := hs
  refine ⟨_, rfl, r, dx, _, rfl, h1, lk_none _ _ _ _ (by decide +kernel), _, rfl, r, L, _, rest, k, c, rfl, hc, hs0, fun H1 e1 => ⟨_, rfl, if_f (by rw [decide_eq_true rfl] <;> rfl) ?_⟩⟩
  obtain ⟨dx, us, i, h1, h2, h3, h4, h5⟩ := hs0.sm e1
  refine ⟨_, rfl, r, _, dx, _, _, rfl, h1, T.cl, T.no_at, lk_at _ _ _, _, _, rfl, rfl, _, rfl, r, _, dx, _, rfl, h1, T.cl, T.no_at, (by show 3 < 1000; decide), ?_⟩
  rw [put_at]
  exact kk _ ((Kx.same e1).trans (Kx.put _ rfl)) (RS.step h1 h2 h3 h4 h5)
theorem ok_TextReader_taken (T : Txt w K mg) : C8.Met P w K mg base (1) (TRc K) "taken" (spTaken K) [] := by
  refine metD (tell_TextReader_taken T) sc_TextReader_taken bind_TextReader_taken (fun vs H Q E h => ?_) (fun f cdv A outer s H vs Q E hr h => ?_)
  · obtain ⟨_, _, _, _, _, _, _, rfl, _⟩ := h
    rfl
  obtain ⟨r, L, t, rest, k, z, d, rfl, ht, ⟨dx, us, i, h1, h2, h3, h4, h5⟩, kk⟩ := h
  refine ⟨_, (pss_cons (ps_asg (pe_ix ix_list (pe_fld (pv 0) rfl) (pe_fld (pv 0) rfl) (fun _ _ => rfl)) (pg_tup rfl (pgs_cons (pg_name (i := 2) sc_TextReader_taken.nd rfl (by first | exact Or.inl rfl | exact Or.inr rfl)) (pgs_cons (pg_name (i := 3) sc_TextReader_taken.nd rfl (by first | exact Or.inl rfl | exact Or.inr rfl)) pgs_nil))))
    (pss_cons (ps_if (pt_cmpR op_ne (pv 2) (pv 1) (nomark _))
      (pss_one ps_never)
      pss_nil)
    (pss_cons (ps_fld (pv 0) (pe_op op_add (pe_fld (pv 0) rfl) pe_int) rfl)
    (pss_one (ps_ret (pv 3)))))), ?_⟩
  obtain ⟨v, hv, hd⟩ := at_head h4
  rw [ht] at hd
  obtain ⟨a, xs, rfl, hS, hR⟩ := hd.tup_of
  obtain ⟨v1, v2, rfl, g1, g2⟩ := hR.two_of
  obtain rfl := g1.str_of
  refine ⟨_, rfl, r, _, dx, _, _, rfl, h1, T.cl, T.no_words, lk_words _ _ _, _, rfl, r, _, dx, _, _, rfl, h1, T.cl, T.no_at, lk_at _ _ _, ?_⟩
  refine ⟨L, us, _, _, rfl, rfl, SqL.of h2, hv, a, _, rfl, hS, rfl, _, _, rfl, _, _, rfl, rfl, ?_⟩
  refine ⟨_, rfl, _, rfl, rfl, _, rfl, if_f (by rw [decide_eq_true rfl] <;> rfl) ?_⟩
  refine ⟨_, rfl, r, _, dx, _, _, rfl, h1, T.cl, T.no_at, lk_at _ _ _, _, _, rfl, rfl, _, rfl, r, _, dx, _, rfl, h1, T.cl, T.no_at, (by show 3 < 1000; decide), ?_⟩
  rw [put_at]
  have e1 : Kx (M1 r) H (upd H r (.ins (TRc K) dx (rf L (i + 1) k))) := Kx.put _ rfl
  exact ⟨_, rfl, kk v2 _ e1 (g2.kx e1 (NoT.ins h1)) (RS.step h1 h2 h3 h4 h5)⟩
theorem ok_TextReader_opened (T : Txt w K mg) : C8.Met P w K mg base (3) (TRc K) "opened" (spOpened K) [] := by
  refine metD (tell_TextReader_opened T) sc_TextReader_opened bind_TextReader_opened (fun vs H Q E h => ?_) (fun f cdv A outer s H vs Q E hr h => ?_)
  · obtain ⟨_, _, _, _, _, rfl, _⟩ := h
    rfl
  obtain ⟨r, L, rest, k, c, rfl, hc, hs, hk, kk⟩ := h
  refine ⟨_, (pss_cons (ps_expr (C8.pe_mt (ok_TextReader_due T) hr (by decide) (pv 0) (pa_cons (pv 1) pa_nil)))
    (pss_cons (ps_fld (pv 0) (pe_op op_add (pe_fld (pv 0) rfl) pe_int) rfl)
    (pss_one (ps_if (pt_cmpR op_gt (pe_fld (pv 0) rfl) (C8.pe_gc (by rfl) T.g_MOST_DEEP) (nomark _))
      (pss_one ps_never)
      pss_nil)))), ?_⟩
  have hs0 := hs
  obtain ⟨dx, us, i, h1, h2, h3, h4, h5⟩ := hs
  refine ⟨_, rfl, r, dx, _, rfl, h1, lk_none _ _ _ _ (by decide +kernel), _, rfl, r, L, rest, k, c, rfl, hc, hs0, fun H1 e1 hs1 => ?_⟩
  obtain ⟨dx, us, i, h1, h2, h3, h4, h5⟩ := hs1
  refine ⟨_, rfl, r, _, dx, _, _, rfl, h1, T.cl, T.no_deep, lk_deep _ _ _, _, _, rfl, rfl, _, rfl, r, _, dx, _, rfl, h1, T.cl, T.no_deep, (by show 3 < 1000; decide), ?_⟩
  rw [put_up]
  refine ⟨_, rfl, r, _, dx, _, _, rfl, upd_same, T.cl, T.no_deep, lk_deep _ _ _, _, _, rfl, rfl, _, rfl, if_f (decide_eq_false (by omega)) ?_⟩
  exact kk _ (e1.trans (Kx.put _ rfl)) (RS.deep h1 h2 h3 h4 h5)
theorem ok_TextReader_closed (T : Txt w K mg) : C8.Met P w K mg base (3) (TRc K) "closed" (spClosed K) [] := by
  refine metD (tell_TextReader_closed T) sc_TextReader_closed bind_TextReader_closed (fun vs H Q E h => ?_) (fun f cdv A outer s H vs Q E hr h => ?_)
  · obtain ⟨_, _, _, _, _, rfl, _⟩ := h
    rfl
  obtain ⟨r, L, rest, k, c, rfl, hc, hs, kk⟩ := h
  refine ⟨_, (pss_cons (ps_expr (C8.pe_mt (ok_TextReader_due T) hr (by decide) (pv 0) (pa_cons (pv 1) pa_nil)))
    (pss_one (ps_fld (pv 0) (pe_op op_sub (pe_fld (pv 0) rfl) pe_int) rfl))), ?_⟩
  have hs0 := hs
  obtain ⟨dx, us, i, h1, h2, h3, h4, h5⟩ := hs
  refine ⟨_, rfl, r, dx, _, rfl, h1, lk_none _ _ _ _ (by decide +kernel), _, rfl, r, L, rest, k + 1, c, rfl, hc, hs0, fun H1 e1 hs1 => ?_⟩
  obtain ⟨dx, us, i, h1, h2, h3, h4, h5⟩ := hs1
  refine ⟨_, rfl, r, _, dx, _, _, rfl, h1, T.cl, T.no_deep, lk_deep _ _ _, _, _, rfl, rfl, _, rfl, r, _, dx, _, rfl, h1, T.cl, T.no_deep, (by show 3 < 1000; decide), ?_⟩
  rw [put_down]
  exact kk _ (e1.trans (Kx.put _ rfl)) (RS.deep h1 h2 h3 h4 h5)
theorem ok_TextReader_ended (T : Txt w K mg) : C8.Met P w K mg base (2) (TRc K) "ended" (spEnded K) [] := by
  refine metD (tell_TextReader_ended T) sc_TextReader_ended bind_TextReader_ended (fun vs H Q E h => ?_) (fun f cdv A outer s H vs Q E hr h => ?_)
  · obtain ⟨_, _, _, _, _, rfl, _⟩ := h
    rfl
  obtain ⟨r, L, v, rest, k, rfl, hs, kk⟩ := h
  refine ⟨_, (pss_cons (ps_expr (C8.pe_mt (ok_TextReader_taken T) hr (by decide) (pv 0) (pa_cons pe_str pa_nil)))
    (pss_one (ps_ret (pv 1)))), ?_⟩
  have hs0 := hs
  obtain ⟨dx, us, i, h1, h2, h3, h4, h5⟩ := hs
  refine ⟨_, rfl, r, dx, _, rfl, h1, lk_none _ _ _ _ (by decide +kernel), r, L, _, rest, k, _, _, rfl, rfl, hs0, fun v1 H1 e1 _ _ => ?_⟩
  exact ⟨_, rfl, kk _ e1⟩
theorem ok_TextReader_goes_on (T : Txt w K mg) : C8.Met P w K mg base (2) (TRc K) "goes_on" (spGoesOn K) [] := by
  refine metD (tell_TextReader_goes_on T) sc_TextReader_goes_on bind_TextReader_goes_on (fun vs H Q E h => ?_) (fun f cdv A outer s H vs Q E hr h => ?_)
  · obtain ⟨_, _, _, _, _, _, _, rfl, _⟩ := h
    rfl
  obtain ⟨r, L, ps, rest, k, c, i, rfl, hc, hcc, hi, hne, hs, k1, k2⟩ := h
  refine ⟨_, (pss_cons (ps_if (pt_cmpR op_eq (pv 1) pe_int (nomark _))
      (pss_one (ps_ret (pe_not (C8.pe_mt (ok_TextReader_next_is T) hr (by decide) (pv 0) (pa_cons (pv 2) pa_nil)))))
      pss_nil)
    (pss_cons (ps_if (pt_not (pt_val (C8.pe_mt (ok_TextReader_next_is T) hr (by decide) (pv 0) (pa_cons pe_str pa_nil))))
      (pss_one (ps_ret pe_bl))
      pss_nil)
    (pss_cons (ps_fld (pv 0) (pe_op op_add (pe_fld (pv 0) rfl) pe_int) rfl)
    (pss_one (ps_ret pe_bl))))), ?_⟩
  have hs0 := hs
  obtain ⟨dx, us, j, h1, h2, h3, h4, h5⟩ := hs
  cases i with
  | zero =>
    refine ⟨_, rfl, rfl, _, rfl, if_t rfl ?_⟩
    rw [rem_zero] at hs0
    cases ps with
    | nil =>
      refine ⟨_, rfl, r, dx, _, rfl, h1, lk_none _ _ _ _ (by decide +kernel), _, rfl, r, L, .s c, rest, k, c, rfl, hc, hs0, fun H1 e1 => ⟨_, rfl, ?_⟩⟩
      rw [decide_eq_true rfl]
      exact k2 rfl _ (Kx.same e1) (hs0.sm e1)
    | cons p ps =>
      obtain ⟨h, l, ep, hh⟩ := hne p (List.mem_cons_self ..)
      rw [st_sepc, List.append_assoc] at hs0
      have hs1 := hs0
      rw [ep] at hs1
      refine ⟨_, rfl, r, dx, _, rfl, h1, lk_none _ _ _ _ (by decide +kernel), _, rfl, r, L, h, _, k, c, rfl, hc, hs1, fun H1 e1 => ⟨_, rfl, ?_⟩⟩
      rw [decide_eq_false hh]
      exact k1 p _ rfl (Kx.same e1) (hs0.sm e1)
  | succ i =>
    refine ⟨_, rfl, rfl, _, rfl, if_f (decide_eq_false fun z => by have := V.int.inj z; omega) ?_⟩
    by_cases hlt : i + 1 < ps.length
    · have hp : ps[i + 1]? = some ps[i + 1] := List.getElem?_eq_getElem hlt
      rw [rem_at hp] at hs0
      have hs1 : RS K H r L (.s 44 :: (st ps[i + 1] ++ (Gm (ps.drop (i + 1 + 1)) ++ .s c :: rest))) k := hs0
      refine ⟨_, rfl, r, dx, _, rfl, h1, lk_none _ _ _ _ (by decide +kernel), r, L, .s 44, _, k, 44, rfl, by decide, hs1, fun H1 e1 => ⟨_, rfl, if_f (by rw [decide_eq_true rfl] <;> rfl) ?_⟩⟩
      obtain ⟨dx, us, j, h1, h2, h3, h4, h5⟩ := hs1.sm e1
      refine ⟨_, rfl, r, _, dx, _, _, rfl, h1, T.cl, T.no_at, lk_at _ _ _, _, _, rfl, rfl, _, rfl, r, _, dx, _, rfl, h1, T.cl, T.no_at, (by show 3 < 1000; decide), ?_⟩
      rw [put_at]
      exact k1 _ _ hp ((Kx.same e1).trans (Kx.put _ rfl)) (RS.step h1 h2 h3 h4 h5)
    · have e : i + 1 = ps.length := by omega
      rw [e, rem_end] at hs0
      refine ⟨_, rfl, r, dx, _, rfl, h1, lk_none _ _ _ _ (by decide +kernel), r, L, .s c, _, k, 44, rfl, by decide, hs0, fun H1 e1 => ⟨_, rfl, if_t ?_ ?_⟩⟩
      · rw [decide_eq_false fun z => hcc (by injection z)] <;> rfl
      · exact k2 e _ (Kx.same e1) (hs0.sm e1)
end
end OH
end

section
set_option Elab.async false
set_option linter.all false
set_option maxRecDepth 100000
set_option maxHeartbeats 4000000
set_option autoImplicit false
namespace OH
open PySem PySem.Spec PyProof.Rows L2
section
variable {K : PySem.W.Frag} {H H1 H2 : Hp} {r L p : Addr} {ts : List Tk} {k : Nat} {us : List V} {ds : List PyData}
theorem RS.ins (h : RS K H r L ts k) : ∃ dx i, H r = some (.ins (TRc K) dx (rf L i k)) := by
  obtain ⟨dx, us, i, h1, _⟩ := h
  exact ⟨dx, i, h1⟩
theorem lst_ne_r (hs : RS K H r L ts k) (hp : H p = some (.lst us)) : ¬ M1 r p := fun e => by
  obtain ⟨dx, i, h1⟩ := hs.ins
  have e' : p = r := e
  rw [e', h1] at hp
  cases hp
/-- a list of ours over a call of the reader -/
theorem carry (hs : RS K H1 r L ts k) (hp : H1 p = some (.lst us)) (hR : RpA K H1 us ds) (e : Kx (M1 r) H1 H2) : H2 p = some (.lst us) ∧ RpA K H2 us ds :=
  ⟨e _ _ (lst_ne_r hs hp) hp, hR.kx e hs.nt⟩
/-- .. written -/
theorem added {v : V} {d : PyData} (hn : H p = none) (hne : H r ≠ none ∧ H L ≠ none) (e : Kx (M1 r) H H1) (hp : H1 p = some (.lst us)) (hR : RpA K H1 us ds) (hv : Rp K H1 v d) (hs : RS K H1 r L ts k) :
    Kx (M1 r) H (upd H1 p (.lst (us ++ [v]))) ∧ RpA K (upd H1 p (.lst (us ++ [v]))) (us ++ [v]) (ds ++ [d]) ∧ RS K (upd H1 p (.lst (us ++ [v]))) r L ts k := by
  have hm : Kx (M1 p) H1 (upd H1 p (.lst (us ++ [v]))) := Kx.put _ rfl
  exact ⟨Kx.mut e _ hn, (hR.snoc hv).kx hm (NoT.one hp), hs.put (.inr hne) hn hp⟩
theorem fresh_r (hne : H r ≠ none) (e : Kx (M1 r) H H1) (np : H1 p = none) (hr1 : H1 r ≠ none) : H p = none := e.free (fun z => hr1 (by rw [show r = p from (show p = r from z).symm]; exact np)) np
end
theorem take_map_succ {α : Type} {f : α → PyData} {xs : List α} {i : Nat} {x : α} (h : xs[i]? = some x) : ((xs.take (i + 1)).map f) = (xs.take i).map f ++ [f x] := by
  rw [List.take_add_one, h, List.map_append]
  rfl
def spNames (K : PySem.W.Frag) : Sp := fun vs H Q _ => ∃ (r L : Addr) (ws : List Str) (rest : List Tk) (k c : Nat), vs = [.ref r, .str ⟨#[c]⟩] ∧ c < 200 ∧ c ≠ 44 ∧ 1 ≤ ws.length ∧ ws.length ≤ 8 ∧ RS K H r L (st (sep (ws.map fun x => [.w x])) ++ .s c :: rest) k ∧
  ∀ v H', Kx (M1 r) H H' → Rp K H' v (.tuple (ws.map .str)) → RS K H' r L (.s c :: rest) k → Q v H'
/-- a part read by a method -/
def spPv (K : PySem.W.Frag) (R : PyData → List Tk → Prop) (n : Nat) : Sp := fun vs H Q _ => ∃ (r L : Addr) (d : PyData) (ts rest : List Tk) (k : Nat), vs = [.ref r] ∧ R d ts ∧ RS K H r L (st ts ++ rest) k ∧ k + n ≤ 40 ∧
  ∀ v H', Kx (M1 r) H H' → Rp K H' v d → RS K H' r L rest k → Q v H'
def spPairs (K : PySem.W.Frag) (R : PyData → List Tk → Prop) (n c : Nat) : Sp := fun vs H Q _ => ∃ (r L : Addr) (es : List Ent) (rest : List Tk) (k : Nat), vs = [.ref r] ∧ es.length ≤ 8 ∧ (∀ e ∈ es, R e.v e.ts) ∧ RS K H r L (st (sep (es.map pairT)) ++ .s c :: rest) k ∧ k + n ≤ 40 ∧
  ∀ v H', Kx (M1 r) H H' → Rp K H' v (.tuple (es.map fun e => pairD e.x e.v)) → RS K H' r L (.s c :: rest) k → Q v H'
def spValues (K : PySem.W.Frag) (R : PyData → List Tk → Prop) (n : Nat) : Sp := fun vs H Q _ => ∃ (r L : Addr) (es : List Ent) (rest : List Tk) (k c : Nat), vs = [.ref r, .str ⟨#[c]⟩] ∧ c < 200 ∧ c ≠ 44 ∧ es.length ≤ 8 ∧ (∀ e ∈ es, R e.v e.ts ∧ ∃ h l, st e.ts = h :: l ∧ h ≠ .s c) ∧ RS K H r L (st (sep (es.map (·.ts))) ++ .s c :: rest) k ∧ k + n ≤ 40 ∧
  ∀ v H', Kx (M1 r) H H' → Rp K H' v (.tuple (es.map (·.v))) → RS K H' r L (.s c :: rest) k → Q v H'
def spNamePairs (K : PySem.W.Frag) : Sp := fun vs H Q _ => ∃ (r L : Addr) (ps : List Two) (rest : List Tk) (k : Nat), vs = [.ref r] ∧ 1 ≤ ps.length ∧ ps.length ≤ 8 ∧ RS K H r L (st (sep (ps.map fun p => [.w p.x, .s 58, .sp, .w p.y])) ++ .s 41 :: rest) k ∧
  ∀ v H', Kx (M1 r) H H' → Rp K H' v (.tuple (ps.map fun p => pairD p.x (.str p.y))) → RS K H' r L (.s 41 :: rest) k → Q v H'
theorem st_pairT (e : Ent) : st (pairT e) = .w e.x :: .s 58 :: st e.ts := rfl
section
variable {P : Program} {w : World} {K : PySem.W.Frag} {mg : Str → Option Value} {base : Heap}
theorem ok_TextReader_names (T : Txt w K mg) : C8.Met P w K mg base (3) (TRc K) "names" (spNames K) [] := by
  refine metD (tell_TextReader_names T) sc_TextReader_names bind_TextReader_names (fun vs H Q E h => ?_) (fun f cdv A outer s H vs Q E hr h => ?_)
  · obtain ⟨_, _, _, _, _, _, rfl, _⟩ := h
    rfl
  obtain ⟨r, L, ws, rest, k, c, rfl, hc, hcc, hw1, hw8, hs, kk⟩ := h
  refine ⟨_, (pss_cons (ps_set (i := 2) sc_TextReader_names.nd rfl (by first | exact Or.inl rfl | exact Or.inr rfl) (pe_lst (pa_cons (C8.pe_mt (ok_TextReader_taken T) hr (by decide) (pv 0) (pa_cons pe_str pa_nil)) pa_nil)))
    (pss_cons (ps_while PassesOwn.never (pt_val (C8.pe_mt (ok_TextReader_goes_on T) hr (by decide) (pv 0) (pa_cons (pe_callB call_len_seq (by rfl) T.m_len bt_len (pa_cons (pv 2) pa_nil)) (pa_cons (pv 1) pa_nil))))
      (pss_one (ps_expr (pe_bm PySem.F.plainAttrs_list PySem.F.slot_list_append PySem.F.type_list_append mt_append (pv 2) (pa_cons (C8.pe_mt (ok_TextReader_taken T) hr (by decide) (pv 0) (pa_cons pe_str pa_nil)) pa_nil)))))
    (pss_one (ps_ret (pe_callTy call_tuple_of (by rfl) T.m_tuple bt_tuple (pa_cons (pv 2) pa_nil)))))), ?_⟩
  have hz := sizeL
  let ps : List (List Tk) := ws.map fun x => [Tk.w x]
  have hpl : ps.length = ws.length := List.length_map _
  have hps : ∀ i, ps[i]? = (ws[i]?).map fun x => [Tk.w x] := fun i => List.getElem?_map
  have hh : ∀ p ∈ ps, ∃ h l, st p = h :: l ∧ h ≠ .s c := fun p hp => by
    obtain ⟨x, _, rfl⟩ := List.mem_map.mp hp
    exact ⟨.w x, [], rfl, fun z => nomatch z⟩
  have hne := hs.ne
  obtain ⟨dx, i0, h1⟩ := hs.ins
  have ew : ws[0]? = some ws[0] := List.getElem?_eq_getElem hw1
  have ep : ps[0]? = some [Tk.w ws[0]] := by rw [hps, ew]; rfl
  have hs0 : RS K H r L (Rem ps 0 (.s c :: rest)) k := by
    rw [rem_zero]
    exact hs
  rw [rem_at ep] at hs0
  refine ⟨_, rfl, r, dx, _, rfl, h1, lk_none _ _ _ _ (by decide +kernel), r, L, .w ws[0], _, k, _, _, rfl, rfl, hs0, fun v H1 e1 hv hs1 => ⟨(by show 1 ≤ sizeLine; decide), fun p np => ?_⟩⟩
  have hnp := fresh_r hne.1 e1 np hs1.ne.1
  have e2 : Same H1 (upd H1 p (.lst [v])) := (Kx.new _ np).to
  refine while_up (ws.length - 1) (fun i σ H' => Kx (M1 r) H H' ∧ RS K H' r L (Rem ps (i + 1) (.s c :: rest)) k ∧ σ = [some (.ref r), some (.str ⟨#[c]⟩), some (.ref p)] ∧ ∃ us, H' p = some (.lst us) ∧ RpA K H' us ((ws.take (i + 1)).map .str)) ?_ (fun i σ H2 m W hi hP hW => ?_)
  · refine ⟨e1.trans (Kx.same e2), ?_, rfl, [v], upd_same, ?_⟩
    · rw [rem_succ]
      exact hs1.sm e2
    · rw [take_map_succ ew]
      exact .cons (hv.sm e2) .nil
  · obtain ⟨e3, hs2, rfl, us, hp, hR⟩ := hP
    have hul : us.length = i + 1 := by
      rw [hR.length, List.length_map, List.length_take]
      omega
    obtain ⟨dx, i0, h1⟩ := hs2.ins
    refine ⟨_, rfl, r, dx, _, rfl, h1, lk_none _ _ _ _ (by decide +kernel), _, rfl, p, _, rfl, .inl (SqL.of hp), _, rfl, r, L, ps, rest, k, c, i + 1, ?_, hc, hcc, by omega, hh, hs2, fun q H3 hq e4 hs3 => ⟨_, rfl, ?_⟩, fun he H3 e4 hs3 => ⟨_, rfl, ?_⟩⟩
    · rw [hul]
      rfl
    · have hlt : i + 1 < ws.length := by
        rw [← hpl]
        exact (List.getElem?_eq_some_iff.mp hq).1
      have ew : ws[i + 1]? = some ws[i + 1] := List.getElem?_eq_getElem hlt
      rw [hps, ew] at hq
      obtain rfl := Option.some.inj hq
      refine Exists.intro _ ⟨hW (by omega), ?_⟩
      obtain ⟨g1, g2⟩ := carry hs2 hp hR e4
      obtain ⟨dx, i0, h1⟩ := hs3.ins
      refine ⟨_, rfl, .inl ⟨rfl, _, SqL.of g1⟩, _, rfl, r, dx, _, rfl, h1, lk_none _ _ _ _ (by decide +kernel), r, L, .w ws[i + 1], _, k, _, _, rfl, rfl, hs3, fun v2 H4 e5 hv4 hs4 => ?_⟩
      obtain ⟨g3, g4⟩ := carry hs3 g1 g2 e5
      obtain ⟨a1, a2, a3⟩ := added hnp hne ((e3.trans e4).trans e5) g3 g4 hv4 hs4
      refine ⟨p, us, v2, rfl, rfl, g3, by omega, a1, ?_, rfl, us ++ [v2], upd_same, ?_⟩
      · rw [rem_succ]
        exact a3
      · rw [take_map_succ ew]
        exact a2
    · have e0 : i + 1 = ws.length := by omega
      obtain ⟨g1, g2⟩ := carry hs2 hp hR e4
      rw [e0, List.take_length] at g2
      refine ⟨_, rfl, p, us, rfl, .inl ⟨SqL.of g1, fun l nl => ?_⟩⟩
      have e6 : Same H3 (upd H3 l (.tup us)) := (Kx.new _ nl).to
      exact kk _ _ ((e3.trans e4).trans (Kx.same e6)) (.tup (SqT.of upd_same) (g2.sm e6)) (hs3.sm e6)
theorem ok_TextReader_kind_pairs (T : Txt w K mg) {R : PyData → List Tk → Prop} {lv n : Nat} (hlv : 3 ≤ lv) (ih : C8.Met P w K mg base lv (TRc K) "kind" (spPv K R n) []) : C8.Met P w K mg base (lv + 1) (TRc K) "kind_pairs" (spPairs K R n 41) [] := by
  refine metD (tell_TextReader_kind_pairs T) sc_TextReader_kind_pairs bind_TextReader_kind_pairs (fun vs H Q E h => ?_) (fun f cdv A outer s H vs Q E hr h => ?_)
  · obtain ⟨_, _, _, _, _, rfl, _⟩ := h
    rfl
  obtain ⟨r, L, es, rest, k, rfl, h8, hE, hs, hk, kk⟩ := h
  refine ⟨_, (pss_cons (ps_set (i := 1) sc_TextReader_kind_pairs.nd rfl (by first | exact Or.inl rfl | exact Or.inr rfl) (pe_lst pa_nil))
    (pss_cons (ps_while PassesOwn.never (pt_val (C8.pe_mt (ok_TextReader_goes_on T) hr (by omega) (pv 0) (pa_cons (pe_callB call_len_seq (by rfl) T.m_len bt_len (pa_cons (pv 1) pa_nil)) (pa_cons pe_str pa_nil))))
      (pss_cons (ps_set (i := 2) sc_TextReader_kind_pairs.nd rfl (by first | exact Or.inl rfl | exact Or.inr rfl) (C8.pe_mt (ok_TextReader_taken T) hr (by omega) (pv 0) (pa_cons pe_str pa_nil)))
      (pss_cons (ps_expr (C8.pe_mt (ok_TextReader_due T) hr (by omega) (pv 0) (pa_cons pe_str pa_nil)))
      (pss_one (ps_expr (pe_bm PySem.F.plainAttrs_list PySem.F.slot_list_append PySem.F.type_list_append mt_append (pv 1) (pa_cons (pe_tup (pa_cons (pv 2) (pa_cons (C8.pe_mt0 ih hr (by omega) (pv 0)) pa_nil))) pa_nil)))))))
    (pss_one (ps_ret (pe_callTy call_tuple_of (by rfl) T.m_tuple bt_tuple (pa_cons (pv 1) pa_nil)))))), ?_⟩
  have hz := sizeL
  let ps : List (List Tk) := es.map pairT
  have hpl : ps.length = es.length := List.length_map _
  have hps : ∀ i, ps[i]? = (es[i]?).map pairT := fun i => List.getElem?_map
  have hh : ∀ p ∈ ps, ∃ h l, st p = h :: l ∧ h ≠ .s 41 := fun p hp => by
    obtain ⟨x, _, rfl⟩ := List.mem_map.mp hp
    exact ⟨.w x.x, _, rfl, fun z => nomatch z⟩
  have hne := hs.ne
  have hs0 : RS K H r L (Rem ps 0 (.s 41 :: rest)) k := by
    rw [rem_zero]
    exact hs
  refine ⟨Nat.zero_le _, fun p np => ?_⟩
  have e0 : Same H (upd H p (.lst [])) := (Kx.new _ np).to
  refine while_up es.length (fun i σ H' => Kx (M1 r) H H' ∧ RS K H' r L (Rem ps i (.s 41 :: rest)) k ∧ ∃ us y2, σ = [some (.ref r), some (.ref p), y2] ∧ H' p = some (.lst us) ∧ RpA K H' us ((es.take i).map fun e => pairD e.x e.v)) ⟨Kx.same e0, hs0.sm e0, [], none, rfl, upd_same, .nil⟩ (fun i σ H2 m W hi hP hW => ?_)
  obtain ⟨e3, hs2, us, y2, rfl, hp, hR⟩ := hP
  have hul : us.length = i := by
    rw [hR.length, List.length_map, List.length_take]
    omega
  obtain ⟨dx, i0, h1⟩ := hs2.ins
  refine ⟨_, rfl, r, dx, _, rfl, h1, lk_none _ _ _ _ (by decide +kernel), _, rfl, p, _, rfl, .inl (SqL.of hp), r, L, ps, rest, k, 41, i, ?_, by decide, by decide, by omega, hh, hs2, fun q H3 hq e4 hs3 => ⟨_, rfl, ?_⟩, fun he H3 e4 hs3 => ⟨_, rfl, ?_⟩⟩
  · rw [hul]
    rfl
  · have hlt : i < es.length := by
      rw [← hpl]
      exact (List.getElem?_eq_some_iff.mp hq).1
    have ew : es[i]? = some es[i] := List.getElem?_eq_getElem hlt
    rw [hps, ew] at hq
    obtain rfl := Option.some.inj hq
    refine Exists.intro _ ⟨hW hlt, ?_⟩
    obtain ⟨g1, g2⟩ := carry hs2 hp hR e4
    obtain ⟨dx, i0, h1⟩ := hs3.ins
    refine ⟨_, rfl, r, dx, _, rfl, h1, lk_none _ _ _ _ (by decide +kernel), r, L, .w es[i].x, _, k, _, _, rfl, rfl, hs3, fun v2 H4 e5 hv4 hs4 => ?_⟩
    obtain rfl := hv4.str_of
    obtain ⟨g1, g2⟩ := carry hs3 g1 g2 e5
    obtain ⟨dx, i0, h1⟩ := hs4.ins
    refine ⟨_, rfl, r, dx, _, rfl, h1, lk_none _ _ _ _ (by decide +kernel), r, L, _, k, 58, rfl, by decide, hs4, fun H5 e6 hs5 => ?_⟩
    obtain ⟨g1, g2⟩ := carry hs4 g1 g2 e6
    obtain ⟨dx, i0, h1⟩ := hs5.ins
    refine ⟨_, rfl, .inl ⟨rfl, _, SqL.of g1⟩, _, rfl, _, rfl, r, dx, _, rfl, h1, lk_none _ _ _ _ (by decide +kernel), r, L, es[i].v, es[i].ts, _, k, rfl, hE _ (List.getElem_mem hlt), hs5, hk, fun v6 H6 e7 hv6 hs6 => ⟨(by show 2 ≤ sizeLine; decide), fun t nt => ?_⟩⟩
    obtain ⟨g1, g2⟩ := carry hs5 g1 g2 e7
    have e8 : Same H6 (upd H6 t (.tup [.str es[i].x, v6])) := (Kx.new _ nt).to
    have hvt : Rp K (upd H6 t (.tup [.str es[i].x, v6])) (.ref t) (pairD es[i].x es[i].v) := .tup (SqT.of upd_same) (.cons (.str _) (.cons (hv6.sm e8) .nil))
    obtain ⟨a1, a2, a3⟩ := added np hne (((((e3.trans e4).trans e5).trans e6).trans e7).trans (Kx.same e8)) (e8 _ _ g1) (g2.sm e8) hvt (hs6.sm e8)
    refine ⟨p, us, _, rfl, rfl, e8 _ _ g1, by omega, a1, ?_, us ++ [.ref t], some (.str es[i].x), rfl, upd_same, ?_⟩
    · rw [rem_succ]
      exact a3
    · rw [take_map_succ ew]
      exact a2
  · have e0 : i = es.length := by omega
    obtain ⟨g1, g2⟩ := carry hs2 hp hR e4
    rw [e0, List.take_length] at g2
    refine ⟨_, rfl, p, us, rfl, .inl ⟨SqL.of g1, fun l nl => ?_⟩⟩
    have e6 : Same H3 (upd H3 l (.tup us)) := (Kx.new _ nl).to
    exact kk _ _ ((e3.trans e4).trans (Kx.same e6)) (.tup (SqT.of upd_same) (g2.sm e6)) (hs3.sm e6)
theorem ok_TextReader_value_pairs (T : Txt w K mg) {R : PyData → List Tk → Prop} {lv n : Nat} (hlv : 3 ≤ lv) (ih : C8.Met P w K mg base lv (TRc K) "value" (spPv K R n) []) : C8.Met P w K mg base (lv + 1) (TRc K) "value_pairs" (spPairs K R n 125) [] := by
  refine metD (tell_TextReader_value_pairs T) sc_TextReader_value_pairs bind_TextReader_value_pairs (fun vs H Q E h => ?_) (fun f cdv A outer s H vs Q E hr h => ?_)
  · obtain ⟨_, _, _, _, _, rfl, _⟩ := h
    rfl
  obtain ⟨r, L, es, rest, k, rfl, h8, hE, hs, hk, kk⟩ := h
  refine ⟨_, (pss_cons (ps_set (i := 1) sc_TextReader_value_pairs.nd rfl (by first | exact Or.inl rfl | exact Or.inr rfl) (pe_lst pa_nil))
    (pss_cons (ps_while PassesOwn.never (pt_val (C8.pe_mt (ok_TextReader_goes_on T) hr (by omega) (pv 0) (pa_cons (pe_callB call_len_seq (by rfl) T.m_len bt_len (pa_cons (pv 1) pa_nil)) (pa_cons pe_str pa_nil))))
      (pss_cons (ps_set (i := 2) sc_TextReader_value_pairs.nd rfl (by first | exact Or.inl rfl | exact Or.inr rfl) (C8.pe_mt (ok_TextReader_taken T) hr (by omega) (pv 0) (pa_cons pe_str pa_nil)))
      (pss_cons (ps_expr (C8.pe_mt (ok_TextReader_due T) hr (by omega) (pv 0) (pa_cons pe_str pa_nil)))
      (pss_one (ps_expr (pe_bm PySem.F.plainAttrs_list PySem.F.slot_list_append PySem.F.type_list_append mt_append (pv 1) (pa_cons (pe_tup (pa_cons (pv 2) (pa_cons (C8.pe_mt0 ih hr (by omega) (pv 0)) pa_nil))) pa_nil)))))))
    (pss_one (ps_ret (pe_callTy call_tuple_of (by rfl) T.m_tuple bt_tuple (pa_cons (pv 1) pa_nil)))))), ?_⟩
  have hz := sizeL
  let ps : List (List Tk) := es.map pairT
  have hpl : ps.length = es.length := List.length_map _
  have hps : ∀ i, ps[i]? = (es[i]?).map pairT := fun i => List.getElem?_map
  have hh : ∀ p ∈ ps, ∃ h l, st p = h :: l ∧ h ≠ .s 125 := fun p hp => by
    obtain ⟨x, _, rfl⟩ := List.mem_map.mp hp
    exact ⟨.w x.x, _, rfl, fun z => nomatch z⟩
  have hne := hs.ne
  have hs0 : RS K H r L (Rem ps 0 (.s 125 :: rest)) k := by
    rw [rem_zero]
    exact hs
  refine ⟨Nat.zero_le _, fun p np => ?_⟩
  have e0 : Same H (upd H p (.lst [])) := (Kx.new _ np).to
  refine while_up es.length (fun i σ H' => Kx (M1 r) H H' ∧ RS K H' r L (Rem ps i (.s 125 :: rest)) k ∧ ∃ us y2, σ = [some (.ref r), some (.ref p), y2] ∧ H' p = some (.lst us) ∧ RpA K H' us ((es.take i).map fun e => pairD e.x e.v)) ⟨Kx.same e0, hs0.sm e0, [], none, rfl, upd_same, .nil⟩ (fun i σ H2 m W hi hP hW => ?_)
  obtain ⟨e3, hs2, us, y2, rfl, hp, hR⟩ := hP
  have hul : us.length = i := by
    rw [hR.length, List.length_map, List.length_take]
    omega
  obtain ⟨dx, i0, h1⟩ := hs2.ins
  refine ⟨_, rfl, r, dx, _, rfl, h1, lk_none _ _ _ _ (by decide +kernel), _, rfl, p, _, rfl, .inl (SqL.of hp), r, L, ps, rest, k, 125, i, ?_, by decide, by decide, by omega, hh, hs2, fun q H3 hq e4 hs3 => ⟨_, rfl, ?_⟩, fun he H3 e4 hs3 => ⟨_, rfl, ?_⟩⟩
  · rw [hul]
    rfl
  · have hlt : i < es.length := by
      rw [← hpl]
      exact (List.getElem?_eq_some_iff.mp hq).1
    have ew : es[i]? = some es[i] := List.getElem?_eq_getElem hlt
    rw [hps, ew] at hq
    obtain rfl := Option.some.inj hq
    refine Exists.intro _ ⟨hW hlt, ?_⟩
    obtain ⟨g1, g2⟩ := carry hs2 hp hR e4
    obtain ⟨dx, i0, h1⟩ := hs3.ins
    refine ⟨_, rfl, r, dx, _, rfl, h1, lk_none _ _ _ _ (by decide +kernel), r, L, .w es[i].x, _, k, _, _, rfl, rfl, hs3, fun v2 H4 e5 hv4 hs4 => ?_⟩
    obtain rfl := hv4.str_of
    obtain ⟨g1, g2⟩ := carry hs3 g1 g2 e5
    obtain ⟨dx, i0, h1⟩ := hs4.ins
    refine ⟨_, rfl, r, dx, _, rfl, h1, lk_none _ _ _ _ (by decide +kernel), r, L, _, k, 58, rfl, by decide, hs4, fun H5 e6 hs5 => ?_⟩
    obtain ⟨g1, g2⟩ := carry hs4 g1 g2 e6
    obtain ⟨dx, i0, h1⟩ := hs5.ins
    refine ⟨_, rfl, .inl ⟨rfl, _, SqL.of g1⟩, _, rfl, _, rfl, r, dx, _, rfl, h1, lk_none _ _ _ _ (by decide +kernel), r, L, es[i].v, es[i].ts, _, k, rfl, hE _ (List.getElem_mem hlt), hs5, hk, fun v6 H6 e7 hv6 hs6 => ⟨(by show 2 ≤ sizeLine; decide), fun t nt => ?_⟩⟩
    obtain ⟨g1, g2⟩ := carry hs5 g1 g2 e7
    have e8 : Same H6 (upd H6 t (.tup [.str es[i].x, v6])) := (Kx.new _ nt).to
    have hvt : Rp K (upd H6 t (.tup [.str es[i].x, v6])) (.ref t) (pairD es[i].x es[i].v) := .tup (SqT.of upd_same) (.cons (.str _) (.cons (hv6.sm e8) .nil))
    obtain ⟨a1, a2, a3⟩ := added np hne (((((e3.trans e4).trans e5).trans e6).trans e7).trans (Kx.same e8)) (e8 _ _ g1) (g2.sm e8) hvt (hs6.sm e8)
    refine ⟨p, us, _, rfl, rfl, e8 _ _ g1, by omega, a1, ?_, us ++ [.ref t], some (.str es[i].x), rfl, upd_same, ?_⟩
    · rw [rem_succ]
      exact a3
    · rw [take_map_succ ew]
      exact a2
  · have e0 : i = es.length := by omega
    obtain ⟨g1, g2⟩ := carry hs2 hp hR e4
    rw [e0, List.take_length] at g2
    refine ⟨_, rfl, p, us, rfl, .inl ⟨SqL.of g1, fun l nl => ?_⟩⟩
    have e6 : Same H3 (upd H3 l (.tup us)) := (Kx.new _ nl).to
    exact kk _ _ ((e3.trans e4).trans (Kx.same e6)) (.tup (SqT.of upd_same) (g2.sm e6)) (hs3.sm e6)
theorem ok_TextReader_values (T : Txt w K mg) {R : PyData → List Tk → Prop} {lv n : Nat} (hlv : 3 ≤ lv) (ih : C8.Met P w K mg base lv (TRc K) "value" (spPv K R n) []) : C8.Met P w K mg base (lv + 1) (TRc K) "values" (spValues K R n) [] := by
  refine metD (tell_TextReader_values T) sc_TextReader_values bind_TextReader_values (fun vs H Q E h => ?_) (fun f cdv A outer s H vs Q E hr h => ?_)
  · obtain ⟨_, _, _, _, _, _, rfl, _⟩ := h
    rfl
  obtain ⟨r, L, es, rest, k, c, rfl, hc, hcc, h8, hE, hs, hk, kk⟩ := h
  refine ⟨_, (pss_cons (ps_set (i := 2) sc_TextReader_values.nd rfl (by first | exact Or.inl rfl | exact Or.inr rfl) (pe_lst pa_nil))
    (pss_cons (ps_while PassesOwn.never (pt_val (C8.pe_mt (ok_TextReader_goes_on T) hr (by omega) (pv 0) (pa_cons (pe_callB call_len_seq (by rfl) T.m_len bt_len (pa_cons (pv 2) pa_nil)) (pa_cons (pv 1) pa_nil))))
      (pss_one (ps_expr (pe_bm PySem.F.plainAttrs_list PySem.F.slot_list_append PySem.F.type_list_append mt_append (pv 2) (pa_cons (C8.pe_mt0 ih hr (by omega) (pv 0)) pa_nil)))))
    (pss_one (ps_ret (pe_callTy call_tuple_of (by rfl) T.m_tuple bt_tuple (pa_cons (pv 2) pa_nil)))))), ?_⟩
  have hz := sizeL
  let ps : List (List Tk) := es.map Ent.ts
  have hpl : ps.length = es.length := List.length_map _
  have hps : ∀ i, ps[i]? = (es[i]?).map Ent.ts := fun i => List.getElem?_map
  have hh : ∀ p ∈ ps, ∃ h l, st p = h :: l ∧ h ≠ .s c := fun p hp => by
    obtain ⟨x, hx, rfl⟩ := List.mem_map.mp hp
    exact (hE x hx).2
  have hne := hs.ne
  have hs0 : RS K H r L (Rem ps 0 (.s c :: rest)) k := by
    rw [rem_zero]
    exact hs
  refine ⟨Nat.zero_le _, fun p np => ?_⟩
  have e0 : Same H (upd H p (.lst [])) := (Kx.new _ np).to
  refine while_up es.length (fun i σ H' => Kx (M1 r) H H' ∧ RS K H' r L (Rem ps i (.s c :: rest)) k ∧ ∃ us, σ = [some (.ref r), some (.str ⟨#[c]⟩), some (.ref p)] ∧ H' p = some (.lst us) ∧ RpA K H' us ((es.take i).map (·.v))) ⟨Kx.same e0, hs0.sm e0, [], rfl, upd_same, .nil⟩ (fun i σ H2 m W hi hP hW => ?_)
  obtain ⟨e3, hs2, us, rfl, hp, hR⟩ := hP
  have hul : us.length = i := by
    rw [hR.length, List.length_map, List.length_take]
    omega
  obtain ⟨dx, i0, h1⟩ := hs2.ins
  refine ⟨_, rfl, r, dx, _, rfl, h1, lk_none _ _ _ _ (by decide +kernel), _, rfl, p, _, rfl, .inl (SqL.of hp), _, rfl, r, L, ps, rest, k, c, i, ?_, hc, hcc, by omega, hh, hs2, fun q H3 hq e4 hs3 => ⟨_, rfl, ?_⟩, fun he H3 e4 hs3 => ⟨_, rfl, ?_⟩⟩
  · rw [hul]
    rfl
  · have hlt : i < es.length := by
      rw [← hpl]
      exact (List.getElem?_eq_some_iff.mp hq).1
    have ew : es[i]? = some es[i] := List.getElem?_eq_getElem hlt
    rw [hps, ew] at hq
    obtain rfl := Option.some.inj hq
    refine Exists.intro _ ⟨hW hlt, ?_⟩
    obtain ⟨g1, g2⟩ := carry hs2 hp hR e4
    obtain ⟨dx, i0, h1⟩ := hs3.ins
    refine ⟨_, rfl, .inl ⟨rfl, _, SqL.of g1⟩, _, rfl, r, dx, _, rfl, h1, lk_none _ _ _ _ (by decide +kernel), r, L, es[i].v, es[i].ts, _, k, rfl, (hE _ (List.getElem_mem hlt)).1, hs3, hk, fun v6 H6 e7 hv6 hs6 => ?_⟩
    obtain ⟨g1, g2⟩ := carry hs3 g1 g2 e7
    obtain ⟨a1, a2, a3⟩ := added np hne ((e3.trans e4).trans e7) g1 g2 hv6 hs6
    refine ⟨p, us, _, rfl, rfl, g1, by omega, a1, ?_, us ++ [v6], rfl, upd_same, ?_⟩
    · rw [rem_succ]
      exact a3
    · rw [take_map_succ (f := fun e : Ent => e.v) ew]
      exact a2
  · have e0 : i = es.length := by omega
    obtain ⟨g1, g2⟩ := carry hs2 hp hR e4
    rw [e0, List.take_length] at g2
    refine ⟨_, rfl, p, us, rfl, .inl ⟨SqL.of g1, fun l nl => ?_⟩⟩
    have e6 : Same H3 (upd H3 l (.tup us)) := (Kx.new _ nl).to
    exact kk _ _ ((e3.trans e4).trans (Kx.same e6)) (.tup (SqT.of upd_same) (g2.sm e6)) (hs3.sm e6)
end
end OH
end

section
set_option Elab.async false
set_option linter.all false
set_option maxRecDepth 100000
set_option maxHeartbeats 4000000
set_option autoImplicit false
namespace OH
open PySem PySem.Spec PyProof.Rows L2
def PRg (Kr Vr Tr : PyData → List Tk → Prop) (q : Nat) (d : PyData) (ts : List Tk) : Prop :=
  (q = 110 ∧ ∃ x, IsWord x ∧ d = .str x ∧ ts = [.w x]) ∨ (q = 109 ∧ ∃ i, IsNum i ∧ d = .int i ∧ ts = [.n i]) ∨ (q = 107 ∧ Kr d ts) ∨ (q = 118 ∧ Vr d ts) ∨ (q = 116 ∧ Tr d ts) ∨ (q = 115 ∧ ∃ x, IsText x ∧ d = .str x ∧ ts = [.t x])
structure Ptg (Kr Vr Tr : PyData → List Tk → Prop) (q : List Nat) (ds : List PyData) (ps : List (List Tk)) : Prop where
  l1 : q.length = ds.length
  l2 : ds.length = ps.length
  small : ds.length ≤ 6
  at_ : ∀ (i c : Nat) (d : PyData) (p : List Tk), q[i]? = some c → ds[i]? = some d → ps[i]? = some p → PRg Kr Vr Tr c d p
def spPart (K : PySem.W.Frag) (Kr Vr Tr : PyData → List Tk → Prop) (n : Nat) : Sp := fun vs H Q _ => ∃ (r L : Addr) (q : Nat) (d : PyData) (ts rest : List Tk) (k : Nat), vs = [.ref r, .str ⟨#[q]⟩] ∧ PRg Kr Vr Tr q d ts ∧ RS K H r L (st ts ++ rest) k ∧ k + n ≤ 40 ∧
  ∀ v H', Kx (M1 r) H H' → Rp K H' v d → RS K H' r L rest k → Q v H'
def spParts (K : PySem.W.Frag) (Kr Vr Tr : PyData → List Tk → Prop) (n : Nat) : Sp := fun vs H Q _ => ∃ (r L : Addr) (z : Str) (ds : List PyData) (ps : List (List Tk)) (rest : List Tk) (k : Nat), vs = [.ref r, .str z] ∧ Ptg Kr Vr Tr (TL.tl z) ds ps ∧ RS K H r L (st (sep ps) ++ rest) k ∧ k + n ≤ 40 ∧
  ∀ v H', Kx (M1 r) H H' → Rp K H' v (.tuple ds) → RS K H' r L rest k → Q v H'
/-- (word,) + parts -/
theorem cat_ok {K : PySem.W.Frag} {H : Hp} {Q : VK} {a : Addr} {v : V} {x : Str} {ds : List PyData} (ha : SqT K H a [.str x]) (hv : Rp K H v (.tuple ds)) (hl : ds.length ≤ 100) (k : ∀ v' H', Same H H' → Rp K H' v' (.tuple (.str x :: ds)) → Q v' H') : rCatA K (.ref a) v H Q := by
  obtain ⟨b, ys, rfl, hb, hR⟩ := hv.tup_of
  have hlen := hR.length
  have hz := sizeL
  refine ⟨a, b, _, ys, rfl, rfl, ha, hb, by show 1 + _ ≤ _; omega, (fun z => nomatch z), (fun _ e => ?_), fun _ _ p np => ?_⟩
  · subst e
    cases hR
    exact k _ _ (Same.refl _) (.tup ha (.cons (.str x) .nil))
  · have e1 : Same H (upd H p (.tup (V.str x :: ys))) := (Kx.new _ np).to
    exact k _ _ e1 (.tup (SqT.of upd_same) (.cons (.str x) (hR.sm e1)))
def No : PyData → List Tk → Prop := fun _ _ => False
section
variable {P : Program} {w : World} {K : PySem.W.Frag} {mg : Str → Option Value} {base : Heap}
theorem vac_kind (T : Txt w K mg) (lv n : Nat) : C8.Met P w K mg base (lv + 1) (TRc K) "kind" (spPv K No n) [] := by
  refine metD (k := lv) (tell_TextReader_kind T) sc_TextReader_kind bind_TextReader_kind (fun vs H Q E h => ?_) (fun f cdv A outer s H vs Q E hr h => ?_)
  · obtain ⟨_, _, _, _, _, _, _, h, _⟩ := h
    exact h.elim
  · obtain ⟨_, _, _, _, _, _, _, h, _⟩ := h
    exact h.elim
theorem vac_value (T : Txt w K mg) (lv n : Nat) : C8.Met P w K mg base (lv + 1) (TRc K) "value" (spPv K No n) [] := by
  refine metD (k := lv) (tell_TextReader_value T) sc_TextReader_value bind_TextReader_value (fun vs H Q E h => ?_) (fun f cdv A outer s H vs Q E hr h => ?_)
  · obtain ⟨_, _, _, _, _, _, _, h, _⟩ := h
    exact h.elim
  · obtain ⟨_, _, _, _, _, _, _, h, _⟩ := h
    exact h.elim
theorem vac_turn (T : Txt w K mg) (lv n : Nat) : C8.Met P w K mg base (lv + 1) (TRc K) "turn" (spPv K No n) [] := by
  refine metD (k := lv) (tell_TextReader_turn T) sc_TextReader_turn bind_TextReader_turn (fun vs H Q E h => ?_) (fun f cdv A outer s H vs Q E hr h => ?_)
  · obtain ⟨_, _, _, _, _, _, _, h, _⟩ := h
    exact h.elim
  · obtain ⟨_, _, _, _, _, _, _, h, _⟩ := h
    exact h.elim
theorem ok_TextReader_name_pairs (T : Txt w K mg) : C8.Met P w K mg base (3) (TRc K) "name_pairs" (spNamePairs K) [] := by
  refine metD (tell_TextReader_name_pairs T) sc_TextReader_name_pairs bind_TextReader_name_pairs (fun vs H Q E h => ?_) (fun f cdv A outer s H vs Q E hr h => ?_)
  · obtain ⟨_, _, _, _, _, rfl, _⟩ := h
    rfl
  obtain ⟨r, L, ps, rest, k, rfl, h1p, h8, hs, kk⟩ := h
  refine ⟨_, (pss_cons (ps_set (i := 1) sc_TextReader_name_pairs.nd rfl (by first | exact Or.inl rfl | exact Or.inr rfl) (pe_lst pa_nil))
    (pss_cons (ps_while PassesOwn.never (PW.pt (pw_or (pt_cmpR op_eq (pe_callB call_len_seq (by rfl) T.m_len bt_len (pa_cons (pv 1) pa_nil)) pe_int (nomark _)) (pw_or1 (pt_val (C8.pe_mt (ok_TextReader_goes_on T) hr (by decide) (pv 0) (pa_cons (pe_callB call_len_seq (by rfl) T.m_len bt_len (pa_cons (pv 1) pa_nil)) (pa_cons pe_str pa_nil)))))))
      (pss_cons (ps_set (i := 2) sc_TextReader_name_pairs.nd rfl (by first | exact Or.inl rfl | exact Or.inr rfl) (C8.pe_mt (ok_TextReader_taken T) hr (by decide) (pv 0) (pa_cons pe_str pa_nil)))
      (pss_cons (ps_expr (C8.pe_mt (ok_TextReader_due T) hr (by decide) (pv 0) (pa_cons pe_str pa_nil)))
      (pss_one (ps_expr (pe_bm PySem.F.plainAttrs_list PySem.F.slot_list_append PySem.F.type_list_append mt_append (pv 1) (pa_cons (pe_tup (pa_cons (pv 2) (pa_cons (C8.pe_mt (ok_TextReader_taken T) hr (by decide) (pv 0) (pa_cons pe_str pa_nil)) pa_nil))) pa_nil)))))))
    (pss_one (ps_ret (pe_callTy call_tuple_of (by rfl) T.m_tuple bt_tuple (pa_cons (pv 1) pa_nil)))))), ?_⟩
  have hz := sizeL
  let qs : List (List Tk) := ps.map fun p : Two => [Tk.w p.x, .s 58, .sp, .w p.y]
  have hpl : qs.length = ps.length := List.length_map _
  have hps : ∀ i, qs[i]? = (ps[i]?).map fun p : Two => [Tk.w p.x, .s 58, .sp, .w p.y] := fun i => List.getElem?_map
  have hh : ∀ p ∈ qs, ∃ h l, st p = h :: l ∧ h ≠ .s 41 := fun p hp => by
    obtain ⟨x, _, rfl⟩ := List.mem_map.mp hp
    exact ⟨.w x.x, _, rfl, fun z => nomatch z⟩
  have hne := hs.ne
  have hs0 : RS K H r L (Rem qs 0 (.s 41 :: rest)) k := by
    rw [rem_zero]
    exact hs
  refine ⟨Nat.zero_le _, fun p np => ?_⟩
  have e0 : Same H (upd H p (.lst [])) := (Kx.new _ np).to
  refine while_up ps.length (fun i σ H' => Kx (M1 r) H H' ∧ RS K H' r L (Rem qs i (.s 41 :: rest)) k ∧ ∃ us y2, σ = [some (.ref r), some (.ref p), y2] ∧ H' p = some (.lst us) ∧ RpA K H' us ((ps.take i).map fun e => pairD e.x (.str e.y))) ⟨Kx.same e0, hs0.sm e0, [], none, rfl, upd_same, .nil⟩ (fun i σ H2 m W hi hP hW => ?_)
  obtain ⟨e3, hs2, us, y2, rfl, hp, hR⟩ := hP
  have hul : us.length = i := by
    rw [hR.length, List.length_map, List.length_take]
    omega
  obtain ⟨dx, i0, h1⟩ := hs2.ins
  by_cases hi0 : i = 0
  · have hlt : i < ps.length := by omega
    have ew : ps[i]? = some ps[i] := List.getElem?_eq_getElem hlt
    have eq : qs[i]? = some [Tk.w ps[i].x, .s 58, .sp, .w ps[i].y] := by rw [hps, ew]; rfl
    have hs3 := hs2
    rw [rem_at eq, if_pos hi0, List.nil_append] at hs3
    have g1 := hp
    have g2 := hR
    have e34 := e3
    refine ⟨_, rfl, p, _, rfl, .inl (SqL.of hp), rfl, _, rfl, if_t (decide_eq_true (by rw [hul, hi0]; rfl)) ?_⟩
    refine Exists.intro _ ⟨hW hlt, ?_⟩
    obtain ⟨dx, i0, h1⟩ := hs3.ins
    refine ⟨_, rfl, r, dx, _, rfl, h1, lk_none _ _ _ _ (by decide +kernel), r, L, .w ps[i].x, _, k, _, _, rfl, rfl, hs3, fun v2 H4 e5 hv4 hs4 => ?_⟩
    obtain rfl := hv4.str_of
    obtain ⟨g1, g2⟩ := carry hs3 g1 g2 e5
    obtain ⟨dx, i0, h1⟩ := hs4.ins
    refine ⟨_, rfl, r, dx, _, rfl, h1, lk_none _ _ _ _ (by decide +kernel), r, L, _, k, 58, rfl, by decide, hs4, fun H5 e6 hs5 => ?_⟩
    obtain ⟨g1, g2⟩ := carry hs4 g1 g2 e6
    obtain ⟨dx, i0, h1⟩ := hs5.ins
    refine ⟨_, rfl, .inl ⟨rfl, _, SqL.of g1⟩, _, rfl, _, rfl, r, dx, _, rfl, h1, lk_none _ _ _ _ (by decide +kernel), r, L, .w ps[i].y, _, k, _, _, rfl, rfl, hs5, fun v6 H6 e7 hv6 hs6 => ⟨(by show 2 ≤ sizeLine; decide), fun t nt => ?_⟩⟩
    obtain ⟨g1, g2⟩ := carry hs5 g1 g2 e7
    have e8 : Same H6 (upd H6 t (.tup [.str ps[i].x, v6])) := (Kx.new _ nt).to
    have hvt : Rp K (upd H6 t (.tup [.str ps[i].x, v6])) (.ref t) (pairD ps[i].x (.str ps[i].y)) := .tup (SqT.of upd_same) (.cons (.str _) (.cons (hv6.sm e8) .nil))
    obtain ⟨a1, a2, a3⟩ := added np hne ((((e34.trans e5).trans e6).trans e7).trans (Kx.same e8)) (e8 _ _ g1) (g2.sm e8) hvt (hs6.sm e8)
    refine ⟨p, us, _, rfl, rfl, e8 _ _ g1, by omega, a1, ?_, us ++ [.ref t], some (.str ps[i].x), rfl, upd_same, ?_⟩
    · rw [rem_succ]
      exact a3
    · rw [take_map_succ ew]
      exact a2
  · refine ⟨_, rfl, p, _, rfl, .inl (SqL.of hp), rfl, _, rfl, if_f (decide_eq_false fun z => by have := V.int.inj z; omega) ?_⟩
    refine ⟨_, rfl, r, dx, _, rfl, h1, lk_none _ _ _ _ (by decide +kernel), _, rfl, p, _, rfl, .inl (SqL.of hp), r, L, qs, rest, k, 41, i, ?_, by decide, by decide, by omega, hh, hs2, fun q H3 hq e4 hs3 => ⟨_, rfl, ?_⟩, fun he H3 e4 hs3 => ⟨_, rfl, ?_⟩⟩
    · rw [hul]
      rfl
    · have hlt : i < ps.length := by
        rw [← hpl]
        exact (List.getElem?_eq_some_iff.mp hq).1
      have ew : ps[i]? = some ps[i] := List.getElem?_eq_getElem hlt
      rw [hps, ew] at hq
      obtain rfl := Option.some.inj hq
      refine Exists.intro _ ⟨hW hlt, ?_⟩
      obtain ⟨g1, g2⟩ := carry hs2 hp hR e4
      have e34 := e3.trans e4
      obtain ⟨dx, i0, h1⟩ := hs3.ins
      refine ⟨_, rfl, r, dx, _, rfl, h1, lk_none _ _ _ _ (by decide +kernel), r, L, .w ps[i].x, _, k, _, _, rfl, rfl, hs3, fun v2 H4 e5 hv4 hs4 => ?_⟩
      obtain rfl := hv4.str_of
      obtain ⟨g1, g2⟩ := carry hs3 g1 g2 e5
      obtain ⟨dx, i0, h1⟩ := hs4.ins
      refine ⟨_, rfl, r, dx, _, rfl, h1, lk_none _ _ _ _ (by decide +kernel), r, L, _, k, 58, rfl, by decide, hs4, fun H5 e6 hs5 => ?_⟩
      obtain ⟨g1, g2⟩ := carry hs4 g1 g2 e6
      obtain ⟨dx, i0, h1⟩ := hs5.ins
      refine ⟨_, rfl, .inl ⟨rfl, _, SqL.of g1⟩, _, rfl, _, rfl, r, dx, _, rfl, h1, lk_none _ _ _ _ (by decide +kernel), r, L, .w ps[i].y, _, k, _, _, rfl, rfl, hs5, fun v6 H6 e7 hv6 hs6 => ⟨(by show 2 ≤ sizeLine; decide), fun t nt => ?_⟩⟩
      obtain ⟨g1, g2⟩ := carry hs5 g1 g2 e7
      have e8 : Same H6 (upd H6 t (.tup [.str ps[i].x, v6])) := (Kx.new _ nt).to
      have hvt : Rp K (upd H6 t (.tup [.str ps[i].x, v6])) (.ref t) (pairD ps[i].x (.str ps[i].y)) := .tup (SqT.of upd_same) (.cons (.str _) (.cons (hv6.sm e8) .nil))
      obtain ⟨a1, a2, a3⟩ := added np hne ((((e34.trans e5).trans e6).trans e7).trans (Kx.same e8)) (e8 _ _ g1) (g2.sm e8) hvt (hs6.sm e8)
      refine ⟨p, us, _, rfl, rfl, e8 _ _ g1, by omega, a1, ?_, us ++ [.ref t], some (.str ps[i].x), rfl, upd_same, ?_⟩
      · rw [rem_succ]
        exact a3
      · rw [take_map_succ ew]
        exact a2
    · have e0 : i = ps.length := by omega
      obtain ⟨g1, g2⟩ := carry hs2 hp hR e4
      rw [e0, List.take_length] at g2
      refine ⟨_, rfl, p, us, rfl, .inl ⟨SqL.of g1, fun l nl => ?_⟩⟩
      have e6 : Same H3 (upd H3 l (.tup us)) := (Kx.new _ nl).to
      exact kk _ _ ((e3.trans e4).trans (Kx.same e6)) (.tup (SqT.of upd_same) (g2.sm e6)) (hs3.sm e6)
theorem ok_TextReader_part (T : Txt w K mg) {Kr Vr Tr : PyData → List Tk → Prop} {lv lk lw lt nk nv nt n : Nat} (hl : 1 ≤ lv ∧ lk ≤ lv ∧ lw ≤ lv ∧ lt ≤ lv) (hn : nk ≤ n ∧ nv ≤ n ∧ nt ≤ n) (ihk : C8.Met P w K mg base lk (TRc K) "kind" (spPv K Kr nk) []) (ihv : C8.Met P w K mg base lw (TRc K) "value" (spPv K Vr nv) []) (iht : C8.Met P w K mg base lt (TRc K) "turn" (spPv K Tr nt) []) : C8.Met P w K mg base (lv + 1) (TRc K) "part" (spPart K Kr Vr Tr n) [] := by
  refine metD (tell_TextReader_part T) sc_TextReader_part bind_TextReader_part (fun vs H Q E h => ?_) (fun f cdv A outer s H vs Q E hr h => ?_)
  · obtain ⟨_, _, _, _, _, _, _, rfl, _⟩ := h
    rfl
  obtain ⟨r, L, q, d, ts, rest, k, rfl, hP, hs, hk, kk⟩ := h
  refine ⟨_, (pss_cons (ps_if (pt_cmpR op_eq (pv 1) pe_str (nomark _))
      (pss_one (ps_ret (C8.pe_mt (ok_TextReader_taken T) hr (by omega) (pv 0) (pa_cons pe_str pa_nil))))
      pss_nil)
    (pss_cons (ps_if (pt_cmpR op_eq (pv 1) pe_str (nomark _))
      (pss_one (ps_ret (C8.pe_mt (ok_TextReader_taken T) hr (by omega) (pv 0) (pa_cons pe_str pa_nil))))
      pss_nil)
    (pss_cons (ps_if (pt_cmpR op_eq (pv 1) pe_str (nomark _))
      (pss_one (ps_ret (C8.pe_mt0 ihk hr (by omega) (pv 0))))
      pss_nil)
    (pss_cons (ps_if (pt_cmpR op_eq (pv 1) pe_str (nomark _))
      (pss_one (ps_ret (C8.pe_mt0 ihv hr (by omega) (pv 0))))
      pss_nil)
    (pss_cons (ps_if (pt_cmpR op_eq (pv 1) pe_str (nomark _))
      (pss_one (ps_ret (C8.pe_mt0 iht hr (by omega) (pv 0))))
      pss_nil)
    (pss_one (ps_ret (C8.pe_mt (ok_TextReader_taken T) hr (by omega) (pv 0) (pa_cons pe_str pa_nil))))))))), ?_⟩
  obtain ⟨dx, i0, h1⟩ := hs.ins
  rcases hP with ⟨rfl, x, hx, rfl, rfl⟩ | ⟨rfl, x, hx, rfl, rfl⟩ | ⟨rfl, hR⟩ | ⟨rfl, hR⟩ | ⟨rfl, hR⟩ | ⟨rfl, x, hx, rfl, rfl⟩
  · refine ⟨_, rfl, rfl, _, rfl, if_t (by decide +kernel) ?_⟩
    exact ⟨_, rfl, r, dx, _, rfl, h1, lk_none _ _ _ _ (by decide +kernel), r, L, .w x, rest, k, _, _, rfl, rfl, hs, kk⟩
  · refine ⟨_, rfl, rfl, _, rfl, if_f (by decide +kernel) ?_⟩
    refine ⟨_, rfl, rfl, _, rfl, if_t (by decide +kernel) ?_⟩
    exact ⟨_, rfl, r, dx, _, rfl, h1, lk_none _ _ _ _ (by decide +kernel), r, L, .n x, rest, k, _, _, rfl, rfl, hs, kk⟩
  · refine ⟨_, rfl, rfl, _, rfl, if_f (by decide +kernel) ?_⟩
    refine ⟨_, rfl, rfl, _, rfl, if_f (by decide +kernel) ?_⟩
    refine ⟨_, rfl, rfl, _, rfl, if_t (by decide +kernel) ?_⟩
    exact ⟨_, rfl, r, dx, _, rfl, h1, lk_none _ _ _ _ (by decide +kernel), r, L, d, ts, rest, k, rfl, hR, hs, by omega, kk⟩
  · refine ⟨_, rfl, rfl, _, rfl, if_f (by decide +kernel) ?_⟩
    refine ⟨_, rfl, rfl, _, rfl, if_f (by decide +kernel) ?_⟩
    refine ⟨_, rfl, rfl, _, rfl, if_f (by decide +kernel) ?_⟩
    refine ⟨_, rfl, rfl, _, rfl, if_t (by decide +kernel) ?_⟩
    exact ⟨_, rfl, r, dx, _, rfl, h1, lk_none _ _ _ _ (by decide +kernel), r, L, d, ts, rest, k, rfl, hR, hs, by omega, kk⟩
  · refine ⟨_, rfl, rfl, _, rfl, if_f (by decide +kernel) ?_⟩
    refine ⟨_, rfl, rfl, _, rfl, if_f (by decide +kernel) ?_⟩
    refine ⟨_, rfl, rfl, _, rfl, if_f (by decide +kernel) ?_⟩
    refine ⟨_, rfl, rfl, _, rfl, if_f (by decide +kernel) ?_⟩
    refine ⟨_, rfl, rfl, _, rfl, if_t (by decide +kernel) ?_⟩
    exact ⟨_, rfl, r, dx, _, rfl, h1, lk_none _ _ _ _ (by decide +kernel), r, L, d, ts, rest, k, rfl, hR, hs, by omega, kk⟩
  · refine ⟨_, rfl, rfl, _, rfl, if_f (by decide +kernel) ?_⟩
    refine ⟨_, rfl, rfl, _, rfl, if_f (by decide +kernel) ?_⟩
    refine ⟨_, rfl, rfl, _, rfl, if_f (by decide +kernel) ?_⟩
    refine ⟨_, rfl, rfl, _, rfl, if_f (by decide +kernel) ?_⟩
    refine ⟨_, rfl, rfl, _, rfl, if_f (by decide +kernel) ?_⟩
    exact ⟨_, rfl, r, dx, _, rfl, h1, lk_none _ _ _ _ (by decide +kernel), r, L, .t x, rest, k, _, _, rfl, rfl, hs, kk⟩
theorem ok_TextReader_parts (T : Txt w K mg) {Kr Vr Tr : PyData → List Tk → Prop} {lv n : Nat} (hl : 2 ≤ lv) (ih : C8.Met P w K mg base lv (TRc K) "part" (spPart K Kr Vr Tr n) []) : C8.Met P w K mg base (lv + 1) (TRc K) "parts" (spParts K Kr Vr Tr n) [] := by
  refine metD (tell_TextReader_parts T) sc_TextReader_parts bind_TextReader_parts (fun vs H Q E h => ?_) (fun f cdv A outer s H vs Q E hr h => ?_)
  · obtain ⟨_, _, _, _, _, _, _, rfl, _⟩ := h
    rfl
  obtain ⟨r, L, z, ds, ps, rest, k, rfl, hPt, hs, hk, kk⟩ := h
  refine ⟨_, (pss_cons (ps_set (i := 2) sc_TextReader_parts.nd rfl (by first | exact Or.inl rfl | exact Or.inr rfl) (pe_lst pa_nil))
    (pss_cons (ps_for PassesOwn.never rfl (pi_str (pv 1)) (pg_name (i := 3) sc_TextReader_parts.nd rfl (by first | exact Or.inl rfl | exact Or.inr rfl))
      (pss_cons (ps_if (pt_cmpR op_gt (pe_callB call_len_seq (by rfl) T.m_len bt_len (pa_cons (pv 2) pa_nil)) pe_int (nomark _))
        (pss_one (ps_expr (C8.pe_mt (ok_TextReader_due T) hr (by omega) (pv 0) (pa_cons pe_str pa_nil))))
        pss_nil)
      (pss_one (ps_expr (pe_bm PySem.F.plainAttrs_list PySem.F.slot_list_append PySem.F.type_list_append mt_append (pv 2) (pa_cons (C8.pe_mt ih hr (by omega) (pv 0) (pa_cons (pv 3) pa_nil)) pa_nil))))))
    (pss_one (ps_ret (pe_callTy call_tuple_of (by rfl) T.m_tuple bt_tuple (pa_cons (pv 2) pa_nil)))))), ?_⟩
  have hz := sizeL
  have hl1 := hPt.l1
  have hl2 := hPt.l2
  have hl3 := hPt.small
  have hzl : (TL.tl z).length = z.cps.size := Array.length_toList
  have hne := hs.ne
  have hs0 : RS K H r L (Rem ps 0 rest) k := by
    rw [rem_zero]
    exact hs
  refine ⟨Nat.zero_le _, fun p np => ?_⟩
  have e0 : Same H (upd H p (.lst [])) := (Kx.new _ np).to
  refine ⟨_, rfl, z, rfl, ?_⟩
  refine for_it (D := { nx := _, rt := _ }) walk_str (fun i σ H' => Kx (M1 r) H H' ∧ RS K H' r L (Rem ps i rest) k ∧ ∃ us y3, σ = [some (.ref r), some (.str z), some (.ref p), y3] ∧ H' p = some (.lst us) ∧ RpA K H' us (ds.take i)) ⟨Kx.same e0, hs0.sm e0, [], none, rfl, upd_same, .nil⟩ (fun i σ H' _ _ => True.intro) (fun i x σ H2 H2' hi hP y => ?_) (fun σ H3 hP => ?_)
  · obtain ⟨e3, hs2, us, y3, rfl, hp, hR⟩ := hP
    obtain ⟨rfl, c, hc, rfl⟩ := y
    have hul : us.length = i := by
      rw [hR.length, List.length_take]
      omega
    have ew : ps[i]? = some ps[i] := List.getElem?_eq_getElem (by omega)
    have ed : ds[i]? = some ds[i] := List.getElem?_eq_getElem (by omega)
    have hct : (TL.tl z)[i]? = some c := by
      show (z.cps.toList)[i]? = some c
      rw [Array.getElem?_toList]
      exact hc
    have g1 := hp
    have g2 := hR
    by_cases hi0 : i = 0
    · have hs3 := hs2
      rw [rem_at ew, if_pos hi0, List.nil_append] at hs3
      have e34 := e3
      refine ⟨_, rfl, p, _, rfl, .inl (SqL.of hp), _, _, rfl, rfl, _, rfl, if_f (decide_eq_false (by omega)) ?_⟩
      obtain ⟨dx, i0, h1⟩ := hs3.ins
      refine ⟨_, rfl, .inl ⟨rfl, _, SqL.of g1⟩, _, rfl, r, dx, _, rfl, h1, lk_none _ _ _ _ (by decide +kernel), _, rfl, r, L, c, ds[i], ps[i], _, k, rfl, hPt.at_ i c _ _ hct ed ew, hs3, hk, fun v6 H6 e7 hv6 hs6 => ?_⟩
      obtain ⟨g1, g2⟩ := carry hs3 g1 g2 e7
      obtain ⟨a1, a2, a3⟩ := added np hne (e34.trans e7) g1 g2 hv6 hs6
      refine ⟨p, us, _, rfl, rfl, g1, by omega, a1, ?_, us ++ [v6], some (.str ⟨#[c]⟩), rfl, upd_same, ?_⟩
      · rw [rem_succ]
        exact a3
      · rw [List.take_add_one, ed]
        exact a2
    · have hs3 := hs2
      rw [rem_at ew, if_neg hi0] at hs3
      refine ⟨_, rfl, p, _, rfl, .inl (SqL.of hp), _, _, rfl, rfl, _, rfl, if_t (decide_eq_true (by omega)) ?_⟩
      obtain ⟨dx, i0, h1⟩ := hs3.ins
      refine ⟨_, rfl, r, dx, _, rfl, h1, lk_none _ _ _ _ (by decide +kernel), r, L, _, k, 44, rfl, by decide, hs3, fun H3 e4 hs3 => ?_⟩
      obtain ⟨g1, g2⟩ := carry hs2 g1 g2 e4
      have e34 := e3.trans e4
      obtain ⟨dx, i0, h1⟩ := hs3.ins
      refine ⟨_, rfl, .inl ⟨rfl, _, SqL.of g1⟩, _, rfl, r, dx, _, rfl, h1, lk_none _ _ _ _ (by decide +kernel), _, rfl, r, L, c, ds[i], ps[i], _, k, rfl, hPt.at_ i c _ _ hct ed ew, hs3, hk, fun v6 H6 e7 hv6 hs6 => ?_⟩
      obtain ⟨g1, g2⟩ := carry hs3 g1 g2 e7
      obtain ⟨a1, a2, a3⟩ := added np hne (e34.trans e7) g1 g2 hv6 hs6
      refine ⟨p, us, _, rfl, rfl, g1, by omega, a1, ?_, us ++ [v6], some (.str ⟨#[c]⟩), rfl, upd_same, ?_⟩
      · rw [rem_succ]
        exact a3
      · rw [List.take_add_one, ed]
        exact a2
  · obtain ⟨e3, hs2, us, y3, rfl, hp, hR⟩ := hP
    rw [show z.cps.size = ds.length by omega, List.take_length] at hR
    rw [show z.cps.size = ps.length by omega, rem_end] at hs2
    refine ⟨_, rfl, p, us, rfl, .inl ⟨SqL.of hp, fun l nl => ?_⟩⟩
    have e6 : Same H3 (upd H3 l (.tup us)) := (Kx.new _ nl).to
    exact kk _ _ (e3.trans (Kx.same e6)) (.tup (SqT.of upd_same) (hR.sm e6)) (hs2.sm e6)
end
end OH
end

section
set_option Elab.async false
set_option linter.all false
set_option maxRecDepth 100000
set_option maxHeartbeats 4000000
set_option autoImplicit false
namespace OH
open PySem PySem.Spec PyProof.Rows L2
def spKindParts (K : PySem.W.Frag) (n : Nat) : Sp := fun vs H Q _ => ∃ (r L : Addr) (x : Str) (ds : List PyData) (ps : List (List Tk)) (rest : List Tk) (k c : Nat), vs = [.ref r, .str x] ∧ KT (n + 1) c (.tuple (.str x :: ds)) (fmt x ps) ∧ RS K H r L (st (sep ps) ++ .s 41 :: rest) k ∧ k + n ≤ 40 ∧
  ∀ v H', Kx (M1 r) H H' → Rp K H' v (.tuple ds) → RS K H' r L (.s 41 :: rest) k → Q v H'
theorem KT_fmt {n c : Nat} {d : PyData} {ts : List Tk} (h : KT (n + 1) c d ts) : ∃ (x : Str) (ds : List PyData) (ps : List (List Tk)), d = .tuple (.str x :: ds) ∧ ts = fmt x ps ∧ ds.length ≤ 3 := by
  unfold KT at h
  rcases h with ⟨lo, hi, e0, h1, h2, h3, rfl, rfl⟩ | ⟨m, e0, h1, h2, rfl, rfl⟩ | ⟨ws, e0, h1, h2, h3, h4, rfl, rfl⟩ | ⟨c1, k, tk, m, e0, h1, h2, h3, rfl, rfl⟩ | ⟨fs, e0, h1, h2, h3, rfl, rfl⟩ | ⟨key, c1, k, tk, m, e0, h1, h2, h3, h4, h5, rfl, rfl⟩ <;> exact ⟨_, _, _, rfl, rfl, Nat.le_of_ble_eq_true rfl⟩
theorem sep_inj_fmt {x y : Str} {ps qs : List (List Tk)} (h : fmt x ps = fmt y qs) : x = y ∧ sep ps = sep qs := by
  unfold fmt at h
  injection h with h1 h2
  injection h1 with h1
  injection h2 with _ h2
  exact ⟨h1, List.append_inj_left' h2 rfl⟩
theorem tup_inj2 {x y : Str} {ds es : List PyData} (h : PyData.tuple (.str x :: ds) = .tuple (.str y :: es)) : x = y ∧ ds = es := by
  injection h with h
  injection h with h h2
  injection h with h
  exact ⟨h, h2⟩
theorem ptg_one {Kr Vr Tr : PyData → List Tk → Prop} {a : Nat} {d : PyData} {p : List Tk} (h : PRg Kr Vr Tr a d p) : Ptg Kr Vr Tr [a] [d] [p] := ⟨rfl, rfl, Nat.le_of_ble_eq_true rfl, fun i c d' p' e1 e2 e3 => by
  cases i with
  | zero =>
    cases e1
    cases e2
    cases e3
    exact h
  | succ i => cases e1⟩
theorem ptg_cons {Kr Vr Tr : PyData → List Tk → Prop} {a : Nat} {d : PyData} {p : List Tk} {q : List Nat} {ds : List PyData} {ps : List (List Tk)} (h : PRg Kr Vr Tr a d p) (t : Ptg Kr Vr Tr q ds ps) (hs : ds.length ≤ 5) : Ptg Kr Vr Tr (a :: q) (d :: ds) (p :: ps) := ⟨congrArg Nat.succ t.l1, congrArg Nat.succ t.l2, Nat.succ_le_succ hs, fun i c d' p' e1 e2 e3 => by
  cases i with
  | zero =>
    cases e1
    cases e2
    cases e3
    exact h
  | succ i => exact t.at_ i c d' p' e1 e2 e3⟩
theorem ptg_of {Tr : PyData → List Tk → Prop} {q : List Nat} {ds : List PyData} {ps : List (List Tk)} (h : Parts Tr q ds ps) (hs : ds.length ≤ 6) : Ptg (KTc 4) (VTp 4) Tr q ds ps := by
  obtain ⟨h1, h2, h3⟩ := Parts_at h
  refine ⟨h1, h2, hs, fun i c d p e1 e2 e3 => ?_⟩
  obtain ⟨p', g1, g2⟩ := h3 i c d e1 e2
  rw [g1] at e3
  obtain rfl := Option.some.inj e3
  exact g2
theorem cal_mv {P : Program} {w : World} {K : PySem.W.Frag} {mg : Str → Option Value} {base : Heap} {C : Addr} {x : Str} {k j : Nat} {sp : Sp} (h : C8.Met P w K mg base k C x sp []) (e : k = j) : C8.Met P w K mg base j C x sp [] := e ▸ h
theorem val_head {n : Nat} {d : PyData} {ts : List Tk} {c : Nat} (h : VTp n d ts) (hc : c = 93 ∨ c = 41 ∨ c = 125) : ∃ t l, st ts = t :: l ∧ t ≠ .s c := by
  cases n with
  | zero => exact h.elim
  | succ n =>
    obtain ⟨t, l, e, h1, h2, h3⟩ := VT_head h
    refine ⟨t, l, e, ?_⟩
    rcases hc with rfl | rfl | rfl
    · exact h1
    · exact h2
    · exact h3
section
variable {P : Program} {w : World} {K : PySem.W.Frag} {mg : Str → Option Value} {base : Heap}
theorem ok_kind_parts (T : Txt w K mg) {lv n : Nat} (hlv : 3 ≤ lv) (ih : C8.Met P w K mg base lv (TRc K) "kind" (spPv K (KTc n) n) []) : C8.Met P w K mg base (lv + 3 + 1) (TRc K) "kind_parts" (spKindParts K n) [] := by
  refine metD (tell_TextReader_kind_parts T) sc_TextReader_kind_parts bind_TextReader_kind_parts (fun vs H Q E h => ?_) (fun f cdv A outer s H vs Q E hr h => ?_)
  · obtain ⟨_, _, _, _, _, _, _, _, rfl, _⟩ := h
    rfl
  obtain ⟨r, L, x, ds, ps, rest, k, c, rfl, hk, hs, hkn, kk⟩ := h
  refine ⟨_, (pss_cons (ps_if (pt_cmpR op_eq (pv 1) pe_str (nomark _))
      (pss_one (ps_ret (C8.pe_mt (ok_TextReader_parts T (lv := lv + 1) (Kr := KTc n) (Vr := No) (Tr := No) (n := n) (by omega) (ok_TextReader_part T (lv := lv) (lk := lv) (lw := lv) (lt := lv) (nk := n) (nv := n) (nt := n) (by omega) (by omega) ih (cal_mv (vac_value T (lv - 1) n) (by omega)) (cal_mv (vac_turn T (lv - 1) n) (by omega)))) hr (by omega) (pv 0) (pa_cons pe_str pa_nil))))
      pss_nil)
    (pss_cons (ps_if (pt_cmpR op_eq (pv 1) pe_str (nomark _))
      (pss_one (ps_ret (C8.pe_mt (ok_TextReader_parts T (lv := lv + 1) (Kr := KTc n) (Vr := No) (Tr := No) (n := n) (by omega) (ok_TextReader_part T (lv := lv) (lk := lv) (lw := lv) (lt := lv) (nk := n) (nv := n) (nt := n) (by omega) (by omega) ih (cal_mv (vac_value T (lv - 1) n) (by omega)) (cal_mv (vac_turn T (lv - 1) n) (by omega)))) hr (by omega) (pv 0) (pa_cons pe_str pa_nil))))
      pss_nil)
    (pss_cons (ps_if (pt_cmpR op_eq (pv 1) pe_str (nomark _))
      (pss_one (ps_ret (pe_tup (pa_cons (C8.pe_mt (ok_TextReader_names T) hr (by omega) (pv 0) (pa_cons pe_str pa_nil)) pa_nil))))
      pss_nil)
    (pss_cons (ps_if (pt_cmpR op_eq (pv 1) pe_str (nomark _))
      (pss_one (ps_ret (pe_tup (pa_cons (C8.pe_mt0 (ok_TextReader_kind_pairs T (by omega) ih) hr (by omega) (pv 0)) pa_nil))))
      pss_nil)
    (pss_cons (ps_if (pt_cmpR op_eq (pv 1) pe_str (nomark _))
      (pss_cons (ps_asg (C8.pe_mt (ok_TextReader_parts T (lv := lv + 1) (Kr := KTc n) (Vr := No) (Tr := No) (n := n) (by omega) (ok_TextReader_part T (lv := lv) (lk := lv) (lw := lv) (lt := lv) (nk := n) (nv := n) (nt := n) (by omega) (by omega) ih (cal_mv (vac_value T (lv - 1) n) (by omega)) (cal_mv (vac_turn T (lv - 1) n) (by omega)))) hr (by omega) (pv 0) (pa_cons pe_str pa_nil)) (pg_tup rfl (pgs_cons (pg_name (i := 2) sc_TextReader_kind_parts.nd rfl (by first | exact Or.inl rfl | exact Or.inr rfl)) (pgs_cons (pg_name (i := 3) sc_TextReader_kind_parts.nd rfl (by first | exact Or.inl rfl | exact Or.inr rfl)) pgs_nil))))
      (pss_one (ps_ret (pe_tup (pa_cons (pv 3) (pa_cons (pv 2) pa_nil))))))
      pss_nil)
    (pss_cons (ps_if (pt_cmpR op_eq (pv 1) pe_str (nomark _))
      (pss_cons (ps_asg (C8.pe_mt (ok_TextReader_parts T (lv := lv + 1) (Kr := KTc n) (Vr := No) (Tr := No) (n := n) (by omega) (ok_TextReader_part T (lv := lv) (lk := lv) (lw := lv) (lt := lv) (nk := n) (nv := n) (nt := n) (by omega) (by omega) ih (cal_mv (vac_value T (lv - 1) n) (by omega)) (cal_mv (vac_turn T (lv - 1) n) (by omega)))) hr (by omega) (pv 0) (pa_cons pe_str pa_nil)) (pg_tup rfl (pgs_cons (pg_name (i := 4) sc_TextReader_kind_parts.nd rfl (by first | exact Or.inl rfl | exact Or.inr rfl)) (pgs_cons (pg_name (i := 2) sc_TextReader_kind_parts.nd rfl (by first | exact Or.inl rfl | exact Or.inr rfl)) (pgs_cons (pg_name (i := 3) sc_TextReader_kind_parts.nd rfl (by first | exact Or.inl rfl | exact Or.inr rfl)) pgs_nil)))))
      (pss_one (ps_ret (pe_tup (pa_cons (pv 4) (pa_cons (pv 3) (pa_cons (pv 2) pa_nil)))))))
      pss_nil)
    (pss_one ps_never))))))), ?_⟩
  obtain ⟨dx, i0, h1⟩ := hs.ins
  unfold KT at hk
  rcases hk with ⟨lo, hi, e0, h1', h2, h3, ed, et⟩ | ⟨m, e0, h1', h2, ed, et⟩ | ⟨ws, e0, h1', h2, h3, h4, ed, et⟩ | ⟨c1, k1, tk, m, e0, h1', h2, h3, ed, et⟩ | ⟨fs, e0, h1', h2, h3, ed, et⟩ | ⟨key, c1, k1, tk, m, e0, h1', h2, h3, h4, h5, ed, et⟩
  · obtain ⟨rfl, rfl⟩ := tup_inj2 ed
    obtain ⟨_, es⟩ := sep_inj_fmt et
    rw [es] at hs
    refine ⟨_, rfl, rfl, _, rfl, if_t (by decide +kernel) ?_⟩
    exact ⟨_, rfl, r, dx, _, rfl, h1, lk_none _ _ _ _ (by decide +kernel), r, L, _, _, _, _, k, rfl, ptg_cons (.inr (.inl ⟨rfl, lo, num_small h1' (Int.le_trans h2 h3), rfl, rfl⟩)) (ptg_one (.inr (.inl ⟨rfl, hi, num_small (Int.le_trans h1' h2) h3, rfl, rfl⟩))) (Nat.le_of_ble_eq_true rfl), hs, hkn, kk⟩
  · obtain ⟨rfl, rfl⟩ := tup_inj2 ed
    obtain ⟨_, es⟩ := sep_inj_fmt et
    rw [es] at hs
    refine ⟨_, rfl, rfl, _, rfl, if_f (by decide +kernel) ?_⟩
    refine ⟨_, rfl, rfl, _, rfl, if_t (by decide +kernel) ?_⟩
    exact ⟨_, rfl, r, dx, _, rfl, h1, lk_none _ _ _ _ (by decide +kernel), r, L, _, _, _, _, k, rfl, ptg_one (.inr (.inl ⟨rfl, m, num_tiny h1' h2, rfl, rfl⟩)), hs, hkn, kk⟩
  · obtain ⟨rfl, rfl⟩ := tup_inj2 ed
    obtain ⟨_, es⟩ := sep_inj_fmt et
    rw [es] at hs
    refine ⟨_, rfl, rfl, _, rfl, if_f (by decide +kernel) ?_⟩
    refine ⟨_, rfl, rfl, _, rfl, if_f (by decide +kernel) ?_⟩
    refine ⟨_, rfl, rfl, _, rfl, if_t (by decide +kernel) ?_⟩
    refine ⟨_, rfl, r, dx, _, rfl, h1, lk_none _ _ _ _ (by decide +kernel), r, L, ws, rest, k, 41, rfl, by decide, by decide, h1', h2, hs, fun v H1 e1 hv hs1 => ⟨(by show 1 ≤ sizeLine; decide), fun p np => ?_⟩⟩
    have e2 : Same H1 (upd H1 p (.tup [v])) := (Kx.new _ np).to
    exact kk _ _ (e1.trans (Kx.same e2)) (.tup (SqT.of upd_same) (.cons (hv.sm e2) .nil)) (hs1.sm e2)
  · obtain ⟨rfl, rfl⟩ := tup_inj2 ed
    obtain ⟨_, es⟩ := sep_inj_fmt et
    rw [es] at hs
    refine ⟨_, rfl, rfl, _, rfl, if_f (by decide +kernel) ?_⟩
    refine ⟨_, rfl, rfl, _, rfl, if_f (by decide +kernel) ?_⟩
    refine ⟨_, rfl, rfl, _, rfl, if_f (by decide +kernel) ?_⟩
    refine ⟨_, rfl, rfl, _, rfl, if_f (by decide +kernel) ?_⟩
    refine ⟨_, rfl, rfl, _, rfl, if_t (by decide +kernel) ?_⟩
    refine ⟨_, rfl, r, dx, _, rfl, h1, lk_none _ _ _ _ (by decide +kernel), r, L, _, [.int m, k1], [[.n m], tk], _, k, rfl, ptg_cons (.inr (.inl ⟨rfl, m, num_tiny h2 (Int.le_trans h3 (by decide)), rfl, rfl⟩)) (ptg_one (.inr (.inr (.inl ⟨rfl, c1, h1'⟩)))) (Nat.le_of_ble_eq_true rfl), hs, hkn, fun v H1 e1 hv hs1 => ?_⟩
    obtain ⟨a, xs, rfl, hS, hR⟩ := hv.tup_of
    obtain ⟨v1, v2, rfl, g1, g2⟩ := hR.two_of
    refine ⟨a, _, rfl, hS, rfl, _, _, rfl, _, _, rfl, rfl, ?_⟩
    refine ⟨_, rfl, _, rfl, (by show 2 ≤ sizeLine; decide), fun p np => ?_⟩
    have e2 : Same H1 (upd H1 p (.tup [v2, v1])) := (Kx.new _ np).to
    exact kk _ _ (e1.trans (Kx.same e2)) (.tup (SqT.of upd_same) (.cons (g2.sm e2) (.cons (g1.sm e2) .nil))) (hs1.sm e2)
  · unfold recD at ed
    unfold recT at et
    obtain ⟨rfl, rfl⟩ := tup_inj2 ed
    obtain ⟨_, es⟩ := sep_inj_fmt et
    rw [es] at hs
    have ees : (fs.map fun f => (Tk.w f.x :: .s 58 :: .sp :: f.ts)) = (fs.map fun f => (⟨f.x, f.k, f.ts⟩ : Ent)).map pairT := by
      rw [List.map_map]
      rfl
    rw [ees] at hs
    refine ⟨_, rfl, rfl, _, rfl, if_f (by decide +kernel) ?_⟩
    refine ⟨_, rfl, rfl, _, rfl, if_f (by decide +kernel) ?_⟩
    refine ⟨_, rfl, rfl, _, rfl, if_f (by decide +kernel) ?_⟩
    refine ⟨_, rfl, rfl, _, rfl, if_t (by decide +kernel) ?_⟩
    refine ⟨_, rfl, r, dx, _, rfl, h1, lk_none _ _ _ _ (by decide +kernel), r, L, _, rest, k, rfl, by rw [List.length_map]; exact h1', (fun e he => ?_), hs, hkn, fun v H1 e1 hv hs1 => ⟨(by show 1 ≤ sizeLine; decide), fun p np => ?_⟩⟩
    · obtain ⟨f, hf, rfl⟩ := List.mem_map.mp he
      exact ⟨f.c, (h2 f hf).2⟩
    · rw [List.map_map] at hv
      have e2 : Same H1 (upd H1 p (.tup [v])) := (Kx.new _ np).to
      exact kk _ _ (e1.trans (Kx.same e2)) (.tup (SqT.of upd_same) (.cons (hv.sm e2) .nil)) (hs1.sm e2)
  · obtain ⟨rfl, rfl⟩ := tup_inj2 ed
    obtain ⟨_, es⟩ := sep_inj_fmt et
    rw [es] at hs
    refine ⟨_, rfl, rfl, _, rfl, if_f (by decide +kernel) ?_⟩
    refine ⟨_, rfl, rfl, _, rfl, if_f (by decide +kernel) ?_⟩
    refine ⟨_, rfl, rfl, _, rfl, if_f (by decide +kernel) ?_⟩
    refine ⟨_, rfl, rfl, _, rfl, if_f (by decide +kernel) ?_⟩
    refine ⟨_, rfl, rfl, _, rfl, if_f (by decide +kernel) ?_⟩
    refine ⟨_, rfl, rfl, _, rfl, if_t (by decide +kernel) ?_⟩
    refine ⟨_, rfl, r, dx, _, rfl, h1, lk_none _ _ _ _ (by decide +kernel), r, L, _, [.str key, .int m, k1], [[.w key], [.n m], tk], _, k, rfl, ptg_cons (.inl ⟨rfl, key, h2.1, rfl, rfl⟩) (ptg_cons (.inr (.inl ⟨rfl, m, num_tiny h4 (Int.le_trans h5 (by decide)), rfl, rfl⟩)) (ptg_one (.inr (.inr (.inl ⟨rfl, c1, h1'⟩)))) (Nat.le_of_ble_eq_true rfl)) (Nat.le_of_ble_eq_true rfl), hs, hkn, fun v H1 e1 hv hs1 => ?_⟩
    obtain ⟨a, xs, rfl, hS, hR⟩ := hv.tup_of
    obtain ⟨v1, v2, v3, rfl, g1, g2, g3⟩ := hR.three_of
    refine ⟨a, _, rfl, hS, rfl, _, _, rfl, _, _, rfl, _, _, rfl, rfl, ?_⟩
    refine ⟨_, rfl, _, rfl, _, rfl, (by show 3 ≤ sizeLine; decide), fun p np => ?_⟩
    have e2 : Same H1 (upd H1 p (.tup [v1, v3, v2])) := (Kx.new _ np).to
    exact kk _ _ (e1.trans (Kx.same e2)) (.tup (SqT.of upd_same) (.cons (g1.sm e2) (.cons (g3.sm e2) (.cons (g2.sm e2) .nil)))) (hs1.sm e2)
theorem ok_TextReader_kind_s (T : Txt w K mg) {lv n : Nat} (hlv : 3 ≤ lv) (ih : C8.Met P w K mg base lv (TRc K) "kind" (spPv K (KTc n) n) []) : C8.Met P w K mg base (lv + 4 + 1) (TRc K) "kind" (spPv K (KTc (n + 1)) (n + 1)) [] := by
  refine metD (tell_TextReader_kind T) sc_TextReader_kind bind_TextReader_kind (fun vs H Q E h => ?_) (fun f cdv A outer s H vs Q E hr h => ?_)
  · obtain ⟨_, _, _, _, _, _, rfl, _⟩ := h
    rfl
  obtain ⟨r, L, d, ts, rest, k, rfl, ⟨c, hk⟩, hs, hkn, kk⟩ := h
  refine ⟨_, (pss_cons (ps_set (i := 1) sc_TextReader_kind.nd rfl (by first | exact Or.inl rfl | exact Or.inr rfl) (C8.pe_mt (ok_TextReader_taken T) hr (by omega) (pv 0) (pa_cons pe_str pa_nil)))
    (pss_cons (ps_expr (C8.pe_mt (ok_TextReader_opened T) hr (by omega) (pv 0) (pa_cons pe_str pa_nil)))
    (pss_cons (ps_set (i := 2) sc_TextReader_kind.nd rfl (by first | exact Or.inl rfl | exact Or.inr rfl) (pe_op op_catA (pe_tup (pa_cons (pv 1) pa_nil)) (C8.pe_mt (ok_kind_parts T hlv ih) hr (by omega) (pv 0) (pa_cons (pv 1) pa_nil))))
    (pss_cons (ps_expr (C8.pe_mt (ok_TextReader_closed T) hr (by omega) (pv 0) (pa_cons pe_str pa_nil)))
    (pss_one (ps_ret (pv 2))))))), ?_⟩
  obtain ⟨x, ds, ps, rfl, rfl, hd3⟩ := KT_fmt hk
  rw [st_fmt] at hs
  have hs' : RS K H r L (.w x :: .s 40 :: (st (sep ps) ++ .s 41 :: rest)) k := by
    rw [List.cons_append, List.cons_append, List.append_assoc] at hs
    exact hs
  obtain ⟨dx, i0, h1⟩ := hs'.ins
  refine ⟨_, rfl, r, dx, _, rfl, h1, lk_none _ _ _ _ (by decide +kernel), r, L, .w x, _, k, _, _, rfl, rfl, hs', fun v H1 e1 hv hs1 => ?_⟩
  obtain rfl := hv.str_of
  obtain ⟨dx, i0, h1⟩ := hs1.ins
  refine ⟨_, rfl, r, dx, _, rfl, h1, lk_none _ _ _ _ (by decide +kernel), r, L, _, k, 40, rfl, by decide, hs1, by omega, fun H2 e2 hs2 => ?_⟩
  refine ⟨_, rfl, (by show 1 ≤ sizeLine; decide), fun a na => ?_⟩
  have e3 : Same H2 (upd H2 a (.tup [V.str x])) := (Kx.new _ na).to
  have hs3 := hs2.sm e3
  obtain ⟨dx, i0, h1⟩ := hs3.ins
  refine ⟨_, rfl, r, dx, _, rfl, h1, lk_none _ _ _ _ (by decide +kernel), _, rfl, r, L, x, ds, ps, rest, k + 1, c, rfl, hk, hs3, by omega, fun v H4 e4 hv4 hs4 => ?_⟩
  refine cat_ok (e4.sqT hs3.nt (SqT.of upd_same)) hv4 (by omega) fun v' H5 e5 hv5 => ?_
  have hs5 := hs4.sm e5
  obtain ⟨dx, i0, h1⟩ := hs5.ins
  refine ⟨_, rfl, r, dx, _, rfl, h1, lk_none _ _ _ _ (by decide +kernel), r, L, rest, k, 41, rfl, by decide, hs5, fun H6 e6 hs6 => ?_⟩
  exact ⟨_, rfl, kk _ _ (((((e1.trans e2).trans (Kx.same e3)).trans e4).trans (Kx.same e5)).trans e6) (hv5.kx e6 hs5.nt) hs6⟩
theorem ok_TextReader_kind (T : Txt w K mg) : ∀ n, C8.Met P w K mg base (4 + 5 * n) (TRc K) "kind" (spPv K (KTc n) n) []
  | 0 => by
    refine metD (k := 3) (tell_TextReader_kind T) sc_TextReader_kind bind_TextReader_kind (fun vs H Q E h => ?_) (fun f cdv A outer s H vs Q E hr h => ?_)
    · obtain ⟨_, _, _, _, _, _, _, ⟨_, h⟩, _⟩ := h
      exact h.elim
    · obtain ⟨_, _, _, _, _, _, _, ⟨_, h⟩, _⟩ := h
      exact h.elim
  | n + 1 => cal_mv (ok_TextReader_kind_s T (by omega) (ok_TextReader_kind T n)) (by omega)
theorem ok_TextReader_value_s (T : Txt w K mg) {lv n : Nat} (hlv : 3 ≤ lv) (ih : C8.Met P w K mg base lv (TRc K) "value" (spPv K (VTp n) n) []) : C8.Met P w K mg base (lv + 1 + 1) (TRc K) "value" (spPv K (VTp (n + 1)) (n + 1)) [] := by
  refine metD (tell_TextReader_value T) sc_TextReader_value bind_TextReader_value (fun vs H Q E h => ?_) (fun f cdv A outer s H vs Q E hr h => ?_)
  · obtain ⟨_, _, _, _, _, _, rfl, _⟩ := h
    rfl
  obtain ⟨r, L, d, ts, rest, k, rfl, hV, hs, hkn, kk⟩ := h
  refine ⟨_, (pss_cons (ps_asg (pe_ix ix_list (pe_fld (pv 0) rfl) (pe_fld (pv 0) rfl) (fun _ _ => rfl)) (pg_tup rfl (pgs_cons (pg_name (i := 1) sc_TextReader_value.nd rfl (by first | exact Or.inl rfl | exact Or.inr rfl)) (pgs_cons (pg_name (i := 2) sc_TextReader_value.nd rfl (by first | exact Or.inl rfl | exact Or.inr rfl)) pgs_nil))))
    (pss_cons (ps_if (PW.pt (pw_or (pt_cmpR op_eq (pv 1) pe_str (nomark _)) (pw_or1 (pt_cmpR op_eq (pv 1) pe_str (nomark _)))))
      (pss_cons (ps_fld (pv 0) (pe_op op_add (pe_fld (pv 0) rfl) pe_int) rfl)
      (pss_one (ps_ret (pv 2))))
      pss_nil)
    (pss_cons (ps_if (pt_val (C8.pe_mt (ok_TextReader_next_is T) hr (by omega) (pv 0) (pa_cons pe_str pa_nil)))
      (pss_cons (ps_expr (C8.pe_mt (ok_TextReader_opened T) hr (by omega) (pv 0) (pa_cons pe_str pa_nil)))
      (pss_cons (ps_set (i := 3) sc_TextReader_value.nd rfl (by first | exact Or.inl rfl | exact Or.inr rfl) (pe_tup (pa_cons pe_str (pa_cons (C8.pe_mt (ok_TextReader_values T hlv ih) hr (by omega) (pv 0) (pa_cons pe_str pa_nil)) pa_nil))))
      (pss_one (ps_expr (C8.pe_mt (ok_TextReader_closed T) hr (by omega) (pv 0) (pa_cons pe_str pa_nil))))))
      (pss_one (ps_if (pt_val (C8.pe_mt (ok_TextReader_next_is T) hr (by omega) (pv 0) (pa_cons pe_str pa_nil)))
        (pss_cons (ps_expr (C8.pe_mt (ok_TextReader_opened T) hr (by omega) (pv 0) (pa_cons pe_str pa_nil)))
        (pss_cons (ps_set (i := 3) sc_TextReader_value.nd rfl (by first | exact Or.inl rfl | exact Or.inr rfl) (pe_tup (pa_cons pe_str (pa_cons (C8.pe_mt0 (ok_TextReader_value_pairs T hlv ih) hr (by omega) (pv 0)) pa_nil))))
        (pss_one (ps_expr (C8.pe_mt (ok_TextReader_closed T) hr (by omega) (pv 0) (pa_cons pe_str pa_nil))))))
        (pss_cons (ps_expr (C8.pe_mt (ok_TextReader_opened T) hr (by omega) (pv 0) (pa_cons pe_str pa_nil)))
        (pss_cons (ps_set (i := 3) sc_TextReader_value.nd rfl (by first | exact Or.inl rfl | exact Or.inr rfl) (pe_tup (pa_cons pe_str (pa_cons (C8.pe_mt (ok_TextReader_values T hlv ih) hr (by omega) (pv 0) (pa_cons pe_str pa_nil)) pa_nil))))
        (pss_one (ps_expr (C8.pe_mt (ok_TextReader_closed T) hr (by omega) (pv 0) (pa_cons pe_str pa_nil)))))))))
    (pss_one (ps_ret (pv 3)))))), ?_⟩
  rcases VT_form hV with ⟨j, hj, rfl, rfl⟩ | ⟨x, hx, rfl, rfl⟩ | ⟨es, h8, hE, rfl, rfl⟩ | ⟨es, h8, hE, rfl, rfl⟩ | ⟨es, h8, hE, rfl, rfl⟩
  · obtain ⟨dx, us, i, h1, h2, h3, h4, h5⟩ := hs
    obtain ⟨v, hv, hd⟩ := at_head h4
    obtain ⟨a, xs, rfl, hS, hR⟩ := hd.tup_of
    obtain ⟨v1, v2, rfl, g1, g2⟩ := hR.two_of
    obtain rfl := g1.str_of
    refine ⟨_, rfl, r, _, dx, _, _, rfl, h1, T.cl, T.no_words, lk_words _ _ _, _, rfl, r, _, dx, _, _, rfl, h1, T.cl, T.no_at, lk_at _ _ _, ?_⟩
    refine ⟨L, us, _, _, rfl, rfl, SqL.of h2, hv, a, _, rfl, hS, rfl, _, _, rfl, _, _, rfl, rfl, ?_⟩
    refine ⟨_, rfl, rfl, _, rfl, if_t (by decide +kernel) ?_⟩
    refine ⟨_, rfl, r, _, dx, _, _, rfl, h1, T.cl, T.no_at, lk_at _ _ _, _, _, rfl, rfl, _, rfl, r, _, dx, _, rfl, h1, T.cl, T.no_at, (by show 3 < 1000; decide), ?_⟩
    rw [put_at]
    have e1 : Kx (M1 r) H (upd H r (.ins (TRc K) dx (rf L (i + 1) k))) := Kx.put _ rfl
    exact ⟨_, rfl, kk v2 _ e1 (g2.kx e1 (NoT.ins h1)) (RS.step h1 h2 h3 h4 h5)⟩
  · obtain ⟨dx, us, i, h1, h2, h3, h4, h5⟩ := hs
    obtain ⟨v, hv, hd⟩ := at_head h4
    obtain ⟨a, xs, rfl, hS, hR⟩ := hd.tup_of
    obtain ⟨v1, v2, rfl, g1, g2⟩ := hR.two_of
    obtain rfl := g1.str_of
    refine ⟨_, rfl, r, _, dx, _, _, rfl, h1, T.cl, T.no_words, lk_words _ _ _, _, rfl, r, _, dx, _, _, rfl, h1, T.cl, T.no_at, lk_at _ _ _, ?_⟩
    refine ⟨L, us, _, _, rfl, rfl, SqL.of h2, hv, a, _, rfl, hS, rfl, _, _, rfl, _, _, rfl, rfl, ?_⟩
    refine ⟨_, rfl, rfl, _, rfl, if_f (by decide +kernel) ⟨_, rfl, rfl, _, rfl, if_t (by decide +kernel) ?_⟩⟩
    refine ⟨_, rfl, r, _, dx, _, _, rfl, h1, T.cl, T.no_at, lk_at _ _ _, _, _, rfl, rfl, _, rfl, r, _, dx, _, rfl, h1, T.cl, T.no_at, (by show 3 < 1000; decide), ?_⟩
    rw [put_at]
    have e1 : Kx (M1 r) H (upd H r (.ins (TRc K) dx (rf L (i + 1) k))) := Kx.put _ rfl
    exact ⟨_, rfl, kk v2 _ e1 (g2.kx e1 (NoT.ins h1)) (RS.step h1 h2 h3 h4 h5)⟩
  · have hs' : RS K H r L (.s 91 :: (st (sep (es.map Ent.ts)) ++ .s 93 :: rest)) k := by
      have e : st (.s 91 :: (sep (es.map Ent.ts) ++ [.s 93])) ++ rest = .s 91 :: (st (sep (es.map Ent.ts)) ++ .s 93 :: rest) := by
        rw [st_s, st_app, List.cons_append, List.append_assoc]
        rfl
      rw [← e]
      exact hs
    obtain ⟨dx, us, i, h1, h2', h3, h4, h5⟩ := id hs'
    obtain ⟨v, hv, hd⟩ := at_head h4
    obtain ⟨a, xs, rfl, hS, hR⟩ := hd.tup_of
    obtain ⟨v1, v2, rfl, g1, g2⟩ := hR.two_of
    obtain rfl := g1.str_of
    refine ⟨_, rfl, r, _, dx, _, _, rfl, h1, T.cl, T.no_words, lk_words _ _ _, _, rfl, r, _, dx, _, _, rfl, h1, T.cl, T.no_at, lk_at _ _ _, ?_⟩
    refine ⟨L, us, _, _, rfl, rfl, SqL.of h2', hv, a, _, rfl, hS, rfl, _, _, rfl, _, _, rfl, rfl, ?_⟩
    refine ⟨_, rfl, rfl, _, rfl, if_f (by decide +kernel) ⟨_, rfl, rfl, _, rfl, if_f (by decide +kernel) ?_⟩⟩
    have e101 := (Same.refl H)
    refine ⟨_, rfl, r, dx, _, rfl, h1, lk_none _ _ _ _ (by decide +kernel), r, L, _, _, k, 91, rfl, by decide, hs', fun H11 e1 => ⟨_, rfl, if_t (decide_eq_true rfl) ?_⟩⟩
    have hs' := hs'.sm e1
    have e201 := e101.trans e1
    obtain ⟨dx, i0, h1⟩ := hs'.ins
    refine ⟨_, rfl, r, dx, _, rfl, h1, lk_none _ _ _ _ (by decide +kernel), r, L, _, k, 91, rfl, by decide, hs', by omega, fun H2 e2 hs2 => ?_⟩
    obtain ⟨dx, i0, h1⟩ := hs2.ins
    refine ⟨_, rfl, r, dx, _, rfl, h1, lk_none _ _ _ _ (by decide +kernel), r, L, es, rest, k + 1, 93, rfl, by decide, by decide, h8, (fun e he => ⟨hE e he, val_head (hE e he) (by decide)⟩), hs2, by omega, fun v3 H3 e3 hv3 hs3 => ⟨(by show 2 ≤ sizeLine; decide), fun p np => ?_⟩⟩
    have e4 : Same H3 (upd H3 p (.tup [V.str "list", v3])) := (Kx.new _ np).to
    have hs4 := hs3.sm e4
    have hv4 : Rp K (upd H3 p (.tup [V.str "list", v3])) (.ref p) (.tuple [.str "list", .tuple (es.map Ent.v)]) := .tup (SqT.of upd_same) (.cons (.str _) (.cons (hv3.sm e4) .nil))
    obtain ⟨dx, i0, h1⟩ := hs4.ins
    refine ⟨_, rfl, r, dx, _, rfl, h1, lk_none _ _ _ _ (by decide +kernel), r, L, rest, k, 93, rfl, by decide, hs4, fun H5 e5 hs5 => ?_⟩
    exact ⟨_, rfl, kk _ _ (((((Kx.same e201).trans e2).trans e3).trans (Kx.same e4)).trans e5) (hv4.kx e5 hs4.nt) hs5⟩
  · have hs' : RS K H r L (.s 40 :: (st (sep (es.map Ent.ts)) ++ .s 41 :: rest)) k := by
      have e : st (.s 40 :: (sep (es.map Ent.ts) ++ [.s 41])) ++ rest = .s 40 :: (st (sep (es.map Ent.ts)) ++ .s 41 :: rest) := by
        rw [st_s, st_app, List.cons_append, List.append_assoc]
        rfl
      rw [← e]
      exact hs
    obtain ⟨dx, us, i, h1, h2', h3, h4, h5⟩ := id hs'
    obtain ⟨v, hv, hd⟩ := at_head h4
    obtain ⟨a, xs, rfl, hS, hR⟩ := hd.tup_of
    obtain ⟨v1, v2, rfl, g1, g2⟩ := hR.two_of
    obtain rfl := g1.str_of
    refine ⟨_, rfl, r, _, dx, _, _, rfl, h1, T.cl, T.no_words, lk_words _ _ _, _, rfl, r, _, dx, _, _, rfl, h1, T.cl, T.no_at, lk_at _ _ _, ?_⟩
    refine ⟨L, us, _, _, rfl, rfl, SqL.of h2', hv, a, _, rfl, hS, rfl, _, _, rfl, _, _, rfl, rfl, ?_⟩
    refine ⟨_, rfl, rfl, _, rfl, if_f (by decide +kernel) ⟨_, rfl, rfl, _, rfl, if_f (by decide +kernel) ?_⟩⟩
    have e101 := (Same.refl H)
    refine ⟨_, rfl, r, dx, _, rfl, h1, lk_none _ _ _ _ (by decide +kernel), r, L, _, _, k, 91, rfl, by decide, hs', fun H11 e1 => ⟨_, rfl, if_f (decide_eq_false fun z => by injection z with z; revert z; decide) ?_⟩⟩
    have hs' := hs'.sm e1
    obtain ⟨dx, i0, h1⟩ := hs'.ins
    have e201 := e101.trans e1
    have e102 := e201
    refine ⟨_, rfl, r, dx, _, rfl, h1, lk_none _ _ _ _ (by decide +kernel), r, L, _, _, k, 123, rfl, by decide, hs', fun H12 e1 => ⟨_, rfl, if_f (decide_eq_false fun z => by injection z with z; revert z; decide) ?_⟩⟩
    have hs' := hs'.sm e1
    obtain ⟨dx, i0, h1⟩ := hs'.ins
    have e202 := e102.trans e1
    obtain ⟨dx, i0, h1⟩ := hs'.ins
    refine ⟨_, rfl, r, dx, _, rfl, h1, lk_none _ _ _ _ (by decide +kernel), r, L, _, k, 40, rfl, by decide, hs', by omega, fun H2 e2 hs2 => ?_⟩
    obtain ⟨dx, i0, h1⟩ := hs2.ins
    refine ⟨_, rfl, r, dx, _, rfl, h1, lk_none _ _ _ _ (by decide +kernel), r, L, es, rest, k + 1, 41, rfl, by decide, by decide, h8, (fun e he => ⟨hE e he, val_head (hE e he) (by decide)⟩), hs2, by omega, fun v3 H3 e3 hv3 hs3 => ⟨(by show 2 ≤ sizeLine; decide), fun p np => ?_⟩⟩
    have e4 : Same H3 (upd H3 p (.tup [V.str "rows", v3])) := (Kx.new _ np).to
    have hs4 := hs3.sm e4
    have hv4 : Rp K (upd H3 p (.tup [V.str "rows", v3])) (.ref p) (.tuple [.str "rows", .tuple (es.map Ent.v)]) := .tup (SqT.of upd_same) (.cons (.str _) (.cons (hv3.sm e4) .nil))
    obtain ⟨dx, i0, h1⟩ := hs4.ins
    refine ⟨_, rfl, r, dx, _, rfl, h1, lk_none _ _ _ _ (by decide +kernel), r, L, rest, k, 41, rfl, by decide, hs4, fun H5 e5 hs5 => ?_⟩
    exact ⟨_, rfl, kk _ _ (((((Kx.same e202).trans e2).trans e3).trans (Kx.same e4)).trans e5) (hv4.kx e5 hs4.nt) hs5⟩
  · have hs' : RS K H r L (.s 123 :: (st (sep (es.map pairT)) ++ .s 125 :: rest)) k := by
      have e : st (.s 123 :: (sep (es.map pairT) ++ [.s 125])) ++ rest = .s 123 :: (st (sep (es.map pairT)) ++ .s 125 :: rest) := by
        rw [st_s, st_app, List.cons_append, List.append_assoc]
        rfl
      rw [← e]
      exact hs
    obtain ⟨dx, us, i, h1, h2', h3, h4, h5⟩ := id hs'
    obtain ⟨v, hv, hd⟩ := at_head h4
    obtain ⟨a, xs, rfl, hS, hR⟩ := hd.tup_of
    obtain ⟨v1, v2, rfl, g1, g2⟩ := hR.two_of
    obtain rfl := g1.str_of
    refine ⟨_, rfl, r, _, dx, _, _, rfl, h1, T.cl, T.no_words, lk_words _ _ _, _, rfl, r, _, dx, _, _, rfl, h1, T.cl, T.no_at, lk_at _ _ _, ?_⟩
    refine ⟨L, us, _, _, rfl, rfl, SqL.of h2', hv, a, _, rfl, hS, rfl, _, _, rfl, _, _, rfl, rfl, ?_⟩
    refine ⟨_, rfl, rfl, _, rfl, if_f (by decide +kernel) ⟨_, rfl, rfl, _, rfl, if_f (by decide +kernel) ?_⟩⟩
    have e101 := (Same.refl H)
    refine ⟨_, rfl, r, dx, _, rfl, h1, lk_none _ _ _ _ (by decide +kernel), r, L, _, _, k, 91, rfl, by decide, hs', fun H11 e1 => ⟨_, rfl, if_f (decide_eq_false fun z => by injection z with z; revert z; decide) ?_⟩⟩
    have hs' := hs'.sm e1
    obtain ⟨dx, i0, h1⟩ := hs'.ins
    have e201 := e101.trans e1
    have e102 := e201
    refine ⟨_, rfl, r, dx, _, rfl, h1, lk_none _ _ _ _ (by decide +kernel), r, L, _, _, k, 123, rfl, by decide, hs', fun H12 e1 => ⟨_, rfl, if_t (decide_eq_true rfl) ?_⟩⟩
    have hs' := hs'.sm e1
    have e202 := e102.trans e1
    obtain ⟨dx, i0, h1⟩ := hs'.ins
    refine ⟨_, rfl, r, dx, _, rfl, h1, lk_none _ _ _ _ (by decide +kernel), r, L, _, k, 123, rfl, by decide, hs', by omega, fun H2 e2 hs2 => ?_⟩
    obtain ⟨dx, i0, h1⟩ := hs2.ins
    refine ⟨_, rfl, r, dx, _, rfl, h1, lk_none _ _ _ _ (by decide +kernel), r, L, es, rest, k + 1, rfl, h8, (fun e he => (hE e he).2), hs2, by omega, fun v3 H3 e3 hv3 hs3 => ⟨(by show 2 ≤ sizeLine; decide), fun p np => ?_⟩⟩
    have e4 : Same H3 (upd H3 p (.tup [V.str "record", v3])) := (Kx.new _ np).to
    have hs4 := hs3.sm e4
    have hv4 : Rp K (upd H3 p (.tup [V.str "record", v3])) (.ref p) (.tuple [.str "record", .tuple (es.map fun e => pairD e.x e.v)]) := .tup (SqT.of upd_same) (.cons (.str _) (.cons (hv3.sm e4) .nil))
    obtain ⟨dx, i0, h1⟩ := hs4.ins
    refine ⟨_, rfl, r, dx, _, rfl, h1, lk_none _ _ _ _ (by decide +kernel), r, L, rest, k, 125, rfl, by decide, hs4, fun H5 e5 hs5 => ?_⟩
    exact ⟨_, rfl, kk _ _ (((((Kx.same e202).trans e2).trans e3).trans (Kx.same e4)).trans e5) (hv4.kx e5 hs4.nt) hs5⟩
theorem ok_TextReader_value (T : Txt w K mg) : ∀ n, C8.Met P w K mg base (4 + 2 * n) (TRc K) "value" (spPv K (VTp n) n) []
  | 0 => by
    refine metD (k := 3) (tell_TextReader_value T) sc_TextReader_value bind_TextReader_value (fun vs H Q E h => ?_) (fun f cdv A outer s H vs Q E hr h => ?_)
    · obtain ⟨_, _, _, _, _, _, _, h, _⟩ := h
      exact h.elim
    · obtain ⟨_, _, _, _, _, _, _, h, _⟩ := h
      exact h.elim
  | n + 1 => cal_mv (ok_TextReader_value_s T (by omega) (ok_TextReader_value T n)) (by omega)
end
end OH
end

section
set_option Elab.async false
set_option linter.all false
set_option maxRecDepth 100000
set_option maxHeartbeats 4000000
set_option autoImplicit false
namespace OH
open PySem PySem.Spec PyProof.Rows L2
theorem nc_tok_w {x : Str} (h : IsWord x) : Nc 1 (tokD (.w x)) := nc_two nc_lit (.str h.ok)
theorem nc_tok_e : Nc 1 (tokD .e) := nc_two nc_lit nc_lit
theorem signs_lt {c : Nat} (h : c ∈ signs) : c < 200 := by
  have z : ∀ c ∈ signs, c < 200 := by unfold signs; decide
  exact z c h
theorem gd_nc : ∀ {ts : List Tk}, Gd ts → ∀ t ∈ st ts, Nc 1 (tokD t)
  | [], _, t, ht => nomatch ht
  | .w x :: r, h, t, ht => by
    rw [st_w] at ht
    rcases List.mem_cons.mp ht with rfl | ht
    · exact nc_tok_w h.1
    · exact gd_nc h.2.2 t ht
  | .n i :: r, h, t, ht => by
    rw [st_n] at ht
    rcases List.mem_cons.mp ht with rfl | ht
    · exact nc_two nc_lit (.int _)
    · exact gd_nc h.2.2 t ht
  | .t x :: r, h, t, ht => by
    rw [st_t] at ht
    rcases List.mem_cons.mp ht with rfl | ht
    · exact nc_two nc_lit (.str h.1.ok)
    · exact gd_nc h.2 t ht
  | .s c :: r, h, t, ht => by
    rw [st_s] at ht
    rcases List.mem_cons.mp ht with rfl | ht
    · exact nc_sign c (signs_lt h.1)
    · exact gd_nc h.2 t ht
  | .sp :: r, h, t, ht => gd_nc (ts := r) h t ht
def spInit (K : PySem.W.Frag) : Sp := fun vs H Q _ => ∃ (r dx : Addr) (ts : List Tk), vs = [.ref r, .str (T ts)] ∧ Gd ts ∧ Sm ts ∧ H r = some (.ins (TRc K) dx []) ∧ ∀ L H', Kx (M1 r) H H' → RS K H' r L (st ts ++ [.e]) 0 → Q .non H'
def spPath (K : PySem.W.Frag) : Sp := fun vs H Q _ => ∃ (r L : Addr) (xs : List Str) (q : Str) (rest : List Tk) (k : Nat), vs = [.ref r] ∧ xs.length ≤ 8 ∧ RS K H r L (st (pathT xs) ++ .w q :: .s 40 :: rest) k ∧
  ∀ v H', Kx (M1 r) H H' → Rp K H' v (.tuple (xs.map .str)) → RS K H' r L (.w q :: .s 40 :: rest) k → Q v H'
/-- a reader of what R relates -/
def spRd (K : PySem.W.Frag) (R : PyData → List Tk → Prop) : Sp := fun vs H Q _ => ∃ (d : PyData) (ts : List Tk), vs = [.str (T ts)] ∧ R d ts ∧ Gd ts ∧ Sm ts ∧ ∀ v H', Same H H' → Rp K H' v d → Q v H'
theorem st_path : ∀ xs : List Str, st (xs.flatMap fun x => [.s 47, .w x]) = xs.flatMap fun x => [.s 47, .w x]
  | [] => rfl
  | x :: xs => by
    show .s 47 :: .w x :: st (xs.flatMap fun x => [.s 47, .w x]) = _
    rw [st_path xs]
    rfl
/-- a new object, then changes there alone -/
theorem same_new {H H1 H2 : Hp} {r : Addr} (e : Same H H1) (hn : H r = none) (k : Kx (M1 r) H1 H2) : Same H H2 := fun a o h => k a o (fun z => by
  have z' : a = r := z
  rw [z', hn] at h
  cases h) (e a o h)
section
variable {P : Program} {w : World} {K : PySem.W.Frag} {mg : Str → Option Value} {base : Heap}
theorem tell_TextReader_init (T : Txt w K mg) : ∃ fd, FunD K "__init__" "TextReader.__init__" (defArgs s_TextReader_init) (defBody s_TextReader_init) (defScope s_TextReader_init) [] [] (He.ma K (TRc K) "__init__") fd := by
  obtain ⟨_, X, G, c⟩ := T.ex
  obtain ⟨fd, F⟩ := c.t.d.def_ 28 (d := d_TextReader_init) rfl
  exact ⟨fd, F⟩
theorem mk_TextReader (T : Txt w K mg) : C8.Mak P w K mg base 5 "TextReader" (TRc K) (spInit K) [] := by
  obtain ⟨fd, F⟩ := tell_TextReader_init T
  refine ⟨_, fd, ["self", "text"], [], T.mkr, F.ok sc_TextReader_init (fun vs H Q E h => ?_) (fun cdv A outer s H vs Q E hr h => ?_), T.tr, F.bindsN bind_TextReader_init, .nil⟩
  · obtain ⟨_, _, _, rfl, _⟩ := h
    rfl
  obtain ⟨r, dx, ts, rfl, hg, hsm, h1, kk⟩ := h
  suffices hs : ∃ t, PSs (cxOf C8.CX0 P w K mg base ["self", "text"] "TextReader.__init__" (defScope s_TextReader_init) (He.ma K (TRc K) "__init__") cdv A outer s H E).nox (defBody s_TextReader_init) t ∧ t { nx := fun _ H' => Q .non H', rt := Q } (L2.start ["self", "text"] [.ref r, .str (OH.T ts)]) H by
    obtain ⟨t, g1, g2⟩ := hs
    exact ⟨t, g1.nox, g2⟩
  refine ⟨_, (pss_cons (ps_fld (pv 0) (C8.pe_c (ok_words_of T) hr (by decide) (by rfl) (pa_cons (pv 1) pa_nil)) rfl)
    (pss_cons (ps_fld (pv 0) pe_int rfl)
    (pss_one (ps_fld (pv 0) pe_int rfl)))), ?_⟩
  refine ⟨_, rfl, ts, rfl, hg, hsm, fun L H1 us e1 hL nL hR => ?_⟩
  have hLr : L ≠ r := fun e => by
    rw [e, h1] at nL
    cases nL
  refine ⟨_, rfl, r, _, dx, _, rfl, e1 _ _ h1, T.cl, T.no_words, Nat.le_of_ble_eq_true rfl, ?_⟩
  refine ⟨_, rfl, r, _, dx, _, rfl, upd_same, T.cl, T.no_at, Nat.le_of_ble_eq_true rfl, ?_⟩
  refine ⟨_, rfl, r, _, dx, _, rfl, upd_same, T.cl, T.no_deep, Nat.le_of_ble_eq_true rfl, ?_⟩
  have hm : Kx (M1 r) H1 (upd (upd (upd H1 r (.ins (TRc K) dx (putF "words" (.ref L) []))) r (.ins (TRc K) dx (putF "at" (.int 0) (putF "words" (.ref L) [])))) r (.ins (TRc K) dx (putF "deep" (.int 0) (putF "at" (.int 0) (putF "words" (.ref L) []))))) :=
    ((Kx.put (M := M1 r) _ rfl).trans (Kx.put (M := M1 r) _ rfl)).trans (Kx.put (M := M1 r) _ rfl)
  have hnt : NoT (M1 r) H1 := NoT.ins (e1 _ _ h1)
  refine kk L _ ((Kx.same e1).trans hm) ⟨dx, us, 0, upd_same, hm _ _ hLr hL, Nat.zero_le _, ?_, fun t ht => ?_⟩
  · rw [List.map_append]
    exact hR.kx hm hnt
  · rcases List.mem_append.mp ht with ht | ht
    · exact gd_nc hg t ht
    · rw [List.mem_singleton.mp ht]
      exact nc_tok_e
theorem ok_TextReader_turn_s (T : Txt w K mg) {lv n : Nat} (hlv : 24 ≤ lv) (ih : C8.Met P w K mg base lv (TRc K) "turn" (spPv K (TT n) (5 + n)) []) : C8.Met P w K mg base (lv + 2 + 1) (TRc K) "turn" (spPv K (TT (n + 1)) (5 + (n + 1))) [] := by
  refine metD (tell_TextReader_turn T) sc_TextReader_turn bind_TextReader_turn (fun vs H Q E h => ?_) (fun f cdv A outer s H vs Q E hr h => ?_)
  · obtain ⟨_, _, _, _, _, _, rfl, _⟩ := h
    rfl
  obtain ⟨r, L, d, ts, rest, k, rfl, hk, hs, hkn, kk⟩ := h
  refine ⟨_, (pss_cons (ps_set (i := 1) sc_TextReader_turn.nd rfl (by first | exact Or.inl rfl | exact Or.inr rfl) (C8.pe_mt (ok_TextReader_taken T) hr (by omega) (pv 0) (pa_cons pe_str pa_nil)))
    (pss_cons (ps_expr (C8.pe_mt (ok_TextReader_opened T) hr (by omega) (pv 0) (pa_cons pe_str pa_nil)))
    (pss_cons (ps_if (pt_cmpR op_eq (pv 1) pe_str (nomark _))
      (pss_cons (ps_set (i := 2) sc_TextReader_turn.nd rfl (by first | exact Or.inl rfl | exact Or.inr rfl) (C8.pe_mt (ok_TextReader_names T) hr (by omega) (pv 0) (pa_cons pe_str pa_nil)))
      (pss_cons (ps_expr (C8.pe_mt (ok_TextReader_due T) hr (by omega) (pv 0) (pa_cons pe_str pa_nil)))
      (pss_one (ps_set (i := 3) sc_TextReader_turn.nd rfl (by first | exact Or.inl rfl | exact Or.inr rfl) (pe_tup (pa_cons (pv 1) (pa_cons (pv 2) (pa_cons (C8.pe_mt0 (ok_TextReader_name_pairs T) hr (by omega) (pv 0)) pa_nil))))))))
      (pss_one (ps_if (pt_cmpR op_in_tab (pv 1) (C8.pe_gc (by rfl) T.g_TURNS) rfl)
        (pss_one (ps_set (i := 3) sc_TextReader_turn.nd rfl (by first | exact Or.inl rfl | exact Or.inr rfl) (pe_op op_catA (pe_tup (pa_cons (pv 1) pa_nil)) (C8.pe_mt (ok_TextReader_parts T (lv := lv + 1) (Kr := KTc 4) (Vr := VTp 4) (Tr := TT n) (n := 5 + n) (by omega) (ok_TextReader_part T (lv := lv) (lk := 24) (lw := 12) (lt := lv) (nk := 4) (nv := 4) (nt := 5 + n) (by omega) (by omega) (ok_TextReader_kind T 4) (ok_TextReader_value T 4) ih)) hr (by omega) (pv 0) (pa_cons (pe_ix ix_kdict (C8.pe_gc (by rfl) T.g_TURNS) (pv 1) (fun _ _ => rfl)) pa_nil)))))
        (pss_one ps_never))))
    (pss_cons (ps_expr (C8.pe_mt (ok_TextReader_closed T) hr (by omega) (pv 0) (pa_cons pe_str pa_nil)))
    (pss_one (ps_ret (pv 3))))))), ?_⟩
  rcases hk with ⟨ws, ps, ⟨w1, w2⟩, ⟨p1, p2⟩, h5, h6, rfl, rfl⟩ | ⟨x, q, ds, ps, hF, hP, rfl, rfl⟩
  · have hs' : RS K H r L (.w "words" :: .s 40 :: (st (sep (ws.map fun x => [.w x])) ++ .s 59 :: (st (sep (ps.map fun p => [.w p.x, .s 58, .sp, .w p.y])) ++ .s 41 :: rest))) k := by
      have e : st (.w "words" :: .s 40 :: (sep (ws.map fun x => [.w x]) ++ (.s 59 :: .sp :: (sep (ps.map fun p => [.w p.x, .s 58, .sp, .w p.y]) ++ [.s 41])))) ++ rest = .w "words" :: .s 40 :: (st (sep (ws.map fun x => [.w x])) ++ .s 59 :: (st (sep (ps.map fun p => [.w p.x, .s 58, .sp, .w p.y])) ++ .s 41 :: rest)) := by
        rw [st_w, st_s, st_app, st_s, st_sp, st_app]
        simp only [List.cons_append, List.append_assoc]
        rfl
      rw [← e]
      exact hs
    obtain ⟨dx, i0, h1⟩ := hs'.ins
    refine ⟨_, rfl, r, dx, _, rfl, h1, lk_none _ _ _ _ (by decide +kernel), r, L, .w "words", _, k, _, _, rfl, rfl, hs', fun v H1 e1 hv hs1 => ?_⟩
    obtain rfl := hv.str_of
    obtain ⟨dx, i0, h1⟩ := hs1.ins
    refine ⟨_, rfl, r, dx, _, rfl, h1, lk_none _ _ _ _ (by decide +kernel), r, L, _, k, 40, rfl, by decide, hs1, by omega, fun H2 e2 hs2 => ?_⟩
    refine ⟨_, rfl, rfl, _, rfl, if_t (by decide +kernel) ?_⟩
    obtain ⟨dx, i0, h1⟩ := hs2.ins
    refine ⟨_, rfl, r, dx, _, rfl, h1, lk_none _ _ _ _ (by decide +kernel), r, L, ws, _, k + 1, 59, rfl, by decide, by decide, w1, w2, hs2, fun v3 H3 e3 hv3 hs3 => ?_⟩
    obtain ⟨dx, i0, h1⟩ := hs3.ins
    refine ⟨_, rfl, r, dx, _, rfl, h1, lk_none _ _ _ _ (by decide +kernel), r, L, _, k + 1, 59, rfl, by decide, hs3, fun H4 e4 hs4 => ?_⟩
    have hv4 := hv3.kx e4 hs3.nt
    obtain ⟨dx, i0, h1⟩ := hs4.ins
    refine ⟨_, rfl, _, rfl, _, rfl, r, dx, _, rfl, h1, lk_none _ _ _ _ (by decide +kernel), r, L, ps, rest, k + 1, rfl, p1, p2, hs4, fun v5 H5 e5 hv5 hs5 => ⟨(by show 3 ≤ sizeLine; decide), fun p np => ?_⟩⟩
    have hv45 := hv4.kx e5 hs4.nt
    have e6 : Same H5 (upd H5 p (.tup [V.str "words", v3, v5])) := (Kx.new _ np).to
    have hv6 : Rp K (upd H5 p (.tup [V.str "words", v3, v5])) (.ref p) (.tuple [.str "words", .tuple (ws.map .str), .tuple (ps.map fun p => pairD p.x (.str p.y))]) := .tup (SqT.of upd_same) (.cons (.str _) (.cons (hv45.sm e6) (.cons (hv5.sm e6) .nil)))
    have hs6 := hs5.sm e6
    obtain ⟨dx, i0, h1⟩ := hs6.ins
    refine ⟨_, rfl, r, dx, _, rfl, h1, lk_none _ _ _ _ (by decide +kernel), r, L, rest, k, 41, rfl, by decide, hs6, fun H7 e7 hs7 => ?_⟩
    exact ⟨_, rfl, kk _ _ ((((((e1.trans e2).trans e3).trans e4).trans e5).trans (Kx.same e6)).trans e7) (hv6.kx e7 hs6.nt) hs7⟩
  · have hs' : RS K H r L (.w x :: .s 40 :: (st (sep ps) ++ .s 41 :: rest)) k := by
      rw [st_fmt, List.cons_append, List.cons_append, List.append_assoc] at hs
      exact hs
    obtain ⟨l1, l2, l3⟩ := form_lens turnF_six hF hP
    obtain ⟨dx, i0, h1⟩ := hs'.ins
    refine ⟨_, rfl, r, dx, _, rfl, h1, lk_none _ _ _ _ (by decide +kernel), r, L, .w x, _, k, _, _, rfl, rfl, hs', fun v H1 e1 hv hs1 => ?_⟩
    obtain rfl := hv.str_of
    obtain ⟨dx, i0, h1⟩ := hs1.ins
    refine ⟨_, rfl, r, dx, _, rfl, h1, lk_none _ _ _ _ (by decide +kernel), r, L, _, k, 40, rfl, by decide, hs1, by omega, fun H2 e2 hs2 => ?_⟩
    refine ⟨_, rfl, rfl, _, rfl, if_f (decide_eq_false fun e => turnF_words _ hF (V.str.inj e)) ?_⟩
    refine ⟨_, rfl, x, _, _, rfl, rfl, T.low_TURNS, T.k_TURNS (turnKV hF), _, rfl, if_t rfl ?_⟩
    refine ⟨_, rfl, (by show 1 ≤ sizeLine; decide), fun a na => ?_⟩
    have e3 : Same H2 (upd H2 a (.tup [V.str x])) := (Kx.new _ na).to
    have hs3 := hs2.sm e3
    obtain ⟨dx, i0, h1⟩ := hs3.ins
    refine ⟨_, rfl, r, dx, _, rfl, h1, lk_none _ _ _ _ (by decide +kernel), _, rfl, _, x, _, rfl, rfl, T.k_TURNS (turnKV hF), r, L, q, ds, ps, _, k + 1, rfl, ptg_of hP l3, hs3, by omega, fun v H4 e4 hv4 hs4 => ?_⟩
    refine cat_ok (e4.sqT hs3.nt (SqT.of upd_same)) hv4 (by omega) fun v' H5 e5 hv5 => ?_
    have hs5 := hs4.sm e5
    obtain ⟨dx, i0, h1⟩ := hs5.ins
    refine ⟨_, rfl, r, dx, _, rfl, h1, lk_none _ _ _ _ (by decide +kernel), r, L, rest, k, 41, rfl, by decide, hs5, fun H6 e6 hs6 => ?_⟩
    exact ⟨_, rfl, kk _ _ (((((e1.trans e2).trans (Kx.same e3)).trans e4).trans (Kx.same e5)).trans e6) (hv5.kx e6 hs5.nt) hs6⟩
theorem ok_TextReader_turn (T : Txt w K mg) : ∀ n, C8.Met P w K mg base (24 + 3 * n) (TRc K) "turn" (spPv K (TT n) (5 + n)) []
  | 0 => by
    refine metD (k := 23) (tell_TextReader_turn T) sc_TextReader_turn bind_TextReader_turn (fun vs H Q E h => ?_) (fun f cdv A outer s H vs Q E hr h => ?_)
    · obtain ⟨_, _, _, _, _, _, _, h, _⟩ := h
      exact h.elim
    · obtain ⟨_, _, _, _, _, _, _, h, _⟩ := h
      exact h.elim
  | n + 1 => cal_mv (ok_TextReader_turn_s T (by omega) (ok_TextReader_turn T n)) (by omega)
theorem ok_TextReader_piece (T : Txt w K mg) : C8.Met P w K mg base (39) (TRc K) "piece" (spPv K PT 10) [] := by
  refine metD (tell_TextReader_piece T) sc_TextReader_piece bind_TextReader_piece (fun vs H Q E h => ?_) (fun f cdv A outer s H vs Q E hr h => ?_)
  · obtain ⟨_, _, _, _, _, _, rfl, _⟩ := h
    rfl
  obtain ⟨r, L, d, ts, rest, k, rfl, ⟨x, q, ds, ps, hF, hP, rfl, rfl⟩, hs, hkn, kk⟩ := h
  refine ⟨_, (pss_cons (ps_set (i := 1) sc_TextReader_piece.nd rfl (by first | exact Or.inl rfl | exact Or.inr rfl) (C8.pe_mt (ok_TextReader_taken T) hr (by omega) (pv 0) (pa_cons pe_str pa_nil)))
    (pss_cons (ps_if (pt_cmpR op_notIn_tab (pv 1) (C8.pe_gc (by rfl) T.g_PIECES) rfl)
      (pss_one ps_never)
      pss_nil)
    (pss_cons (ps_expr (C8.pe_mt (ok_TextReader_opened T) hr (by omega) (pv 0) (pa_cons pe_str pa_nil)))
    (pss_cons (ps_set (i := 2) sc_TextReader_piece.nd rfl (by first | exact Or.inl rfl | exact Or.inr rfl) (pe_op op_catA (pe_tup (pa_cons (pv 1) pa_nil)) (C8.pe_mt (ok_TextReader_parts T (lv := 37) (Kr := KTc 4) (Vr := VTp 4) (Tr := TT 4) (n := 9) (by omega) (ok_TextReader_part T (lv := 36) (lk := 24) (lw := 12) (lt := 36) (nk := 4) (nv := 4) (nt := 9) (by omega) (by omega) (ok_TextReader_kind T 4) (ok_TextReader_value T 4) (ok_TextReader_turn T 4))) hr (by omega) (pv 0) (pa_cons (pe_ix ix_kdict (C8.pe_gc (by rfl) T.g_PIECES) (pv 1) (fun _ _ => rfl)) pa_nil))))
    (pss_cons (ps_expr (C8.pe_mt (ok_TextReader_closed T) hr (by omega) (pv 0) (pa_cons pe_str pa_nil)))
    (pss_one (ps_ret (pv 2)))))))), ?_⟩
  have hs' : RS K H r L (.w x :: .s 40 :: (st (sep ps) ++ .s 41 :: rest)) k := by
    rw [st_fmt, List.cons_append, List.cons_append, List.append_assoc] at hs
    exact hs
  obtain ⟨l1, l2, l3⟩ := form_lens pieceF_codes hF hP
  obtain ⟨dx, i0, h1⟩ := hs'.ins
  refine ⟨_, rfl, r, dx, _, rfl, h1, lk_none _ _ _ _ (by decide +kernel), r, L, .w x, _, k, _, _, rfl, rfl, hs', fun v H1 e1 hv hs1 => ?_⟩
  obtain rfl := hv.str_of
  refine ⟨_, rfl, x, _, _, rfl, rfl, T.low_PIECES, T.k_PIECES (pieceKV hF), _, rfl, if_f rfl ?_⟩
  obtain ⟨dx, i0, h1⟩ := hs1.ins
  refine ⟨_, rfl, r, dx, _, rfl, h1, lk_none _ _ _ _ (by decide +kernel), r, L, _, k, 40, rfl, by decide, hs1, by omega, fun H2 e2 hs2 => ?_⟩
  refine ⟨_, rfl, (by show 1 ≤ sizeLine; decide), fun a na => ?_⟩
  have e3 : Same H2 (upd H2 a (.tup [V.str x])) := (Kx.new _ na).to
  have hs3 := hs2.sm e3
  obtain ⟨dx, i0, h1⟩ := hs3.ins
  refine ⟨_, rfl, r, dx, _, rfl, h1, lk_none _ _ _ _ (by decide +kernel), _, rfl, _, x, _, rfl, rfl, T.k_PIECES (pieceKV hF), r, L, q, ds, ps, _, k + 1, rfl, ptg_of hP l3, hs3, by omega, fun v H4 e4 hv4 hs4 => ?_⟩
  refine cat_ok (e4.sqT hs3.nt (SqT.of upd_same)) hv4 (by omega) fun v' H5 e5 hv5 => ?_
  have hs5 := hs4.sm e5
  obtain ⟨dx, i0, h1⟩ := hs5.ins
  refine ⟨_, rfl, r, dx, _, rfl, h1, lk_none _ _ _ _ (by decide +kernel), r, L, rest, k, 41, rfl, by decide, hs5, fun H6 e6 hs6 => ?_⟩
  exact ⟨_, rfl, kk _ _ (((((e1.trans e2).trans (Kx.same e3)).trans e4).trans (Kx.same e5)).trans e6) (hv5.kx e6 hs5.nt) hs6⟩
theorem ok_TextReader_path (T : Txt w K mg) : C8.Met P w K mg base (3) (TRc K) "path" (spPath K) [] := by
  refine metD (tell_TextReader_path T) sc_TextReader_path bind_TextReader_path (fun vs H Q E h => ?_) (fun f cdv A outer s H vs Q E hr h => ?_)
  · obtain ⟨_, _, _, _, _, _, rfl, _⟩ := h
    rfl
  obtain ⟨r, L, xs, q, rest, k, rfl, h8, hs, kk⟩ := h
  refine ⟨_, (pss_cons (ps_set (i := 1) sc_TextReader_path.nd rfl (by first | exact Or.inl rfl | exact Or.inr rfl) (pe_lst pa_nil))
    (pss_cons (ps_expr (C8.pe_mt (ok_TextReader_due T) hr (by decide) (pv 0) (pa_cons pe_str pa_nil)))
    (pss_cons (ps_set (i := 2) sc_TextReader_path.nd rfl (by first | exact Or.inl rfl | exact Or.inr rfl) (pe_ix ix_tup (pe_ix ix_list (pe_fld (pv 0) rfl) (pe_fld (pv 0) rfl) (fun _ _ => rfl)) pe_int (fun _ _ => rfl)))
    (pss_cons (ps_if (PW.pt (pw_or (pt_cmpR op_eq (pv 2) pe_str (nomark _)) (pw_or1 (PW.pt (pw_and (pt_cmpR op_eq (pv 2) pe_str (nomark _)) (pw_and1 (pt_cmpR (op_eqD (hud_of hr)) (pe_ix ix_list (pe_fld (pv 0) rfl) (pe_op op_add (pe_fld (pv 0) rfl) pe_int) (fun _ _ => rfl)) (pe_tup (pa_cons pe_str (pa_cons pe_str pa_nil))) (nomark _))))))))
      (pss_one (ps_ret (pe_tup pa_nil)))
      pss_nil)
    (pss_cons (ps_expr (pe_bm PySem.F.plainAttrs_list PySem.F.slot_list_append PySem.F.type_list_append mt_append (pv 1) (pa_cons (C8.pe_mt (ok_TextReader_taken T) hr (by decide) (pv 0) (pa_cons pe_str pa_nil)) pa_nil)))
    (pss_cons (ps_while PassesOwn.never (pt_val (C8.pe_mt (ok_TextReader_next_is T) hr (by decide) (pv 0) (pa_cons pe_str pa_nil)))
      (pss_cons (ps_fld (pv 0) (pe_op op_add (pe_fld (pv 0) rfl) pe_int) rfl)
      (pss_one (ps_expr (pe_bm PySem.F.plainAttrs_list PySem.F.slot_list_append PySem.F.type_list_append mt_append (pv 1) (pa_cons (C8.pe_mt (ok_TextReader_taken T) hr (by decide) (pv 0) (pa_cons pe_str pa_nil)) pa_nil))))))
    (pss_one (ps_ret (pe_callTy call_tuple_of (by rfl) T.m_tuple bt_tuple (pa_cons (pv 1) pa_nil)))))))))), ?_⟩
  have hz := sizeL
  have hne := hs.ne
  refine ⟨Nat.zero_le _, fun p np => ?_⟩
  have e0 : Same H (upd H p (.lst [])) := (Kx.new _ np).to
  have hs0 := hs.sm e0
  obtain ⟨dx, i0, h1⟩ := hs0.ins
  cases xs with
  | nil =>
    refine ⟨_, rfl, r, dx, _, rfl, h1, lk_none _ _ _ _ (by decide +kernel), r, L, _, k, 47, rfl, by decide, hs0, fun H1 e1 hs1 => ?_⟩
    obtain ⟨dx, us, i, h1, h2, h3, h4, h5⟩ := id hs1
    obtain ⟨v, hv, hd⟩ := at_head h4
    obtain ⟨a, ys, rfl, hS, hR⟩ := hd.tup_of
    obtain ⟨v1, v2, rfl, g1, g2⟩ := hR.two_of
    obtain rfl := g1.str_of
    obtain ⟨v', hv', hd'⟩ := at_second h4
    refine ⟨_, rfl, r, _, dx, _, _, rfl, h1, T.cl, T.no_words, lk_words _ _ _, _, rfl, r, _, dx, _, _, rfl, h1, T.cl, T.no_at, lk_at _ _ _, L, us, _, _, rfl, rfl, SqL.of h2, hv, a, _, _, _, rfl, rfl, hS, rfl, ?_⟩
    refine ⟨_, rfl, rfl, _, rfl, if_f (by decide +kernel) ⟨_, rfl, rfl, _, rfl, if_t (by decide +kernel) ?_⟩⟩
    refine ⟨_, rfl, r, _, dx, _, _, rfl, h1, T.cl, T.no_words, lk_words _ _ _, _, rfl, r, _, dx, _, _, rfl, h1, T.cl, T.no_at, lk_at _ _ _, _, _, rfl, rfl, L, us, _, _, rfl, rfl, SqL.of h2, hv', (by show 2 ≤ sizeLine; decide), fun t nt => ?_⟩
    have e2 : Same H1 (upd H1 t (.tup [V.str "sign", V.str "("])) := (Kx.new _ nt).to
    have n2 := nc_sign 40 (by decide)
    refine ⟨tokD (.s 40), tokD (.s 40), (hd'.sm e2).dp, .tup (SqT.of upd_same) (.cons (.str "sign") (.cons (.str "(") .nil)), n2.shaped (by decide), n2.shaped (by decide), _, rfl, ?_⟩
    refine if_t (n2.eqv n2 (b := true) ⟨fun _ => rfl, fun _ => rfl⟩) ?_
    refine ⟨Nat.zero_le _, fun l nl => ?_⟩
    have e3 := (Kx.new (M := M0) (.tup []) nl).to
    exact kk _ _ (((Kx.same e0).trans e1).trans (Kx.same (e2.trans e3))) (.tup (SqT.of upd_same) .nil) (hs1.sm (e2.trans e3))
  | cons x xs =>
    have ht : pathT (x :: xs) = (x :: xs).flatMap fun x => [.s 47, .w x] := if_neg (List.cons_ne_nil _ _)
    have hs0' : RS K (upd H p (.lst [])) r L (.s 47 :: .w x :: ((xs.flatMap fun x => [.s 47, .w x]) ++ .w q :: .s 40 :: rest)) k := by
      rw [ht, st_path] at hs0
      exact hs0
    refine ⟨_, rfl, r, dx, _, rfl, h1, lk_none _ _ _ _ (by decide +kernel), r, L, _, k, 47, rfl, by decide, hs0', fun H1 e1 hs1 => ?_⟩
    obtain ⟨dx, us, i, h1, h2, h3, h4, h5⟩ := id hs1
    obtain ⟨v, hv, hd⟩ := at_head h4
    obtain ⟨a, ys, rfl, hS, hR⟩ := hd.tup_of
    obtain ⟨v1, v2, rfl, g1, g2⟩ := hR.two_of
    obtain rfl := g1.str_of
    refine ⟨_, rfl, r, _, dx, _, _, rfl, h1, T.cl, T.no_words, lk_words _ _ _, _, rfl, r, _, dx, _, _, rfl, h1, T.cl, T.no_at, lk_at _ _ _, L, us, _, _, rfl, rfl, SqL.of h2, hv, a, _, _, _, rfl, rfl, hS, rfl, ?_⟩
    refine ⟨_, rfl, rfl, _, rfl, if_f (by decide +kernel) ⟨_, rfl, rfl, _, rfl, if_t (by decide +kernel) ?_⟩⟩
    have two : ∃ t' l, ((xs.flatMap fun x => [Tk.s 47, .w x]) ++ .w q :: .s 40 :: rest) = t' :: l ∧ t' ≠ .s 40 := by
      cases xs with
      | nil => exact ⟨.w q, _, rfl, fun z => nomatch z⟩
      | cons y ys => exact ⟨.s 47, _, rfl, fun z => by injection z with z; revert z; decide⟩
    obtain ⟨t', l, et, ht'⟩ := two
    have h4' := h4
    have h5' := h5
    rw [et] at h4' h5'
    obtain ⟨v', hv', hd'⟩ := at_second h4'
    refine ⟨_, rfl, r, _, dx, _, _, rfl, h1, T.cl, T.no_words, lk_words _ _ _, _, rfl, r, _, dx, _, _, rfl, h1, T.cl, T.no_at, lk_at _ _ _, _, _, rfl, rfl, L, us, _, _, rfl, rfl, SqL.of h2, hv', (by show 2 ≤ sizeLine; decide), fun t nt => ?_⟩
    have e2 : Same H1 (upd H1 t (.tup [V.str "sign", V.str "("])) := (Kx.new _ nt).to
    have n2 := nc_sign 40 (by decide)
    have n1 := h5' t' (List.mem_cons_of_mem _ (List.mem_cons_self ..))
    refine ⟨tokD t', tokD (.s 40), (hd'.sm e2).dp, .tup (SqT.of upd_same) (.cons (.str "sign") (.cons (.str "(") .nil)), n1.shaped (by decide), n2.shaped (by decide), _, rfl, ?_⟩
    refine if_f (n1.eqv n2 (b := false) ⟨fun z => (Bool.false_ne_true z).elim, fun z => (ht' ((tokD_s t' 40).mp z)).elim⟩) ?_
    have hp0 : (upd H p (.lst [])) p = some (.lst []) := upd_same
    obtain ⟨f1, _⟩ := carry (ds := []) hs0' hp0 .nil e1
    have hs2 := hs1.sm e2
    obtain ⟨dx, i0, h1⟩ := hs2.ins
    refine ⟨_, rfl, .inl ⟨rfl, _, SqL.of (e2 _ _ f1)⟩, _, rfl, r, dx, _, rfl, h1, lk_none _ _ _ _ (by decide +kernel), r, L, .w x, _, k, _, _, rfl, rfl, hs2, fun v3 H3 e3 hv3 hs3 => ?_⟩
    obtain ⟨f2, _⟩ := carry (ds := []) hs2 (e2 _ _ f1) .nil e3
    obtain ⟨a1, a2, a3⟩ := added (ds := []) np hne ((((Kx.same e0).trans e1).trans (Kx.same e2)).trans e3) f2 .nil hv3 hs3
    refine ⟨p, [], _, rfl, rfl, f2, (by rw [List.length_nil]; omega), ?_⟩
    refine while_up xs.length (fun i σ H' => Kx (M1 r) H H' ∧ RS K H' r L (((xs.drop i).flatMap fun x => [Tk.s 47, Tk.w x]) ++ .w q :: .s 40 :: rest) k ∧ σ = [some (.ref r), some (.ref p), some (.str "word")] ∧ ∃ us, H' p = some (.lst us) ∧ RpA K H' us (.str x :: (xs.take i).map .str)) ⟨a1, a3, rfl, _, upd_same, a2⟩ (fun i σ H4 m W hi hP hW => ?_)
    obtain ⟨e4, hs4, rfl, us, hp, hR⟩ := hP
    have hul : us.length ≤ 9 := by
      rw [hR.length, List.length_cons, List.length_map, List.length_take]
      rw [List.length_cons] at h8
      omega
    by_cases hlt : i < xs.length
    · have ew : xs[i]? = some xs[i] := List.getElem?_eq_getElem hlt
      rw [List.drop_eq_getElem_cons hlt] at hs4
      have hs4' : RS K H4 r L (.s 47 :: .w xs[i] :: (((xs.drop (i + 1)).flatMap fun x => [.s 47, .w x]) ++ .w q :: .s 40 :: rest)) k := hs4
      obtain ⟨dx, i0, h1⟩ := hs4'.ins
      refine ⟨_, rfl, r, dx, _, rfl, h1, lk_none _ _ _ _ (by decide +kernel), r, L, .s 47, _, k, 47, rfl, by decide, hs4', fun H5 e5 => ⟨_, rfl, ?_⟩⟩
      refine Exists.intro _ ⟨hW hlt, ?_⟩
      obtain ⟨dx, us0, i0, h1, h2, h3, h4, h5⟩ := hs4'.sm e5
      refine ⟨_, rfl, r, _, dx, _, _, rfl, h1, T.cl, T.no_at, lk_at _ _ _, _, _, rfl, rfl, _, rfl, r, _, dx, _, rfl, h1, T.cl, T.no_at, (by show 3 < 1000; decide), ?_⟩
      rw [put_at]
      have e6 : Kx (M1 r) H5 (upd H5 r (.ins (TRc K) dx (rf L (i0 + 1) k))) := Kx.put _ rfl
      have hs6 := RS.step (k' := k) h1 h2 h3 h4 h5
      obtain ⟨g1, g2⟩ := carry (hs4'.sm e5) (e5 _ _ hp) (hR.sm e5) e6
      obtain ⟨dx, i0, h1⟩ := hs6.ins
      refine ⟨_, rfl, .inl ⟨rfl, _, SqL.of g1⟩, _, rfl, r, dx, _, rfl, h1, lk_none _ _ _ _ (by decide +kernel), r, L, .w xs[i], _, k, _, _, rfl, rfl, hs6, fun v7 H7 e7 hv7 hs7 => ?_⟩
      obtain ⟨g1, g2⟩ := carry hs6 g1 g2 e7
      obtain ⟨a1, a2, a3⟩ := added np hne (((e4.trans (Kx.same e5)).trans e6).trans e7) g1 g2 hv7 hs7
      refine ⟨p, us, _, rfl, rfl, g1, by omega, a1, a3, rfl, us ++ [v7], upd_same, ?_⟩
      rw [take_map_succ ew]
      exact a2
    · have e0 : i = xs.length := by omega
      have ed : xs.drop i = [] := List.drop_eq_nil_of_le (by omega)
      rw [ed] at hs4
      have hs4' : RS K H4 r L (.w q :: .s 40 :: rest) k := hs4
      rw [e0, List.take_length] at hR
      obtain ⟨dx, i0, h1⟩ := hs4'.ins
      refine ⟨_, rfl, r, dx, _, rfl, h1, lk_none _ _ _ _ (by decide +kernel), r, L, .w q, _, k, 47, rfl, by decide, hs4', fun H5 e5 => ⟨_, rfl, ?_⟩⟩
      refine ⟨_, rfl, p, us, rfl, .inl ⟨SqL.of (e5 _ _ hp), fun l nl => ?_⟩⟩
      have e6 : Same H5 (upd H5 l (.tup us)) := (Kx.new _ nl).to
      exact kk _ _ (e4.trans (Kx.same (e5.trans e6))) (.tup (SqT.of upd_same) (hR.sm (e5.trans e6))) (hs4'.sm (e5.trans e6))
theorem ok_read_turn (T : Txt w K mg) : C8.Cal P w K mg base (60) "read_turn" (spRd K (TT 4)) [] := by
  refine calD (tell_read_turn T) sc_read_turn bind_read_turn (fun vs H Q E h => ?_) (fun f cdv A outer s H vs Q E hr h => ?_)
  · obtain ⟨_, _, rfl, _⟩ := h
    rfl
  obtain ⟨d, ts, rfl, hd, hg, hsm, kk⟩ := h
  refine ⟨_, (pss_cons (ps_set (i := 1) sc_read_turn.nd rfl (by first | exact Or.inl rfl | exact Or.inr rfl) (C8.pe_mk (mk_TextReader T) hr (by decide) (by rfl) (pa_cons (pv 0) pa_nil)))
    (pss_one (ps_ret (C8.pe_mt (ok_TextReader_ended T) hr (by decide) (pv 1) (pa_cons (C8.pe_mt0 (ok_TextReader_turn T 4) hr (by decide) (pv 1)) pa_nil))))), ?_⟩
  refine ⟨_, rfl, fun r dx nr ndx hdr => ?_⟩
  have ea : Same H (upd (upd H dx (.own r)) r (.ins (TRc K) dx [])) := ((Kx.new (M := M0) _ ndx).trans (Kx.new _ (by rw [upd_ne (Ne.symm hdr)]; exact nr))).to
  refine ⟨r, dx, ts, rfl, hg, hsm, upd_same, fun L H1 e1 hs1 => ⟨rfl, ?_⟩⟩
  obtain ⟨dx, i0, h1⟩ := hs1.ins
  have h10 := h1
  have hl0 := lk_none L i0 0 "ended" (by decide +kernel)
  refine ⟨_, rfl, r, dx, _, rfl, h10, hl0, _, rfl, r, dx, _, rfl, h1, lk_none _ _ _ _ (by decide +kernel), r, L, d, ts, [.e], 0, rfl, hd, hs1, by decide, fun v H2 e2 hv hs2 => ?_⟩
  refine ⟨r, L, v, [], 0, rfl, hs2, fun H3 e3 => ?_⟩
  exact kk _ _ (same_new ea nr ((e1.trans e2).trans e3)) (hv.kx e3 hs2.nt)
theorem ok_read_piece (T : Txt w K mg) : C8.Cal P w K mg base (60) "read_piece" (spRd K (PT)) [] := by
  refine calD (tell_read_piece T) sc_read_piece bind_read_piece (fun vs H Q E h => ?_) (fun f cdv A outer s H vs Q E hr h => ?_)
  · obtain ⟨_, _, rfl, _⟩ := h
    rfl
  obtain ⟨d, ts, rfl, hd, hg, hsm, kk⟩ := h
  refine ⟨_, (pss_cons (ps_set (i := 1) sc_read_piece.nd rfl (by first | exact Or.inl rfl | exact Or.inr rfl) (C8.pe_mk (mk_TextReader T) hr (by decide) (by rfl) (pa_cons (pv 0) pa_nil)))
    (pss_one (ps_ret (C8.pe_mt (ok_TextReader_ended T) hr (by decide) (pv 1) (pa_cons (C8.pe_mt0 (ok_TextReader_piece T) hr (by decide) (pv 1)) pa_nil))))), ?_⟩
  refine ⟨_, rfl, fun r dx nr ndx hdr => ?_⟩
  have ea : Same H (upd (upd H dx (.own r)) r (.ins (TRc K) dx [])) := ((Kx.new (M := M0) _ ndx).trans (Kx.new _ (by rw [upd_ne (Ne.symm hdr)]; exact nr))).to
  refine ⟨r, dx, ts, rfl, hg, hsm, upd_same, fun L H1 e1 hs1 => ⟨rfl, ?_⟩⟩
  obtain ⟨dx, i0, h1⟩ := hs1.ins
  have h10 := h1
  have hl0 := lk_none L i0 0 "ended" (by decide +kernel)
  refine ⟨_, rfl, r, dx, _, rfl, h10, hl0, _, rfl, r, dx, _, rfl, h1, lk_none _ _ _ _ (by decide +kernel), r, L, d, ts, [.e], 0, rfl, hd, hs1, by decide, fun v H2 e2 hv hs2 => ?_⟩
  refine ⟨r, L, v, [], 0, rfl, hs2, fun H3 e3 => ?_⟩
  exact kk _ _ (same_new ea nr ((e1.trans e2).trans e3)) (hv.kx e3 hs2.nt)
theorem ok_read_kind (T : Txt w K mg) : C8.Cal P w K mg base (60) "read_kind" (spRd K KT4) [] := by
  refine calD (tell_read_kind T) sc_read_kind bind_read_kind (fun vs H Q E h => ?_) (fun f cdv A outer s H vs Q E hr h => ?_)
  · obtain ⟨_, _, rfl, _⟩ := h
    rfl
  obtain ⟨d, ts, rfl, hd, hg, hsm, kk⟩ := h
  refine ⟨_, (pss_cons (ps_set (i := 1) sc_read_kind.nd rfl (by first | exact Or.inl rfl | exact Or.inr rfl) (C8.pe_mk (mk_TextReader T) hr (by decide) (by rfl) (pa_cons (pv 0) pa_nil)))
    (pss_one (ps_ret (C8.pe_c (ok_made_kind T) hr (by decide) (by rfl) (pa_cons (C8.pe_mt (ok_TextReader_ended T) hr (by decide) (pv 1) (pa_cons (C8.pe_mt0 (ok_TextReader_kind T 4) hr (by decide) (pv 1)) pa_nil)) pa_nil))))), ?_⟩
  refine ⟨_, rfl, fun r dx nr ndx hdr => ?_⟩
  have ea : Same H (upd (upd H dx (.own r)) r (.ins (TRc K) dx [])) := ((Kx.new (M := M0) _ ndx).trans (Kx.new _ (by rw [upd_ne (Ne.symm hdr)]; exact nr))).to
  refine ⟨r, dx, ts, rfl, hg, hsm, upd_same, fun L H1 e1 hs1 => ⟨rfl, ?_⟩⟩
  obtain ⟨c, hc, hk⟩ := id hd
  obtain ⟨dx, i0, h1⟩ := hs1.ins
  have h10 := h1
  have hl0 := lk_none L i0 0 "ended" (by decide +kernel)
  refine ⟨_, rfl, r, dx, _, rfl, h10, hl0, _, rfl, r, dx, _, rfl, h1, lk_none _ _ _ _ (by decide +kernel), r, L, d, ts, [.e], 0, rfl, ⟨c, hk⟩, hs1, by decide, fun v H2 e2 hv hs2 => ?_⟩
  refine ⟨r, L, v, [], 0, rfl, hs2, fun H3 e3 => ?_⟩
  have hv3 := hv.kx e3 hs2.nt
  refine ⟨v, d, ts, rfl, hv3, hd, fun H4 e4 => ?_⟩
  exact kk _ _ ((same_new ea nr ((e1.trans e2).trans e3)).trans e4) (hv3.sm e4)
theorem ok_read_change (T : Txt w K mg) : C8.Cal P w K mg base (60) "read_change" (spRd K CT) [] := by
  refine calD (tell_read_change T) sc_read_change bind_read_change (fun vs H Q E h => ?_) (fun f cdv A outer s H vs Q E hr h => ?_)
  · obtain ⟨_, _, rfl, _⟩ := h
    rfl
  obtain ⟨d, ts, rfl, hd, hg, hsm, kk⟩ := h
  refine ⟨_, (pss_cons (ps_set (i := 1) sc_read_change.nd rfl (by first | exact Or.inl rfl | exact Or.inr rfl) (C8.pe_mk (mk_TextReader T) hr (by decide) (by rfl) (pa_cons (pv 0) pa_nil)))
    (pss_cons (ps_set (i := 2) sc_read_change.nd rfl (by first | exact Or.inl rfl | exact Or.inr rfl) (C8.pe_mt0 (ok_TextReader_path T) hr (by decide) (pv 1)))
    (pss_one (ps_ret (C8.pe_mt (ok_TextReader_ended T) hr (by decide) (pv 1) (pa_cons (pe_tup (pa_cons (pv 2) (pa_cons (C8.pe_mt0 (ok_TextReader_piece T) hr (by decide) (pv 1)) pa_nil))) pa_nil)))))), ?_⟩
  refine ⟨_, rfl, fun r dx nr ndx hdr => ?_⟩
  have ea : Same H (upd (upd H dx (.own r)) r (.ins (TRc K) dx [])) := ((Kx.new (M := M0) _ ndx).trans (Kx.new _ (by rw [upd_ne (Ne.symm hdr)]; exact nr))).to
  refine ⟨r, dx, ts, rfl, hg, hsm, upd_same, fun L H1 e1 hs1 => ⟨rfl, ?_⟩⟩
  obtain ⟨pd, pt, qd, qt, ⟨xs, h8, hx, rfl, rfl⟩, hq, rfl, rfl⟩ := hd
  obtain ⟨x0, l0, eh⟩ := PT_head hq
  have hs1' : RS K H1 r L (st (pathT xs) ++ .w x0 :: .s 40 :: (l0 ++ [.e])) 0 := by
    rw [st_app, st_sp, eh, List.append_assoc] at hs1
    exact hs1
  obtain ⟨dx, i0, h1⟩ := hs1.ins
  refine ⟨_, rfl, r, dx, _, rfl, h1, lk_none _ _ _ _ (by decide +kernel), r, L, xs, x0, _, 0, rfl, h8, hs1', fun v H2 e2 hv hs2 => ?_⟩
  have hs2' : RS K H2 r L (st qt ++ [.e]) 0 := by
    rw [eh]
    exact hs2
  obtain ⟨dx, i0, h1⟩ := hs2.ins
  have h10 := h1
  have hl0 := lk_none L i0 0 "ended" (by decide +kernel)
  refine ⟨_, rfl, r, dx, _, rfl, h10, hl0, _, rfl, _, rfl, r, dx, _, rfl, h1, lk_none _ _ _ _ (by decide +kernel), r, L, qd, qt, [.e], 0, rfl, hq, hs2', by decide, fun v3 H3 e3 hv3 hs3 => ⟨(by show 2 ≤ sizeLine; decide), fun p np => ?_⟩⟩
  have hv23 := hv.kx e3 hs2.nt
  have e4 : Same H3 (upd H3 p (.tup [v, v3])) := (Kx.new _ np).to
  have hs4 := hs3.sm e4
  have hv4 : Rp K (upd H3 p (.tup [v, v3])) (.ref p) (.tuple [.tuple (xs.map .str), qd]) := .tup (SqT.of upd_same) (.cons (hv23.sm e4) (.cons (hv3.sm e4) .nil))
  refine ⟨r, L, _, [], 0, rfl, hs4, fun H5 e5 => ?_⟩
  exact kk _ _ (same_new ea nr ((((e1.trans e2).trans e3).trans (Kx.same e4)).trans e5)) (hv4.kx e5 hs4.nt)
end
end OH
end

section
set_option Elab.async false
set_option linter.all false
set_option maxRecDepth 100000
set_option maxHeartbeats 4000000
set_option autoImplicit false
namespace OH
open PySem PySem.Spec PyProof.Rows L2
/-- a row of digits -/
def Rw (H : Hp) (r : Addr) : Prop := ∃ n : Int, H r = some (.lst [.int n])
theorem Rw.nt {H : Hp} {r : Addr} (h : Rw H r) : NoT (M1 r) H := by
  obtain ⟨n, h⟩ := h
  exact NoT.one h
theorem Rw.ne {H : Hp} {r : Addr} (h : Rw H r) : H r ≠ none := by
  obtain ⟨n, h⟩ := h
  rw [h]
  exact fun z => nomatch z
theorem Rw.kx {H H' : Hp} {r : Addr} {M : Addr → Prop} (h : Rw H r) (e : Kx M H H') (n : ¬ M r) : Rw H' r := by
  obtain ⟨i, h⟩ := h
  exact ⟨i, e _ _ n h⟩
theorem Rw.sm {H H' : Hp} {r : Addr} (h : Rw H r) (e : Same H H') : Rw H' r := by
  obtain ⟨i, h⟩ := h
  exact ⟨i, e _ _ h⟩
theorem ne_new {H : Hp} {r p : Addr} (h : H r ≠ none) (n : H p = none) : ¬ M1 r p := fun z => by
  have z' : p = r := z
  rw [z'] at n
  exact h n
def spDigit : Sp := fun vs H Q _ => ∃ (r : Addr) (m : Int), vs = [.ref r, .int m] ∧ (0 < m ∧ m < 10 ^ 70) ∧ Rw H r ∧ ∀ d H', (0 ≤ d ∧ d < m) → Kx (M1 r) H H' → Rw H' r → Q (.int d) H'
/-- what R relates, made of a row -/
def spGen (K : PySem.W.Frag) (R : PyData → List Tk → Prop) : Sp := fun vs H Q _ => ∃ r, vs = [.ref r] ∧ Rw H r ∧ ∀ v d ts H', Kx (M1 r) H H' → Rw H' r → Rp K H' v d → R d ts → Q v H'
def NK (d : PyData) (ts : List Tk) : Prop := ∃ lo hi : Int, -(10 ^ 30) ≤ lo ∧ lo ≤ hi ∧ hi ≤ 10 ^ 30 ∧ d = .tuple [.str "number", .int lo, .int hi] ∧ ts = fmt "number" [[.n lo], [.n hi]]
def LK (d : PyData) (ts : List Tk) : Prop := ∀ n, KT (n + 1) 1 d ts
theorem NK.lk {d : PyData} {ts : List Tk} (h : NK d ts) : LK d ts := fun n => by
  obtain ⟨lo, hi, h1, h2, h3, h4, h5⟩ := h
  exact .inl ⟨lo, hi, rfl, h1, h2, h3, h4, h5⟩
theorem lk_text {m : Int} (h0 : 0 ≤ m) (h1 : m ≤ 60) : LK (.tuple [.str "text", .int m]) (fmt "text" [[.n m]]) := fun n => .inr (.inl ⟨m, rfl, h0, h1, rfl, rfl⟩)
theorem lk_choice {ws : List Str} (h1 : 1 ≤ ws.length) (h2 : ws.length ≤ 8) (h3 : ws.Nodup) (h4 : ∀ x ∈ ws, IsName x) : LK (.tuple [.str "choice", .tuple (ws.map .str)]) (fmt "choice" (ws.map fun x => [.w x])) := fun n => .inr (.inr (.inl ⟨ws, rfl, h1, h2, h3, h4, rfl, rfl⟩))
def spNamesG (K : PySem.W.Frag) : Sp := fun vs H Q _ => ∃ (r : Addr) (n : Nat), vs = [.ref r, .int (n : Nat)] ∧ n ≤ 8 ∧ Rw H r ∧ ∀ (p : Addr) (xs : List Str) H', Kx (M1 r) H H' → Rw H' r → H p = none → p ≠ r → H' p = some (.lst (xs.map V.str)) → xs.length = n → xs.Pairwise nameLt → (∀ x ∈ xs, IsName x) → Q (.ref p) H'
def spTextG : Sp := fun vs H Q _ => ∃ (r : Addr) (m : Int), vs = [.ref r, .int m] ∧ (0 ≤ m ∧ m ≤ 20) ∧ Rw H r ∧ ∀ x H', Kx (M1 r) H H' → Rw H' r → IsText x → Q (.str x) H'
def spWordG : Sp := fun vs H Q _ => ∃ (r : Addr), vs = [.ref r] ∧ Rw H r ∧ ∀ x H', Kx (M1 r) H H' → Rw H' r → IsWord x → Q (.str x) H'
def spNumG : Sp := fun vs H Q _ => ∃ (r : Addr), vs = [.ref r] ∧ Rw H r ∧ ∀ i H', Kx (M1 r) H H' → Rw H' r → IsNum i → Q (.int i) H'
def preN (n : Nat) : List Str := (List.range n).map fun i : Nat => cutS "abcdefgh" none (some (((i : Nat) : Int) + 1))
instance (x : Str) : Decidable (IsName x) := by
  unfold IsName
  exact inferInstance
instance (a b : Str) : Decidable (nameLt a b) := by
  unfold nameLt
  exact inferInstance
theorem preN_ok : ∀ n ∈ List.range 9, (preN n).Pairwise nameLt ∧ ∀ x ∈ preN n, IsName x := by decide +kernel
def eightW : List Str := ["eac", "eachx", "list", "lists", "number", "rows", "text", "words"]
def eightN (b n : Nat) : List Str := (List.range n).map fun k => eightW.getD ((b + k) % 8) "a"
theorem eightN_ok : ∀ b ∈ List.range 26, ∀ n ∈ List.range 9, (eightN b n).Nodup ∧ ∀ x ∈ eightN b n, IsName x := by decide +kernel
def tails : List Str := ["", "a", "zz", "eachone"]
def letN (b n : Nat) (t : Str) : List Str := (List.range n).map fun k => (⟨#[(b + 7 * k) % 26 + 97]⟩ : Str) ++ t
theorem letN_ok : ∀ b ∈ List.range 26, ∀ n ∈ List.range 9, ∀ t ∈ tails, (letN b n t).Nodup ∧ ∀ x ∈ letN b n t, IsName x := by decide +kernel
theorem nat_of {d m : Int} {k : Nat} (h : 0 ≤ d ∧ d < m) (e : m = (k : Nat)) : ∃ b : Nat, d = (b : Nat) ∧ b < k := ⟨d.toNat, by omega, by omega⟩
theorem letter_at {j : Nat} (h : j < 26) : atI (Str.ofString "abcdefghijklmnopqrstuvwxyz").cps.toList ((j : Nat) : Int) = some (j + 97) := by
  refine atI_nat ?_
  rw [letters_list, List.getElem?_map, List.getElem?_range h]
  rfl
theorem join_one : ∀ cs : List Nat, TL.tl (Txt.join "" (cs.map fun c => (⟨#[c]⟩ : Str))) = cs := fun cs => by
  rw [TL.join_eq, TL.tl_join]
  show TL.joinL [] _ = _
  induction cs with
  | nil => rfl
  | cons c r ih =>
    cases r with
    | nil => rfl
    | cons d r =>
      show [c] ++ ([] ++ TL.joinL [] (((d :: r).map fun c => (⟨#[c]⟩ : Str)).map TL.tl)) = _
      rw [ih]
      rfl
theorem join_one_sz : ∀ cs : List Nat, ((cs.map fun c => (⟨#[c]⟩ : Str)).map (·.length)).sum = cs.length
  | [] => rfl
  | c :: r => by
    have ih := join_one_sz r
    rw [List.map_cons, List.map_cons, List.sum_cons, ih, List.length_cons]
    show 1 + _ = _
    omega
def someSigns : List Nat := TL.tl "ab Z09-,.:;/()[]{}'!~"
theorem someSigns_ok : ∀ c ∈ someSigns, (32 ≤ c ∧ c ≤ 126) ∧ c ≠ 34 ∧ c ≠ 37 := by unfold someSigns; decide +kernel
theorem someSigns_len : someSigns.length = 21 := by decide +kernel
def wordA : List Str := ["each", "number", "text", "record", "words", "put", "name", "list"]
def wordB : List Str := ["", "", "s", "x"]
theorem wordAB : ∀ a ∈ wordA, ∀ b ∈ wordB, IsWord (a ++ b) ∧ a.length + b.length ≤ 8 := by unfold wordA wordB; decide +kernel
theorem at_of_mem {xs : List Str} {j : Nat} (h : j < xs.length) : ∃ x, x ∈ xs ∧ atI (xs.map V.str) ((j : Nat) : Int) = some (V.str x) :=
  ⟨xs[j], List.getElem_mem h, atI_nat (by rw [List.getElem?_map, List.getElem?_eq_getElem h]; rfl)⟩
section
variable {P : Program} {w : World} {K : PySem.W.Frag} {mg : Str → Option Value} {base : Heap}
theorem ok_law_digit (T : Txt w K mg) : C8.Cal P w K mg base (1) "_law_digit" (spDigit) [] := by
  refine calD (tell_law_digit T) sc_law_digit bind_law_digit (fun vs H Q E h => ?_) (fun f cdv A outer s H vs Q E hr h => ?_)
  · obtain ⟨_, _, rfl, _⟩ := h
    rfl
  obtain ⟨r, m, rfl, ⟨hm, hb⟩, ⟨n, h1⟩, kk⟩ := h
  refine ⟨_, (pss_cons (ps_set (i := 2) sc_law_digit.nd rfl (by first | exact Or.inl rfl | exact Or.inr rfl) (pe_op op_mod (pe_ix ix_list (pv 0) pe_int (fun _ _ => rfl)) (pv 1)))
    (pss_cons (ps_asg (pe_op op_fdivW (pe_ix ix_list (pv 0) pe_int (fun _ _ => rfl)) (pv 1)) (pg_sub (pv 0) pe_int set_list))
    (pss_one (ps_ret (pv 2))))), ?_⟩
  have hmb : m.natAbs < 2 ^ 300 := by
    have h1 : m.natAbs < 10 ^ 70 := by omega
    exact Nat.lt_trans h1 (by decide +kernel)
  refine ⟨_, rfl, r, _, 0, _, rfl, rfl, SqL.of h1, rfl, _, rfl, _, _, rfl, rfl, hm, ?_⟩
  refine ⟨_, rfl, r, _, 0, _, rfl, rfl, SqL.of h1, rfl, _, rfl, _, _, rfl, rfl, wide_div hm hmb (by decide) (by decide), _, rfl, r, _, 0, 0, rfl, rfl, h1, rfl, ?_⟩
  exact ⟨_, rfl, kk _ _ ⟨Int.emod_nonneg _ (by omega), Int.emod_lt_of_pos _ hm⟩ (Kx.put _ rfl) ⟨_, upd_same⟩⟩
theorem ok_law_number_kind (T : Txt w K mg) : C8.Cal P w K mg base (2) "_law_number_kind" (spGen K NK) [] := by
  refine calD (tell_law_number_kind T) sc_law_number_kind bind_law_number_kind (fun vs H Q E h => ?_) (fun f cdv A outer s H vs Q E hr h => ?_)
  · obtain ⟨_, rfl, _⟩ := h
    rfl
  obtain ⟨r, rfl, hr0, kk⟩ := h
  refine ⟨_, (pss_cons (ps_set (i := 1) sc_law_number_kind.nd rfl (by first | exact Or.inl rfl | exact Or.inr rfl) (pe_ix ix_list (pe_lst (pa_cons (pe_op op_sub (C8.pe_c (ok_law_digit T) hr (by decide) (by rfl) (pa_cons (pv 0) (pa_cons pe_int pa_nil))) pe_int) (pa_cons (pe_op op_sub (C8.pe_c (ok_law_digit T) hr (by decide) (by rfl) (pa_cons (pv 0) (pa_cons (pe_op op_add (pe_op op_mul pe_int (pe_op op_pow pe_int pe_int)) pe_int) pa_nil))) (pe_op op_pow pe_int pe_int)) pa_nil))) (pe_callTy call_int1 (by rfl) T.m_int bt_int (pa_cons (pe_cmpR op_eq (C8.pe_c (ok_law_digit T) hr (by decide) (by rfl) (pa_cons (pv 0) (pa_cons pe_int pa_nil))) pe_int (nomark _)) pa_nil)) (fun _ _ => rfl)))
    (pss_cons (ps_set (i := 2) sc_law_number_kind.nd rfl (by first | exact Or.inl rfl | exact Or.inr rfl) (pe_callB (call_min2 rfl) (by rfl) T.m_min bt_min (pa_cons (pe_op op_pow pe_int pe_int) (pa_cons (pe_op op_add (pv 1) (pe_ix ix_list (pe_lst (pa_cons (C8.pe_c (ok_law_digit T) hr (by decide) (by rfl) (pa_cons (pv 0) (pa_cons pe_int pa_nil))) (pa_cons (pe_op op_pow pe_int pe_int) (pa_cons (C8.pe_c (ok_law_digit T) hr (by decide) (by rfl) (pa_cons (pv 0) (pa_cons pe_int pa_nil))) pa_nil)))) (C8.pe_c (ok_law_digit T) hr (by decide) (by rfl) (pa_cons (pv 0) (pa_cons pe_int pa_nil))) (fun _ _ => rfl))) pa_nil))))
    (pss_one (ps_ret (pe_tup (pa_cons pe_str (pa_cons (pv 1) (pa_cons (pv 2) pa_nil)))))))), ?_⟩
  have pw : CPow 10 30 := ⟨by decide, by decide, by decide⟩
  refine ⟨_, rfl, r, 12, rfl, by decide +kernel, hr0, fun d1 H1 b1 e1 hr1 => ⟨_, _, rfl, rfl, ?_⟩⟩
  refine ⟨_, rfl, _, _, rfl, rfl, pw, _, _, rfl, rfl, .inl (by decide), _, _, rfl, rfl, r, _, rfl, by decide +kernel, hr1, fun d2 H2 b2 e2 hr2 => ⟨_, _, rfl, rfl, pw, _, _, rfl, rfl, (by show 2 ≤ sizeLine; decide), fun p np => ?_⟩⟩
  have b2' : d2 < 2000000000000000000000000000001 := Int.lt_of_lt_of_le b2.2 (by decide +kernel)
  have e3 := Kx.new (M := M0) (.lst [V.int (d1 - 6), V.int (d2 - 10 ^ (30 : Int).toNat)]) np
  have hr3 := hr2.sm e3.to
  have hpr := ne_new hr2.ne np
  refine ⟨_, rfl, r, 4, rfl, by decide +kernel, hr3, fun d4 H4 b4 e4 hr4 => ⟨rfl, .inr ⟨_, rfl, ?_⟩⟩⟩
  have hp4 := e4 _ _ hpr upd_same
  have e30 : (10 : Int) ^ (30 : Int).toNat = 1000000000000000000000000000000 := by decide +kernel
  obtain ⟨low, hlow, hl1, hl2⟩ : ∃ low : Int, atI [V.int (d1 - 6), V.int (d2 - 10 ^ (30 : Int).toNat)] (if decide (V.int d4 = V.int 1) = true then 1 else 0) = some (V.int low) ∧ -1000000000000000000000000000000 ≤ low ∧ low ≤ 1000000000000000000000000000000 := by
    rw [e30]
    cases decide (V.int d4 = V.int 1) with
    | false => exact ⟨d1 - 6, rfl, by omega, by omega⟩
    | true => exact ⟨d2 - 1000000000000000000000000000000, rfl, by omega, by omega⟩
  refine ⟨p, _, _, _, rfl, rfl, SqL.of hp4, hlow, ?_⟩
  have pw2 : CPow 10 29 := ⟨by decide, by decide, by decide⟩
  refine ⟨_, _, rfl, rfl, pw, _, rfl, _, rfl, r, 9, rfl, by decide +kernel, hr4, fun d5 H5 b5 e5 hr5 => ⟨_, _, rfl, rfl, pw2, ?_⟩⟩
  refine ⟨_, rfl, r, 2, rfl, by decide +kernel, hr5, fun d6 H6 b6 e6 hr6 => ⟨(by show 3 ≤ sizeLine; decide), fun q nq => ?_⟩⟩
  have e7 := Kx.new (M := M0) (.lst [V.int d5, V.int (10 ^ (29 : Int).toNat), V.int d6]) nq
  have hr7 := hr6.sm e7.to
  have hqr := ne_new hr6.ne nq
  refine ⟨_, rfl, r, 3, rfl, by decide +kernel, hr7, fun d8 H8 b8 e8 hr8 => ?_⟩
  have hq8 := e8 _ _ hqr upd_same
  obtain ⟨j, rfl, hj⟩ := nat_of b8 (k := 3) rfl
  obtain ⟨x, hx, hx0⟩ : ∃ x : Int, atI [V.int d5, V.int (10 ^ (29 : Int).toNat), V.int d6] ((j : Nat) : Int) = some (V.int x) ∧ 0 ≤ x := by
    match j, hj with
    | 0, _ => exact ⟨d5, rfl, b5.1⟩
    | 1, _ => exact ⟨10 ^ (29 : Int).toNat, rfl, by decide +kernel⟩
    | 2, _ => exact ⟨d6, rfl, b6.1⟩
  refine ⟨q, _, _, _, rfl, rfl, SqL.of hq8, hx, _, _, rfl, rfl, _, _, rfl, ?_⟩
  refine ⟨_, rfl, _, rfl, (by show 3 ≤ sizeLine; decide), fun t nt => ?_⟩
  have e9 := Kx.new (M := M0) (.tup [V.str "number", V.int low, V.int (if low + x < 10 ^ (30 : Int).toNat then low + x else 10 ^ (30 : Int).toNat)]) nt
  have eall : Kx (M1 r) H _ := ((((((e1.trans e2).trans (Kx.same e3.to)).trans e4).trans e5).trans e6).trans (Kx.same e7.to)).trans (e8.trans (Kx.same e9.to))
  refine kk _ _ (fmt "number" [[.n low], [.n (if low + x < 10 ^ (30 : Int).toNat then low + x else 10 ^ (30 : Int).toNat)]]) _ eall (hr8.sm e9.to) (.tup (SqT.of upd_same) (.cons (.str _) (.cons (.int _) (.cons (.int _) .nil)))) ?_
  rw [e30]
  refine ⟨low, _, ?_, ?_, ?_, rfl, rfl⟩
  · rw [ten30]
    exact hl1
  · split <;> omega
  · rw [ten30]
    split <;> omega
theorem ok_law_names (T : Txt w K mg) : C8.Cal P w K mg base (2) "_law_names" (spNamesG K) [] := by
  refine calD (tell_law_names T) sc_law_names bind_law_names (fun vs H Q E h => ?_) (fun f cdv A outer s H vs Q E hr h => ?_)
  · obtain ⟨_, _, rfl, _⟩ := h
    rfl
  obtain ⟨r, n, rfl, hn, hr0, kk⟩ := h
  refine ⟨_, (pss_cons (ps_set (i := 2) sc_law_names.nd rfl (by first | exact Or.inl rfl | exact Or.inr rfl) (C8.pe_c (ok_law_digit T) hr (by decide) (by rfl) (pa_cons (pv 0) (pa_cons pe_int pa_nil))))
    (pss_cons (ps_set (i := 3) sc_law_names.nd rfl (by first | exact Or.inl rfl | exact Or.inr rfl) (pe_ix ix_list (pe_lst (pa_cons pe_str (pa_cons pe_str (pa_cons pe_str (pa_cons pe_str pa_nil))))) (C8.pe_c (ok_law_digit T) hr (by decide) (by rfl) (pa_cons (pv 0) (pa_cons pe_int pa_nil))) (fun _ _ => rfl)))
    (pss_cons (ps_set (i := 4) sc_law_names.nd rfl (by first | exact Or.inl rfl | exact Or.inr rfl) (C8.pe_c (ok_law_digit T) hr (by decide) (by rfl) (pa_cons (pv 0) (pa_cons pe_int pa_nil))))
    (pss_cons (ps_if (pt_cmpR op_eq (pv 4) pe_int (nomark _))
      (pss_one (ps_ret (pe_lc (own := [("k", 6)]) (by rfl) sc_law_names.nd (pi_range1 (by rfl) T.m_range (pa_cons (pv 1) pa_nil)) (blkOk_by (own := [("k", 6)]) (N := ["row", "many", "base", "tail", "way", "words", "k"]) (sc := defScope s_law_names) (by decide +kernel)) (fun _ _ _ _ _ => (pg_name (i := 6) sc_law_names.nd rfl (by first | exact Or.inl rfl | exact Or.inr rfl))) (fun _ _ _ _ _ => pts_nil) (fun _ _ _ _ _ => (pe_slice sl_str pe_str po_none (po_some (pe_op op_add (pv 6) pe_int)))))))
      pss_nil)
    (pss_cons (ps_if (pt_cmpR op_eq (pv 4) pe_int (nomark _))
      (pss_cons (ps_set (i := 5) sc_law_names.nd rfl (by first | exact Or.inl rfl | exact Or.inr rfl) (pe_lst (pa_cons pe_str (pa_cons pe_str (pa_cons pe_str (pa_cons pe_str (pa_cons pe_str (pa_cons pe_str (pa_cons pe_str (pa_cons pe_str pa_nil))))))))))
      (pss_one (ps_ret (pe_callB cr_sortedS (by rfl) T.m_sorted bt_sorted (pa_cons (pe_lc (own := [("k", 6)]) (by rfl) sc_law_names.nd (pi_range1 (by rfl) T.m_range (pa_cons (pv 1) pa_nil)) (blkOk_by (own := [("k", 6)]) (N := ["row", "many", "base", "tail", "way", "words", "k"]) (sc := defScope s_law_names) (by decide +kernel)) (fun _ _ _ _ _ => (pg_name (i := 6) sc_law_names.nd rfl (by first | exact Or.inl rfl | exact Or.inr rfl))) (fun _ _ _ _ _ => pts_nil) (fun _ _ _ _ _ => (pe_ix (show IxR _ (rIxL K) from ix_list) (pv 5) (pe_op op_mod (pe_op op_add (pv 2) (pv 6)) pe_int) (fun _ _ => rfl)))) pa_nil)))))
      pss_nil)
    (pss_one (ps_ret (pe_callB cr_sortedS (by rfl) T.m_sorted bt_sorted (pa_cons (pe_lc (own := [("k", 6)]) (by rfl) sc_law_names.nd (pi_range1 (by rfl) T.m_range (pa_cons (pv 1) pa_nil)) (blkOk_by (own := [("k", 6)]) (N := ["row", "many", "base", "tail", "way", "words", "k"]) (sc := defScope s_law_names) (by decide +kernel)) (fun _ _ _ _ _ => (pg_name (i := 6) sc_law_names.nd rfl (by first | exact Or.inl rfl | exact Or.inr rfl))) (fun _ _ _ _ _ => pts_nil) (fun _ _ _ _ _ => (pe_op op_add_str (pe_ix ix_str pe_str (pe_op op_mod (pe_op op_add (pv 2) (pe_op op_mul pe_int (pv 6))) pe_int) (fun _ _ => rfl)) (pv 3)))) pa_nil))))))))), ?_⟩
  have hn9 : n ∈ List.range 9 := List.mem_range.mpr (by omega)
  have hz := sizeL
  refine ⟨_, rfl, r, 26, rfl, by decide +kernel, hr0, fun d1 H1 b1 e1 hr1 => ?_⟩
  obtain ⟨b, rfl, hb⟩ := nat_of b1 (k := 26) rfl
  have hb9 : b ∈ List.range 26 := List.mem_range.mpr hb
  refine ⟨(by show 4 ≤ sizeLine; decide), fun p np => ?_⟩
  have e2 := Kx.new (M := M0) (.lst (tails.map V.str)) np
  refine ⟨_, rfl, r, 4, rfl, by decide +kernel, hr1.sm e2.to, fun d3 H3 b3 e3 hr3 => ?_⟩
  obtain ⟨j, rfl, hj⟩ := nat_of b3 (k := 4) rfl
  have hp3 := e3 _ _ (ne_new hr1.ne np) upd_same
  obtain ⟨t, ht, hta⟩ := at_of_mem (xs := tails) (j := j) hj
  refine ⟨p, _, _, _, rfl, rfl, SqL.of hp3, hta, ?_⟩
  refine ⟨_, rfl, r, 5, rfl, by decide +kernel, hr3, fun d4 H4 b4 e4 hr4 => ?_⟩
  have eall : Kx (M1 r) H H4 := ((e1.trans (Kx.same e2.to)).trans e3).trans e4
  have free : ∀ {q : Addr}, H4 q = none → H q = none := fun {q} h => eall.free (ne_new hr4.ne h) h
  refine ⟨_, rfl, rfl, _, rfl, ?_⟩
  by_cases hw1 : V.int d4 = V.int 1
  · refine if_t (decide_eq_true hw1) ?_
    refine ⟨_, rfl, _, rfl, by omega, by omega, fun D nD => ?_⟩
    rw [Int.toNat_natCast]
    refine lcP walk_range (fun i => V.str (cutS "abcdefgh" none (some ((i : Int) + 1)))) nD (by rw [hz]; omega) (fun _ _ => True.intro) (fun i v H5 H6 Q1 hi e5 y k1 => ?_) (fun H5 e5 hD => ?_)
    · obtain ⟨rfl, rfl⟩ := y
      refine ⟨rfl, _, rfl, _, _, rfl, rfl, _, rfl, "abcdefgh", rfl, (by decide), ?_⟩
      rw [Int.zero_add]
      exact k1 _ (Same.refl _)
    · obtain ⟨g1, g2⟩ := preN_ok n hn9
      refine kk D (preN n) H5 (eall.trans (Kx.same e5)) (hr4.sm e5) (free nD) (ne_new hr4.ne nD) ?_ (by unfold preN; rw [List.length_map, List.length_range]) g1 g2
      rw [hD]
      unfold preN
      rw [List.map_map]
      rfl
  · refine if_f (decide_eq_false hw1) ?_
    refine ⟨_, rfl, rfl, _, rfl, ?_⟩
    by_cases hw2 : V.int d4 = V.int 2
    · refine if_t (decide_eq_true hw2) ?_
      refine ⟨(by show 8 ≤ sizeLine; decide), fun p2 np2 => ?_⟩
      have e5 := Kx.new (M := M0) (.lst (eightW.map V.str)) np2
      have hr5 := hr4.sm e5.to
      have hp2 : (upd H4 p2 (.lst (eightW.map V.str))) p2 = some (.lst (eightW.map V.str)) := upd_same
      refine ⟨_, rfl, _, rfl, by omega, by omega, fun D nD => ?_⟩
      rw [Int.toNat_natCast]
      refine lcP walk_range (fun i => V.str (eightW.getD ((b + i) % 8) "a")) nD (by rw [hz]; omega) (fun _ _ => True.intro) (fun i v H6 H7 Q1 hi e6 y k1 => ?_) (fun H6 e6 hD => ?_)
      · obtain ⟨rfl, rfl⟩ := y
        refine ⟨rfl, _, rfl, _, rfl, _, rfl, _, _, rfl, rfl, _, _, rfl, rfl, (by show (0 : Int) < 8; decide), p2, _, _, _, rfl, rfl, SqL.of (e6 _ _ hp2), ?_, k1 _ (Same.refl _)⟩
        have ei : (((b : Nat) : Int) + (0 + (i : Nat))) % 8 = (((b + i) % 8 : Nat) : Int) := by omega
        rw [ei]
        refine atI_nat ?_
        have hlt : (b + i) % 8 < eightW.length := Nat.mod_lt _ (by decide)
        rw [List.getElem?_map, List.getElem?_eq_getElem hlt]
        show some (V.str _) = _
        rw [List.getD_eq_getElem?_getD, List.getElem?_eq_getElem hlt]
        rfl
      · obtain ⟨g1, g2⟩ := eightN_ok b hb9 n hn9
        have hlen : (eightN b n).length = n := by unfold eightN; rw [List.length_map, List.length_range]
        have hD' : H6 D = some (.lst ((eightN b n).map V.str)) := by
          rw [hD]
          unfold eightN
          rw [List.map_map]
          rfl
        refine ⟨D, eightN b n, rfl, SqL.of hD', by omega, fun ys q hperm hsort nq => ?_⟩
        have e7 := Kx.new (M := M0) (.lst (ys.map V.str)) nq
        have nq4 : H4 q = none := (e5.to.trans e6).free nq
        exact kk q ys _ (eall.trans (Kx.same ((e5.to.trans e6).trans e7.to))) (hr4.sm ((e5.to.trans e6).trans e7.to)) (free nq4) (ne_new hr4.ne nq4) upd_same (hperm.length_eq.trans hlen) (sorted_lt (sortedS_le hsort) (hperm.nodup_iff.mpr g1)) fun x hx => g2 x (hperm.mem_iff.mp hx)
    · refine if_f (decide_eq_false hw2) ?_
      refine ⟨_, rfl, _, rfl, by omega, by omega, fun D nD => ?_⟩
      rw [Int.toNat_natCast]
      have ht8 : t.length ≤ 7 := by
        have z : ∀ t ∈ tails, t.length ≤ 7 := by unfold tails; decide +kernel
        exact z t ht
      refine lcP walk_range (fun k => V.str ((⟨#[(b + 7 * k) % 26 + 97]⟩ : Str) ++ t)) nD (by rw [hz]; omega) (fun _ _ => True.intro) (fun i v H6 H7 Q1 hi e6 y k1 => ?_) (fun H6 e6 hD => ?_)
      · obtain ⟨rfl, rfl⟩ := y
        have ei : (((b : Nat) : Int) + 7 * (0 + (i : Nat))) % 26 = (((b + 7 * i) % 26 : Nat) : Int) := by omega
        refine ⟨rfl, _, rfl, _, rfl, _, _, rfl, rfl, .inl (by decide), _, _, rfl, rfl, _, _, rfl, rfl, (by show (0 : Int) < 26; decide), _, _, _, rfl, rfl, (by decide), (by rw [ei]; exact letter_at (Nat.mod_lt _ (by decide))), _, rfl, _, _, rfl, rfl, ?_, k1 _ (Same.refl _)⟩
        show 1 + t.length ≤ _
        omega
      · obtain ⟨g1, g2⟩ := letN_ok b hb9 n hn9 t ht
        have hlen : (letN b n t).length = n := by unfold letN; rw [List.length_map, List.length_range]
        have hD' : H6 D = some (.lst ((letN b n t).map V.str)) := by
          rw [hD]
          unfold letN
          rw [List.map_map]
          rfl
        refine ⟨D, letN b n t, rfl, SqL.of hD', by omega, fun ys q hperm hsort nq => ?_⟩
        have e7 := Kx.new (M := M0) (.lst (ys.map V.str)) nq
        have nq4 : H4 q = none := e6.free nq
        exact kk q ys _ (eall.trans (Kx.same (e6.trans e7.to))) (hr4.sm (e6.trans e7.to)) (free nq4) (ne_new hr4.ne nq4) upd_same (hperm.length_eq.trans hlen) (sorted_lt (sortedS_le hsort) (hperm.nodup_iff.mpr g1)) fun x hx => g2 x (hperm.mem_iff.mp hx)
theorem ok_law_text (T : Txt w K mg) : C8.Cal P w K mg base (2) "_law_text" (spTextG) [] := by
  refine calD (tell_law_text T) sc_law_text bind_law_text (fun vs H Q E h => ?_) (fun f cdv A outer s H vs Q E hr h => ?_)
  · obtain ⟨_, _, rfl, _⟩ := h
    rfl
  obtain ⟨r, m, rfl, hm, hr0, kk⟩ := h
  refine ⟨_, (pss_cons (ps_set (i := 2) sc_law_text.nd rfl (by first | exact Or.inl rfl | exact Or.inr rfl) pe_str)
    (pss_one (ps_ret (pe_join pe_str (pe_lc (own := [("k", 3)]) (by rfl) sc_law_text.nd (pi_range1 (by rfl) T.m_range (pa_cons (C8.pe_c (ok_law_digit T) hr (by decide) (by rfl) (pa_cons (pv 0) (pa_cons (pe_op op_add (pv 1) pe_int) pa_nil))) pa_nil)) (blkOk_by (own := [("k", 3)]) (N := ["row", "most", "signs", "k"]) (sc := defScope s_law_text) (by decide +kernel)) (fun _ _ _ _ _ => (pg_name (i := 3) sc_law_text.nd rfl (by first | exact Or.inl rfl | exact Or.inr rfl))) (fun _ _ _ _ _ => pts_nil) (fun _ _ _ _ _ => (pe_ix ix_str (pv 2) (C8.pe_c (ok_law_digit T) hr (by decide) (by rfl) (pa_cons (pv 0) (pa_cons (pe_callB call_len_str (by rfl) T.m_len bt_len (pa_cons (pv 2) pa_nil)) pa_nil))) (fun _ _ => rfl)))))))), ?_⟩
  have hz := sizeL
  refine ⟨⟨_, rfl⟩, _, rfl, _, rfl, _, _, rfl, rfl, r, m + 1, rfl, ⟨by omega, by omega⟩, hr0, fun d1 H1 b1 e1 hr1 => ?_⟩
  refine ⟨_, rfl, by omega, by omega, fun D nD => ?_⟩
  have nD0 : H D = none := e1.free (ne_new hr1.ne nD) nD
  refine lcS walk_range (fun i acc H' => Kx (M1 r) H H' ∧ Rw H' r ∧ ∃ cs : List Nat, acc = cs.map (fun c => V.str ⟨#[c]⟩) ∧ ∀ c ∈ cs, c ∈ someSigns) (by omega) ⟨e1.trans (Kx.same (Kx.new (M := M0) _ nD).to), hr1.sm (Kx.new (M := M0) _ nD).to, [], rfl, (fun c h => nomatch h)⟩ (fun _ _ _ _ _ => True.intro) (fun i acc v H2 H3 Q1 hi hl hD hI y k1 => ?_) (fun acc H2 hl hD hI => ?_)
  · obtain ⟨rfl, rfl⟩ := y
    obtain ⟨e2, hr2, cs, rfl, hcs⟩ := hI
    refine ⟨rfl, _, rfl, _, rfl, _, rfl, _, rfl, (by decide), r, _, rfl, by decide +kernel, hr2, fun d4 H4 b4 e4 hr4 => ?_⟩
    obtain ⟨j, rfl, hj⟩ := nat_of b4 (k := 21) (by decide +kernel)
    have hj2 : j < someSigns.length := by rw [someSigns_len]; exact hj
    refine ⟨_, _, someSigns[j], rfl, rfl, (by decide), atI_nat (List.getElem?_eq_getElem hj2), ?_⟩
    have hDr : ¬ M1 r D := ne_new hr0.ne nD0
    refine k1 _ _ (e4 _ _ hDr hD) ⟨Kx.mut (e2.trans e4) _ nD0, hr4.kx (Kx.put (M := M1 D) _ rfl) (fun q => hDr (show D = r from (show r = D from q).symm)), cs ++ [someSigns[j]], ?_, fun c hc => ?_⟩
    · rw [List.map_append]
      rfl
    · rcases List.mem_append.mp hc with hc | hc
      · exact hcs c hc
      · rw [List.mem_singleton.mp hc]
        exact List.getElem_mem hj2
  · obtain ⟨e2, hr2, cs, rfl, hcs⟩ := hI
    have hlc : cs.length = d1.toNat := by
      rw [List.length_map] at hl
      exact hl
    refine ⟨_, D, cs.map fun c => ⟨#[c]⟩, rfl, rfl, .inl (SqL.of (by rw [hD, List.map_map]; rfl)), ?_, ?_⟩
    · rw [join_one_sz]
      show _ + _ * 0 ≤ _
      omega
    · refine kk _ _ e2 hr2 ⟨?_, fun c hc => ?_⟩
      · rw [TL.len_tl, join_one]
        omega
      · rw [join_one] at hc
        exact someSigns_ok c (hcs c hc)
theorem ok_law_word (T : Txt w K mg) : C8.Cal P w K mg base (2) "_law_word" (spWordG) [] := by
  refine calD (tell_law_word T) sc_law_word bind_law_word (fun vs H Q E h => ?_) (fun f cdv A outer s H vs Q E hr h => ?_)
  · obtain ⟨_, rfl, _⟩ := h
    rfl
  obtain ⟨r, rfl, hr0, kk⟩ := h
  refine ⟨_, (pss_cons (ps_if (pt_cmpR op_eq (C8.pe_c (ok_law_digit T) hr (by decide) (by rfl) (pa_cons (pv 0) (pa_cons pe_int pa_nil))) pe_int (nomark _))
      (pss_cons (ps_set (i := 1) sc_law_word.nd rfl (by first | exact Or.inl rfl | exact Or.inr rfl) (pe_ix ix_list (pe_lst (pa_cons pe_str (pa_cons pe_str (pa_cons pe_str (pa_cons pe_str (pa_cons pe_str (pa_cons pe_str (pa_cons pe_str (pa_cons pe_str pa_nil))))))))) (C8.pe_c (ok_law_digit T) hr (by decide) (by rfl) (pa_cons (pv 0) (pa_cons pe_int pa_nil))) (fun _ _ => rfl)))
      (pss_one (ps_ret (pe_op op_add_str (pv 1) (pe_ix ix_list (pe_lst (pa_cons pe_str (pa_cons pe_str (pa_cons pe_str (pa_cons pe_str pa_nil))))) (C8.pe_c (ok_law_digit T) hr (by decide) (by rfl) (pa_cons (pv 0) (pa_cons pe_int pa_nil))) (fun _ _ => rfl))))))
      pss_nil)
    (pss_one (ps_ret (pe_join pe_str (pe_lc (own := [("k", 2)]) (by rfl) sc_law_word.nd (pi_range1 (by rfl) T.m_range (pa_cons (pe_op op_add pe_int (C8.pe_c (ok_law_digit T) hr (by decide) (by rfl) (pa_cons (pv 0) (pa_cons pe_int pa_nil)))) pa_nil)) (blkOk_by (own := [("k", 2)]) (N := ["row", "word", "k"]) (sc := defScope s_law_word) (by decide +kernel)) (fun _ _ _ _ _ => (pg_name (i := 2) sc_law_word.nd rfl (by first | exact Or.inl rfl | exact Or.inr rfl))) (fun _ _ _ _ _ => pts_nil) (fun _ _ _ _ _ => (pe_ix ix_str pe_str (C8.pe_c (ok_law_digit T) hr (by decide) (by rfl) (pa_cons (pv 0) (pa_cons pe_int pa_nil))) (fun _ _ => rfl)))))))), ?_⟩
  have hz := sizeL
  refine ⟨_, rfl, r, 6, rfl, by decide +kernel, hr0, fun d1 H1 b1 e1 hr1 => ⟨rfl, _, rfl, ?_⟩⟩
  by_cases hw : V.int d1 = V.int 0
  · refine if_t (decide_eq_true hw) ?_
    refine ⟨(by show 8 ≤ sizeLine; decide), fun p np => ?_⟩
    have e2 := Kx.new (M := M0) (.lst (wordA.map V.str)) np
    refine ⟨_, rfl, r, 8, rfl, by decide +kernel, hr1.sm e2.to, fun d3 H3 b3 e3 hr3 => ?_⟩
    obtain ⟨j, rfl, hj⟩ := nat_of b3 (k := 8) rfl
    have hp3 := e3 _ _ (ne_new hr1.ne np) upd_same
    obtain ⟨a, ha, haa⟩ := at_of_mem (xs := wordA) (j := j) hj
    refine ⟨p, _, _, _, rfl, rfl, SqL.of hp3, haa, ?_⟩
    refine ⟨_, rfl, (by show 4 ≤ sizeLine; decide), fun q nq => ?_⟩
    have e4 := Kx.new (M := M0) (.lst (wordB.map V.str)) nq
    refine ⟨_, rfl, r, 4, rfl, by decide +kernel, hr3.sm e4.to, fun d5 H5 b5 e5 hr5 => ?_⟩
    obtain ⟨j2, rfl, hj2⟩ := nat_of b5 (k := 4) rfl
    have hq5 := e5 _ _ (ne_new hr3.ne nq) upd_same
    obtain ⟨c, hc, hca⟩ := at_of_mem (xs := wordB) (j := j2) hj2
    obtain ⟨g1, g2⟩ := wordAB a ha c hc
    refine ⟨q, _, _, _, rfl, rfl, SqL.of hq5, hca, _, _, rfl, rfl, by omega, ?_⟩
    exact kk _ _ ((((e1.trans (Kx.same e2.to)).trans e3).trans (Kx.same e4.to)).trans e5) hr5 g1
  · refine if_f (decide_eq_false hw) ?_
    refine ⟨⟨_, rfl⟩, _, rfl, r, 8, rfl, by decide +kernel, hr1, fun d2 H2 b2 e2 hr2 => ⟨_, _, rfl, rfl, ?_⟩⟩
    refine ⟨_, rfl, by omega, by omega, fun D nD => ?_⟩
    have nD0 : H D = none := (e1.trans e2).free (ne_new hr2.ne nD) nD
    have hDr : ¬ M1 r D := ne_new hr0.ne nD0
    refine lcS walk_range (fun i acc H' => Kx (M1 r) H H' ∧ Rw H' r ∧ ∃ cs : List Nat, acc = cs.map (fun c => V.str ⟨#[c]⟩) ∧ ∀ c ∈ cs, 97 ≤ c ∧ c ≤ 122) (by omega) ⟨(e1.trans e2).trans (Kx.same (Kx.new (M := M0) _ nD).to), hr2.sm (Kx.new (M := M0) _ nD).to, [], rfl, (fun c h => nomatch h)⟩ (fun _ _ _ _ _ => True.intro) (fun i acc v H3 H4 Q1 hi hl hD hI y k1 => ?_) (fun acc H3 hl hD hI => ?_)
    · obtain ⟨rfl, rfl⟩ := y
      obtain ⟨e3, hr3, cs, rfl, hcs⟩ := hI
      refine ⟨rfl, _, rfl, r, 26, rfl, by decide +kernel, hr3, fun d4 H4 b4 e4 hr4 => ?_⟩
      obtain ⟨j, rfl, hj⟩ := nat_of b4 (k := 26) rfl
      refine ⟨_, _, _, rfl, rfl, (by decide), letter_at hj, ?_⟩
      refine k1 _ _ (e4 _ _ hDr hD) ⟨Kx.mut (e3.trans e4) _ nD0, hr4.kx (Kx.put (M := M1 D) _ rfl) (fun q => hDr (show D = r from (show r = D from q).symm)), cs ++ [j + 97], ?_, fun c hc => ?_⟩
      · rw [List.map_append]
        rfl
      · rcases List.mem_append.mp hc with hc | hc
        · exact hcs c hc
        · rw [List.mem_singleton.mp hc]
          omega
    · obtain ⟨e3, hr3, cs, rfl, hcs⟩ := hI
      have hlc : cs.length = (1 + d2).toNat := by
        rw [List.length_map] at hl
        exact hl
      refine ⟨_, D, cs.map fun c => ⟨#[c]⟩, rfl, rfl, .inl (SqL.of (by rw [hD, List.map_map]; rfl)), ?_, ?_⟩
      · rw [join_one_sz]
        show _ + _ * 0 ≤ _
        omega
      · refine kk _ _ e3 hr3 ⟨?_, fun c hc => ?_⟩
        · rw [TL.len_tl, join_one]
          omega
        · rw [join_one] at hc
          exact hcs c hc
theorem ok_law_any_number (T : Txt w K mg) : C8.Cal P w K mg base (2) "_law_any_number" (spNumG) [] := by
  refine calD (tell_law_any_number T) sc_law_any_number bind_law_any_number (fun vs H Q E h => ?_) (fun f cdv A outer s H vs Q E hr h => ?_)
  · obtain ⟨_, rfl, _⟩ := h
    rfl
  obtain ⟨r, rfl, hr0, kk⟩ := h
  refine ⟨_, (pss_cons (ps_if (pt_cmpR op_eq (C8.pe_c (ok_law_digit T) hr (by decide) (by rfl) (pa_cons (pv 0) (pa_cons pe_int pa_nil))) pe_int (nomark _))
      (pss_one (ps_ret (pe_op op_add (pe_op op_sub (C8.pe_c (ok_law_digit T) hr (by decide) (by rfl) (pa_cons (pv 0) (pa_cons (pe_op op_sub (pe_op op_mul pe_int (pe_op op_pow pe_int pe_int)) pe_int) pa_nil))) (pe_op op_pow pe_int pe_int)) pe_int)))
      pss_nil)
    (pss_one (ps_ret (pe_op op_sub (C8.pe_c (ok_law_digit T) hr (by decide) (by rfl) (pa_cons (pv 0) (pa_cons pe_int pa_nil))) pe_int)))), ?_⟩
  have pw : CPow 10 60 := ⟨by decide, by decide, by decide⟩
  have e60 : (10 : Int) ^ (60 : Int).toNat = 1000000000000000000000000000000000000000000000000000000000000 := by decide +kernel
  have e60' : (10 : Int) ^ 60 = 1000000000000000000000000000000000000000000000000000000000000 := by decide +kernel
  refine ⟨_, rfl, r, 3, rfl, by decide +kernel, hr0, fun d1 H1 b1 e1 hr1 => ⟨rfl, _, rfl, ?_⟩⟩
  by_cases hw : V.int d1 = V.int 0
  · refine if_t (decide_eq_true hw) ?_
    refine ⟨_, rfl, _, _, rfl, rfl, pw, _, _, rfl, rfl, .inl (by decide), _, _, rfl, rfl, r, _, rfl, by decide +kernel, hr1, fun d2 H2 b2 e2 hr2 => ⟨_, _, rfl, rfl, pw, _, _, rfl, rfl, _, _, rfl, rfl, ?_⟩⟩
    have b2' : d2 < 1999999999999999999999999999999999999999999999999999999999999 := Int.lt_of_lt_of_le b2.2 (by decide +kernel)
    refine kk _ _ (e1.trans e2) hr2 ⟨?_, ?_⟩
    · rw [e60']
      show _ < d2 - 10 ^ (60 : Int).toNat + 1
      rw [e60]
      omega
    · rw [e60']
      show d2 - 10 ^ (60 : Int).toNat + 1 < _
      rw [e60]
      omega
  · refine if_f (decide_eq_false hw) ?_
    refine ⟨_, rfl, r, 40, rfl, by decide +kernel, hr1, fun d2 H2 b2 e2 hr2 => ⟨_, _, rfl, rfl, ?_⟩⟩
    exact kk _ _ (e1.trans e2) hr2 (num_small (by rw [ten30]; show _ ≤ d2 - 20; omega) (by rw [ten30]; show d2 - 20 ≤ _; omega))
end
end OH
end

section
set_option Elab.async false
set_option linter.all false
set_option maxRecDepth 100000
set_option maxHeartbeats 4000000
set_option autoImplicit false
namespace OH
open PySem PySem.Spec PyProof.Rows L2
def spKindG (K : PySem.W.Frag) (N : Nat) : Sp := fun vs H Q _ => ∃ (r m : Addr) (n : Nat) (deep a : Int), vs = [.ref r, .int deep, .ref m] ∧ deep = (n : Nat) ∧ r ≠ m ∧ 1 ≤ n ∧ n ≤ N ∧ Rw H r ∧ H m = some (.lst [.int a]) ∧
  ∀ v d ts c a' H', Kx (M2 r m) H H' → Rw H' r → H' m = some (.lst [.int a']) → Rp K H' v d → KT n c d ts → 5 * ((c : Int) - 1) ≤ 4 * (max a 0 - max a' 0) → Q v H'
def spRecG (K : PySem.W.Frag) (N lo : Nat) (w : Int) : Sp := fun vs H Q _ => ∃ (r m : Addr) (n : Nat) (deep a : Int), vs = [.ref r, .int deep, .ref m] ∧ deep = (n : Nat) ∧ r ≠ m ∧ lo ≤ n ∧ n ≤ N + 1 ∧ Rw H r ∧ H m = some (.lst [.int a]) ∧
  ∀ v d ts c a' H', Kx (M2 r m) H H' → Rw H' r → H' m = some (.lst [.int a']) → Rp K H' v d → KT n c d ts → 5 * ((c : Int) - 1) ≤ w + 4 * (max a 0 - max a' 0) → Q v H'
theorem Kx.one {H H' : Hp} {r m : Addr} (e : Kx (M1 r) H H') : Kx (M2 r m) H H' := e.wide fun a z => .inl z
section
variable {K : PySem.W.Frag} {H H1 : Hp} {r m p : Addr}
theorem nt2 {a : Int} (h : Rw H r) (hm : H m = some (.lst [.int a])) : NoT (M2 r m) H := by
  obtain ⟨n, h⟩ := h
  exact NoT.two h hm
theorem nm2 (hr : H r ≠ none) (hm : H m ≠ none) (hp : H p = none) : ¬ M2 r m p := fun z => by
  rcases z with z | z
  · rw [z] at hp
    exact hr hp
  · rw [z] at hp
    exact hm hp
theorem added2 {us : List V} {ds : List PyData} {v : V} {d : PyData} (hn : H p = none) (e : Kx (M2 r m) H H1) (hp : H1 p = some (.lst us)) (hR : RpA K H1 us ds) (hv : Rp K H1 v d) :
    Kx (M2 r m) H (upd H1 p (.lst (us ++ [v]))) ∧ RpA K (upd H1 p (.lst (us ++ [v]))) (us ++ [v]) (ds ++ [d]) := by
  have hm : Kx (M1 p) H1 (upd H1 p (.lst (us ++ [v]))) := Kx.put _ rfl
  exact ⟨Kx.mut e _ hn, (hR.snoc hv).kx hm (NoT.one hp)⟩
end
/-- the state of the fields as they are made -/
structure FS (K : PySem.W.Frag) (n : Nat) (a : Int) (H : Hp) (m p : Addr) (xs : List Str) (i : Nat) (key : Option Str) : Prop where
  ex : ∃ (a1 : Int) (fs : List Fld) (us : List V), H m = some (.lst [.int a1]) ∧ fs.map (·.x) = xs.take i ∧ fs.length = i ∧ (∀ f ∈ fs, KT n f.c f.k f.ts) ∧ 5 * (((fs.map (·.c)).sum : Nat) - (i : Int)) ≤ 4 * (max a 0 - max a1 0) ∧ H p = some (.lst us) ∧ RpA K H us (fs.map fun f => pairD f.x f.k) ∧
    (∀ f ∈ fs, key = some f.x → ∃ z r, f.k = .tuple (.str z :: r) ∧ (z = "number" ∨ z = "text"))
section
variable {P : Program} {w : World} {K : PySem.W.Frag} {mg : Str → Option Value} {base : Heap}
theorem ok_law_leaf_kind (T : Txt w K mg) : C8.Cal P w K mg base (3) "_law_leaf_kind" (spGen K LK) [] := by
  refine calD (tell_law_leaf_kind T) sc_law_leaf_kind bind_law_leaf_kind (fun vs H Q E h => ?_) (fun f cdv A outer s H vs Q E hr h => ?_)
  · obtain ⟨_, rfl, _⟩ := h
    rfl
  obtain ⟨r, rfl, hr0, kk⟩ := h
  refine ⟨_, (pss_cons (ps_set (i := 1) sc_law_leaf_kind.nd rfl (by first | exact Or.inl rfl | exact Or.inr rfl) (C8.pe_c (ok_law_digit T) hr (by decide) (by rfl) (pa_cons (pv 0) (pa_cons pe_int pa_nil))))
    (pss_cons (ps_if (pt_cmpR op_eq (pv 1) pe_int (nomark _))
      (pss_one (ps_ret (C8.pe_c (ok_law_number_kind T) hr (by decide) (by rfl) (pa_cons (pv 0) pa_nil))))
      pss_nil)
    (pss_cons (ps_if (pt_cmpR op_eq (pv 1) pe_int (nomark _))
      (pss_one (ps_ret (pe_tup (pa_cons pe_str (pa_cons (pe_ix ix_list (pe_lst (pa_cons (C8.pe_c (ok_law_digit T) hr (by decide) (by rfl) (pa_cons (pv 0) (pa_cons pe_int pa_nil))) (pa_cons (C8.pe_c (ok_law_digit T) hr (by decide) (by rfl) (pa_cons (pv 0) (pa_cons pe_int pa_nil))) pa_nil))) (C8.pe_c (ok_law_digit T) hr (by decide) (by rfl) (pa_cons (pv 0) (pa_cons pe_int pa_nil))) (fun _ _ => rfl)) pa_nil)))))
      pss_nil)
    (pss_cons (ps_set (i := 2) sc_law_leaf_kind.nd rfl (by first | exact Or.inl rfl | exact Or.inr rfl) (C8.pe_c (ok_law_names T) hr (by decide) (by rfl) (pa_cons (pv 0) (pa_cons (pe_op op_add pe_int (C8.pe_c (ok_law_digit T) hr (by decide) (by rfl) (pa_cons (pv 0) (pa_cons pe_int pa_nil)))) pa_nil))))
    (pss_cons (ps_if (pt_cmpR op_eq (C8.pe_c (ok_law_digit T) hr (by decide) (by rfl) (pa_cons (pv 0) (pa_cons pe_int pa_nil))) pe_int (nomark _))
      (pss_one (ps_expr (pe_bm0 PySem.F.plainAttrs_list PySem.F.slot_list_reverse PySem.F.type_list_reverse mt_reverse (pv 2))))
      pss_nil)
    (pss_one (ps_ret (pe_tup (pa_cons pe_str (pa_cons (pe_callTy call_tuple_of (by rfl) T.m_tuple bt_tuple (pa_cons (pv 2) pa_nil)) pa_nil)))))))))), ?_⟩
  refine ⟨_, rfl, r, 3, rfl, by decide +kernel, hr0, fun d1 H1 b1 e1 hr1 => ?_⟩
  refine ⟨_, rfl, rfl, _, rfl, ?_⟩
  by_cases w1 : V.int d1 = V.int 0
  · refine if_t (decide_eq_true w1) ?_
    exact ⟨_, rfl, r, rfl, hr1, fun v d ts H2 e2 hr2 hv hd => kk v d ts H2 (e1.trans e2) hr2 hv hd.lk⟩
  refine if_f (decide_eq_false w1) ⟨_, rfl, rfl, _, rfl, ?_⟩
  by_cases w2 : V.int d1 = V.int 1
  · refine if_t (decide_eq_true w2) ?_
    refine ⟨_, rfl, r, 4, rfl, by decide +kernel, hr1, fun d2 H2 b2 e2 hr2 => ⟨_, rfl, r, 61, rfl, by decide +kernel, hr2, fun d3 H3 b3 e3 hr3 => ⟨(by show 2 ≤ sizeLine; decide), fun p np => ?_⟩⟩⟩
    have e4 := Kx.new (M := M0) (.lst [V.int d2, V.int d3]) np
    refine ⟨_, rfl, r, 2, rfl, by decide +kernel, hr3.sm e4.to, fun d5 H5 b5 e5 hr5 => ?_⟩
    have hp5 := e5 _ _ (ne_new hr3.ne np) upd_same
    obtain ⟨j, rfl, hj⟩ := nat_of b5 (k := 2) rfl
    obtain ⟨x, hx, hx0, hx1⟩ : ∃ x : Int, atI [V.int d2, V.int d3] ((j : Nat) : Int) = some (V.int x) ∧ 0 ≤ x ∧ x ≤ 60 := by
      match j, hj with
      | 0, _ => exact ⟨d2, rfl, b2.1, by omega⟩
      | 1, _ => exact ⟨d3, rfl, b3.1, by omega⟩
    refine ⟨p, _, _, _, rfl, rfl, SqL.of hp5, hx, (by show 2 ≤ sizeLine; decide), fun t nt => ?_⟩
    have e6 := Kx.new (M := M0) (.tup [V.str "text", V.int x]) nt
    exact kk _ _ _ _ (((((e1.trans e2).trans e3).trans (Kx.same e4.to)).trans e5).trans (Kx.same e6.to)) (hr5.sm e6.to) (.tup (SqT.of upd_same) (.cons (.str _) (.cons (.int _) .nil))) (lk_text hx0 hx1)
  refine if_f (decide_eq_false w2) ?_
  refine ⟨_, rfl, _, rfl, r, 8, rfl, by decide +kernel, hr1, fun d2 H2 b2 e2 hr2 => ⟨_, _, rfl, rfl, ?_⟩⟩
  obtain ⟨b, rfl, hb⟩ := nat_of b2 (k := 8) rfl
  refine ⟨r, 1 + b, rfl, by omega, hr2, fun p xs H3 e3 hr3 np hpr hp hlen hpw hnm => ?_⟩
  have np0 : H p = none := (e1.trans e2).free (fun z => hpr z) np
  refine ⟨_, rfl, r, 2, rfl, by decide +kernel, hr3, fun d4 H4 b4 e4 hr4 => ⟨rfl, _, rfl, ?_⟩⟩
  have hp4 := e4 _ _ (fun z => hpr z) hp
  have e14 := ((e1.trans e2).trans e3).trans e4
  have hnd := lt_nodup hpw
  by_cases w3 : V.int d4 = V.int 1
  · refine if_t (decide_eq_true w3) ?_
    refine ⟨_, rfl, .inl ⟨rfl, _, SqL.of hp4⟩, p, _, rfl, rfl, hp4, ?_⟩
    refine ⟨_, rfl, p, xs.reverse.map V.str, rfl, .inl ⟨SqL.of (by rw [upd_same, List.map_reverse]), fun l nl => ⟨(by show 2 ≤ sizeLine; decide), fun t nt => ?_⟩⟩⟩
    have e5 : Kx (M1 r) H (upd H4 p (.lst (xs.map V.str).reverse)) := Kx.mut e14 _ np0
    have hr5 : Rw (upd H4 p (.lst (xs.map V.str).reverse)) r := hr4.kx (Kx.put (M := M1 p) _ rfl) fun z => hpr (show r = p from z).symm
    have e6 := Kx.new (M := M0) (.tup (xs.reverse.map V.str)) nl
    have e7 := Kx.new (M := M0) (.tup [V.str "choice", V.ref l]) nt
    refine kk _ _ _ _ ((e5.trans (Kx.same e6.to)).trans (Kx.same e7.to)) ((hr5.sm e6.to).sm e7.to) (.tup (SqT.of upd_same) (.cons (.str _) (.cons (.tup (sq1 e7.to (SqT.of upd_same)) RpA.of_strs) .nil))) (lk_choice (by rw [List.length_reverse]; omega) (by rw [List.length_reverse]; omega) (List.pairwise_reverse.mpr (hnd.imp fun h => Ne.symm h)) fun x hx => hnm x (List.mem_reverse.mp hx))
  · refine if_f (decide_eq_false w3) ?_
    refine ⟨_, rfl, p, xs.map V.str, rfl, .inl ⟨SqL.of hp4, fun l nl => ⟨(by show 2 ≤ sizeLine; decide), fun t nt => ?_⟩⟩⟩
    have e6 := Kx.new (M := M0) (.tup (xs.map V.str)) nl
    have e7 := Kx.new (M := M0) (.tup [V.str "choice", V.ref l]) nt
    exact kk _ _ _ _ ((e14.trans (Kx.same e6.to)).trans (Kx.same e7.to)) ((hr4.sm e6.to).sm e7.to) (.tup (SqT.of upd_same) (.cons (.str _) (.cons (.tup (sq1 e7.to (SqT.of upd_same)) RpA.of_strs) .nil))) (lk_choice (by omega) (by omega) hnd hnm)
theorem ok_law_record_kind (T : Txt w K mg) {lv N : Nat} (hlv : 4 ≤ lv) (ih : C8.Cal P w K mg base lv "_law_kind" (spKindG K N) []) : C8.Cal P w K mg base (lv + 1) "_law_record_kind" (spRecG K N 2 15) [] := by
  refine calD (tell_law_record_kind T) sc_law_record_kind bind_law_record_kind (fun vs H Q E h => ?_) (fun f cdv A outer s H vs Q E hr h => ?_)
  · obtain ⟨_, _, _, _, _, rfl, _⟩ := h
    rfl
  obtain ⟨r, m, n, deep, a, rfl, rfl, hrm, hn2, hnN, hr0, hm0, kk⟩ := h
  refine ⟨_, (pss_cons (ps_set (i := 3) sc_law_record_kind.nd rfl (by first | exact Or.inl rfl | exact Or.inr rfl) (C8.pe_c (ok_law_digit T) hr (by omega) (by rfl) (pa_cons (pv 0) (pa_cons pe_int pa_nil))))
    (pss_cons (ps_set (i := 4) sc_law_record_kind.nd rfl (by first | exact Or.inl rfl | exact Or.inr rfl) (pe_lst pa_nil))
    (pss_cons (ps_for PassesOwn.never rfl (pi_list (C8.pe_c (ok_law_names T) hr (by omega) (by rfl) (pa_cons (pv 0) (pa_cons (pv 3) pa_nil)))) (pg_name (i := 5) sc_law_record_kind.nd rfl (by first | exact Or.inl rfl | exact Or.inr rfl))
      (pss_one (ps_expr (pe_bm PySem.F.plainAttrs_list PySem.F.slot_list_append PySem.F.type_list_append mt_append (pv 4) (pa_cons (pe_tup (pa_cons (pv 5) (pa_cons (C8.pe_c ih hr (by omega) (by rfl) (pa_cons (pv 0) (pa_cons (pe_op op_sub (pv 1) pe_int) (pa_cons (pv 2) pa_nil)))) pa_nil))) pa_nil)))))
    (pss_one (ps_ret (pe_tup (pa_cons pe_str (pa_cons (pe_callTy call_tuple_of (by rfl) T.m_tuple bt_tuple (pa_cons (pv 4) pa_nil)) pa_nil)))))))), ?_⟩
  have hz := sizeL
  obtain ⟨k, rfl⟩ : ∃ k, n = k + 2 := ⟨n - 2, by omega⟩
  have hmn : H m ≠ none := by rw [hm0]; exact fun z => nomatch z
  have hmr : ¬ M1 r m := fun z => hrm (show m = r from z).symm
  refine ⟨_, rfl, r, 4, rfl, by decide +kernel, hr0, fun d1 H1 b1 e1 hr1 => ?_⟩
  obtain ⟨b, rfl, hb⟩ := nat_of b1 (k := 4) rfl
  refine ⟨Nat.zero_le _, fun p np => ?_⟩
  have e2 := Kx.new (M := M0) (.lst []) np
  have np0 : H p = none := e1.free (ne_new hr1.ne np) np
  refine ⟨_, rfl, _, rfl, r, b, rfl, by omega, hr1.sm e2.to, fun q xs H3 e3 hr3 nq hqr hq hlen hpw hnm => ?_⟩
  have hp2 : (upd H1 p (.lst [])) p = some (.lst []) := upd_same
  have hpr : ¬ M1 r p := ne_new hr0.ne np0
  have hpm := nm2 hr0.ne hmn np0
  have hp3 := e3 _ _ hpr hp2
  have hm3 := e3 _ _ hmr (e2.to _ _ (e1 _ _ hmr hm0))
  have hqp : q ≠ p := fun z => by
    rw [z, hp2] at nq
    cases nq
  have hqm : q ≠ m := fun z => by
    rw [z, e2.to _ _ (e1 _ _ hmr hm0)] at nq
    cases nq
  have e13 : Kx (M2 r m) H H3 := ((e1.trans (Kx.same e2.to)).trans e3).one
  refine ⟨q, rfl, ⟨_, SqL.of hq⟩, ?_⟩
  refine for_it (D := { nx := _, rt := _ }) walk_list (fun i σ H' => Kx (M2 r m) H H' ∧ Rw H' r ∧ H' q = some (.lst (xs.map V.str)) ∧ FS K (k + 1) a H' m p xs i none ∧ ∃ y5, σ = [some (.ref r), some (.int ((k + 2 : Nat) : Int)), some (.ref m), some (.int ((b : Nat) : Int)), some (.ref p), y5])
    ⟨e13, hr3, hq, ⟨a, [], [], hm3, rfl, rfl, (fun f h => nomatch h), by simp, hp3, .nil, (fun f h => nomatch h)⟩, none, rfl⟩ (fun i σ H' _ hI => SqL.of hI.2.2.1) (fun i x σ H4 H4' hi hP y => ?_) (fun σ H4 hP => ?_)
  · obtain ⟨e4, hr4, hq4, ⟨a1, fs, us, hm4, hx, hl, hK, hc, hp4, hR, _⟩, y5, rfl⟩ := hP
    obtain ⟨rfl, hv⟩ := y
    rw [List.getElem?_map] at hv
    cases eq : xs[i]? with
    | none =>
      rw [eq] at hv
      cases hv
    | some x0 =>
      rw [eq] at hv
      obtain rfl := Option.some.inj hv
      have hul : us.length ≤ 8 := by
        rw [hR.length, List.length_map, hl]
        rw [List.length_map] at hi
        omega
      refine ⟨_, rfl, .inl ⟨rfl, _, SqL.of hp4⟩, _, rfl, _, rfl, _, rfl, _, _, rfl, rfl, _, rfl, r, m, k + 1, _, a1, rfl, by omega, hrm, by omega, by omega, hr4, hm4, fun v d ts c a2 H5 e5 hr5 hm5 hvd hkt hcc => ⟨(by show 2 ≤ sizeLine; decide), fun t nt => ?_⟩⟩
      have hnt := nt2 hr4 hm4
      have e6 : Same H5 (upd H5 t (.tup [V.str x0, v])) := (Kx.new _ nt).to
      have hp6 := e6 _ _ (e5 _ _ hpm hp4)
      have hvt : Rp K (upd H5 t (.tup [V.str x0, v])) (.ref t) (pairD x0 d) := .tup (SqT.of upd_same) (.cons (.str _) (.cons (hvd.sm e6) .nil))
      obtain ⟨g1, g2⟩ := added2 np0 ((e4.trans e5).trans (Kx.same e6)) hp6 ((hR.kx e5 hnt).sm e6) hvt
      have hput : ∀ {z : Addr} {o : HO}, z ≠ p → (upd H5 t (.tup [V.str x0, v])) z = some o → (upd (upd H5 t (.tup [V.str x0, v])) p (.lst (us ++ [.ref t]))) z = some o := fun {z o} hz h => by rw [upd_ne hz]; exact h
      have hrp : r ≠ p := fun z => hpr (show p = r from z.symm)
      have hmp : m ≠ p := fun z => hpm (.inr z.symm)
      refine ⟨p, us, _, rfl, rfl, hp6, by omega, g1, ?_, hput hqp (e6 _ _ (e5 _ _ (fun z => by rcases z with z | z; exact hqr z; exact hqm z) hq4)), ⟨a2, fs ++ [⟨x0, c, d, ts⟩], us ++ [.ref t], hput hmp (e6 _ _ hm5), ?_, ?_, ?_, ?_, upd_same, ?_, (fun f _ h => nomatch h)⟩, _, rfl⟩
      · obtain ⟨j, hj⟩ := hr5
        exact ⟨j, hput hrp (e6 _ _ hj)⟩
      · rw [List.map_append, hx, List.take_add_one, eq]
        rfl
      · rw [List.length_append, hl]
        rfl
      · intro f hf
        rcases List.mem_append.mp hf with hf | hf
        · exact hK f hf
        · rw [List.mem_singleton.mp hf]
          exact hkt
      · rw [List.map_append, List.sum_append]
        show 5 * ((((fs.map (·.c)).sum + (c + 0) : Nat) : Int) - ((i + 1 : Nat) : Int)) ≤ _
        omega
      · rw [List.map_append]
        exact g2
  · obtain ⟨e4, hr4, hq4, ⟨a1, fs, us, hm4, hx, hl, hK, hc, hp4, hR, _⟩, y5, rfl⟩ := hP
    rw [List.length_map] at hx hl hc
    rw [List.take_length] at hx
    refine ⟨_, rfl, p, us, rfl, .inl ⟨SqL.of hp4, fun l nl => ⟨(by show 2 ≤ sizeLine; decide), fun t nt => ?_⟩⟩⟩
    have e5 := Kx.new (M := M0) (.tup us) nl
    have e6 := Kx.new (M := M0) (.tup [V.str "record", V.ref l]) nt
    have e56 := e5.to.trans e6.to
    refine kk _ (recD fs) (recT fs) (1 + (fs.map (·.c)).sum) a1 _ (e4.trans (Kx.same e56)) (hr4.sm e56) (e56 _ _ hm4) (.tup (SqT.of upd_same) (.cons (.str _) (.cons (.tup (sq1 e6.to (SqT.of upd_same)) (hR.sm e56)) .nil))) (.inr (.inr (.inr (.inr (.inl ⟨fs, rfl, by omega, fun f hf => ⟨hnm f.x ?_, hK f hf⟩, by rw [hx]; exact hpw, rfl, rfl⟩))))) ?_
    · rw [← hx]
      exact List.mem_map.mpr ⟨f, hf, rfl⟩
    · rw [hlen] at hc
      omega
end
end OH
end

section
set_option Elab.async false
set_option linter.all false
set_option maxRecDepth 100000
set_option maxHeartbeats 4000000
set_option autoImplicit false
namespace OH
open PySem PySem.Spec PyProof.Rows L2
theorem lt70 {x : Int} (h : x < 100) : x < 10 ^ 70 := Int.lt_of_lt_of_le h (by decide +kernel)
theorem NK.form {d : PyData} {ts : List Tk} (h : NK d ts) : ∃ z r, d = .tuple (.str z :: r) ∧ (z = "number" ∨ z = "text") := by
  obtain ⟨lo, hi, _, _, _, rfl, _⟩ := h
  exact ⟨_, _, rfl, .inl rfl⟩
section
variable {P : Program} {w : World} {K : PySem.W.Frag} {mg : Str → Option Value} {base : Heap}
theorem ok_law_rows_kind (T : Txt w K mg) {lv N : Nat} (hlv : 4 ≤ lv) (ih : C8.Cal P w K mg base lv "_law_kind" (spKindG K N) []) : C8.Cal P w K mg base (lv + 1) "_law_rows_kind" (spRecG K N 3 20) [] := by
  refine calD (tell_law_rows_kind T) sc_law_rows_kind bind_law_rows_kind (fun vs H Q E h => ?_) (fun f cdv A outer s H vs Q E hr h => ?_)
  · obtain ⟨_, _, _, _, _, rfl, _⟩ := h
    rfl
  obtain ⟨r, m, n, deep, a, rfl, rfl, hrm, hn2, hnN, hr0, hm0, kk⟩ := h
  refine ⟨_, (pss_cons (ps_set (i := 3) sc_law_rows_kind.nd rfl (by first | exact Or.inl rfl | exact Or.inr rfl) (C8.pe_c (ok_law_names T) hr (by omega) (by rfl) (pa_cons (pv 0) (pa_cons (pe_op op_add pe_int (C8.pe_c (ok_law_digit T) hr (by omega) (by rfl) (pa_cons (pv 0) (pa_cons pe_int pa_nil)))) pa_nil))))
    (pss_cons (ps_set (i := 4) sc_law_rows_kind.nd rfl (by first | exact Or.inl rfl | exact Or.inr rfl) (pe_ix ix_list (pv 3) (C8.pe_c (ok_law_digit T) hr (by omega) (by rfl) (pa_cons (pv 0) (pa_cons (pe_callB call_len_seq (by rfl) T.m_len bt_len (pa_cons (pv 3) pa_nil)) pa_nil))) (fun _ _ => rfl)))
    (pss_cons (ps_set (i := 5) sc_law_rows_kind.nd rfl (by first | exact Or.inl rfl | exact Or.inr rfl) (pe_lst pa_nil))
    (pss_cons (ps_for PassesOwn.never rfl (pi_list (pv 3)) (pg_name (i := 6) sc_law_rows_kind.nd rfl (by first | exact Or.inl rfl | exact Or.inr rfl))
      (pss_cons (ps_set (i := 7) sc_law_rows_kind.nd rfl (by first | exact Or.inl rfl | exact Or.inr rfl) (C8.pe_c (ok_law_number_kind T) hr (by omega) (by rfl) (pa_cons (pv 0) pa_nil)))
      (pss_cons (ps_if (pt_cmpR op_eq (C8.pe_c (ok_law_digit T) hr (by omega) (by rfl) (pa_cons (pv 0) (pa_cons pe_int pa_nil))) pe_int (nomark _))
        (pss_one (ps_set (i := 7) sc_law_rows_kind.nd rfl (by first | exact Or.inl rfl | exact Or.inr rfl) (pe_tup (pa_cons pe_str (pa_cons (C8.pe_c (ok_law_digit T) hr (by omega) (by rfl) (pa_cons (pv 0) (pa_cons pe_int pa_nil))) pa_nil)))))
        pss_nil)
      (pss_cons (ps_if (pt_cmpR op_ne (pv 6) (pv 4) (nomark _))
        (pss_one (ps_set (i := 7) sc_law_rows_kind.nd rfl (by first | exact Or.inl rfl | exact Or.inr rfl) (C8.pe_c ih hr (by omega) (by rfl) (pa_cons (pv 0) (pa_cons (pe_op op_sub (pv 1) pe_int) (pa_cons (pv 2) pa_nil))))))
        pss_nil)
      (pss_one (ps_expr (pe_bm PySem.F.plainAttrs_list PySem.F.slot_list_append PySem.F.type_list_append mt_append (pv 5) (pa_cons (pe_tup (pa_cons (pv 6) (pa_cons (pv 7) pa_nil))) pa_nil))))))))
    (pss_one (ps_ret (pe_tup (pa_cons pe_str (pa_cons (pv 4) (pa_cons (pe_tup (pa_cons pe_str (pa_cons (pe_callTy call_tuple_of (by rfl) T.m_tuple bt_tuple (pa_cons (pv 5) pa_nil)) pa_nil))) (pa_cons (C8.pe_c (ok_law_digit T) hr (by omega) (by rfl) (pa_cons (pv 0) (pa_cons pe_int pa_nil))) pa_nil))))))))))), ?_⟩
  have hz := sizeL
  obtain ⟨k, rfl⟩ : ∃ k, n = k + 3 := ⟨n - 3, by omega⟩
  have hmn : H m ≠ none := by rw [hm0]; exact fun z => nomatch z
  have hmr : ¬ M1 r m := fun z => hrm (show m = r from z).symm
  refine ⟨_, rfl, _, rfl, r, 3, rfl, by decide +kernel, hr0, fun d1 H1 b1 e1 hr1 => ⟨_, _, rfl, rfl, ?_⟩⟩
  obtain ⟨b, rfl, hb⟩ := nat_of b1 (k := 3) rfl
  refine ⟨r, 1 + b, rfl, by omega, hr1, fun q xs H2 e2 hr2 nq hqr hq hlen hpw hnm => ?_⟩
  have hqm : q ≠ m := fun z => by
    rw [z, e1 _ _ hmr hm0] at nq
    cases nq
  have hlx : (xs.map V.str).length = 1 + b := by rw [List.length_map, hlen]
  refine ⟨_, rfl, _, rfl, _, rfl, q, _, rfl, .inl (SqL.of hq), r, _, rfl, ⟨by omega, lt70 (by omega)⟩, hr2, fun d3 H3 b3 e3 hr3 => ?_⟩
  obtain ⟨j, rfl, hj⟩ := nat_of b3 rfl
  rw [List.length_map] at hj
  obtain ⟨key, hkm, hka⟩ := at_of_mem (xs := xs) (j := j) hj
  have hq3 := e3 _ _ (fun z => hqr z) hq
  refine ⟨q, _, _, _, rfl, rfl, SqL.of hq3, hka, ?_⟩
  refine ⟨Nat.zero_le _, fun p np => ?_⟩
  have e4 := Kx.new (M := M0) (.lst []) np
  have e14 : Kx (M1 r) H (upd H3 p (.lst [])) := ((e1.trans e2).trans e3).trans (Kx.same e4.to)
  have np0 : H p = none := ((e1.trans e2).trans e3).free (ne_new hr3.ne np) np
  have hpr : ¬ M1 r p := ne_new hr0.ne np0
  have hpm := nm2 hr0.ne hmn np0
  have hqp : q ≠ p := fun z => by
    rw [z, np] at hq3
    cases hq3
  have hrp : r ≠ p := fun z => hpr (show p = r from z.symm)
  have hmp : m ≠ p := fun z => hpm (.inr z.symm)
  refine ⟨_, rfl, q, rfl, ⟨_, SqL.of (e4.to _ _ hq3)⟩, ?_⟩
  refine for_it (D := { nx := _, rt := _ }) walk_list (fun i σ H' => Kx (M2 r m) H H' ∧ Rw H' r ∧ H' q = some (.lst (xs.map V.str)) ∧ FS K (k + 1) a H' m p xs i (some key) ∧ ∃ y6 y7, σ = [some (.ref r), some (.int ((k + 3 : Nat) : Int)), some (.ref m), some (.ref q), some (.str key), some (.ref p), y6, y7])
    ⟨e14.one, hr3.sm e4.to, e4.to _ _ hq3, ⟨a, [], [], e14 _ _ hmr hm0, rfl, rfl, (fun f h => nomatch h), by simp, upd_same, .nil, (fun f h => nomatch h)⟩, none, none, rfl⟩ (fun i σ H' _ hI => SqL.of hI.2.2.1) (fun i x σ H4 H4' hi hP y => ?_) (fun σ H4 hP => ?_)
  · obtain ⟨e4, hr4, hq4, ⟨a1, fs, us, hm4, hx, hl, hK, hc, hp4, hR, hkey⟩, y6, y7, rfl⟩ := hP
    obtain ⟨rfl, hv⟩ := y
    rw [List.getElem?_map] at hv
    cases eq : xs[i]? with
    | none =>
      rw [eq] at hv
      cases hv
    | some x0 =>
      rw [eq] at hv
      obtain rfl := Option.some.inj hv
      have hul : us.length ≤ 8 := by
        rw [hR.length, List.length_map, hl]
        rw [List.length_map] at hi
        omega
      refine ⟨_, rfl, r, rfl, hr4, fun u5 du tu H5 e5 hr5 hu5 hnk => ?_⟩
      have hnt4 := hr4.nt
      have hm5 := e5 _ _ hmr hm4
      have hp5 := e5 _ _ hpr hp4
      have hq5 := e5 _ _ (fun z => hqr z) hq4
      have hR5 := hR.kx e5 hnt4
      refine ⟨_, rfl, r, 2, rfl, by decide +kernel, hr5, fun d6 H6 b6 e6 hr6 => ⟨rfl, _, rfl, ?_⟩⟩
      have hnt5 := hr5.nt
      have hm6 := e6 _ _ hmr hm5
      have hp6 := e6 _ _ hpr hp5
      have hq6 := e6 _ _ (fun z => hqr z) hq5
      have hR6 := hR5.kx e6 hnt5
      have hu6 := hu5.kx e6 hnt5
      have eC := e4.trans ((e5.trans e6).one (m := m))
      by_cases w1 : V.int d6 = V.int 1
      · refine if_t (decide_eq_true w1) ?_
        refine ⟨_, rfl, r, 4, rfl, by decide +kernel, hr6, fun d7 H7 b7 e7 hr7 => ⟨(by show 2 ≤ sizeLine; decide), fun t0 nt0 => ?_⟩⟩
        have e77 : Same H7 (upd H7 t0 (.tup [V.str "text", V.int d7])) := (Kx.new _ nt0).to
        have eC := (eC.trans e7.one).trans (Kx.same e77)
        have hnt6 := hr6.nt
        have hmC := e77 _ _ (e7 _ _ hmr hm6)
        have hpC := e77 _ _ (e7 _ _ hpr hp6)
        have hqC := e77 _ _ (e7 _ _ (fun z => hqr z) hq6)
        have hRC := (hR6.kx e7 hnt6).sm e77
        have hrC := hr7.sm e77
        have huC : Rp K (upd H7 t0 (.tup [V.str "text", V.int d7])) (.ref t0) (.tuple [.str "text", .int d7]) := .tup (SqT.of upd_same) (.cons (.str _) (.cons (.int _) .nil))
        have hlk := lk_text b7.1 (Int.le_trans (Int.le_of_lt b7.2) (by decide))
        have hform : ∃ z r, PyData.tuple [.str "text", .int d7] = .tuple (.str z :: r) ∧ (z = "number" ∨ z = "text") := ⟨_, _, rfl, .inr rfl⟩
        by_cases hxk : x0 = key
        · refine ⟨_, rfl, _, rfl, rfl, _, rfl, if_f (by rw [hxk, decide_eq_true rfl]; rfl) ?_⟩
          refine ⟨_, rfl, .inl ⟨rfl, _, SqL.of hpC⟩, _, rfl, _, rfl, (by show 2 ≤ sizeLine; decide), fun t nt => ?_⟩
          have hvC := huC
          have e6 : Same (upd H7 t0 (.tup [V.str "text", V.int d7])) (upd (upd H7 t0 (.tup [V.str "text", V.int d7])) t (.tup [V.str x0, (.ref t0)])) := (Kx.new _ nt).to
          have hp6 := e6 _ _ hpC
          have hvt : Rp K (upd (upd H7 t0 (.tup [V.str "text", V.int d7])) t (.tup [V.str x0, (.ref t0)])) (.ref t) (pairD x0 (.tuple [.str "text", .int d7])) := .tup (SqT.of upd_same) (.cons (.str _) (.cons (hvC.sm e6) .nil))
          obtain ⟨g1, g2⟩ := added2 np0 (eC.trans (Kx.same e6)) hp6 (hRC.sm e6) hvt
          have hput : ∀ {z : Addr} {o : HO}, z ≠ p → (upd (upd H7 t0 (.tup [V.str "text", V.int d7])) t (.tup [V.str x0, (.ref t0)])) z = some o → (upd (upd (upd H7 t0 (.tup [V.str "text", V.int d7])) t (.tup [V.str x0, (.ref t0)])) p (.lst (us ++ [.ref t]))) z = some o := fun {z o} hz h => by rw [upd_ne hz]; exact h
          refine ⟨p, us, _, rfl, rfl, hp6, by omega, g1, ?_, hput hqp (e6 _ _ hqC), ⟨a1, fs ++ [⟨x0, 1, (.tuple [.str "text", .int d7]), (fmt "text" [[.n d7]])⟩], us ++ [.ref t], hput hmp (e6 _ _ hmC), ?_, ?_, ?_, ?_, upd_same, ?_, ?_⟩, _, _, rfl⟩
          · obtain ⟨j, hj⟩ := hrC
            exact ⟨j, hput hrp (e6 _ _ hj)⟩
          · rw [List.map_append, hx, List.take_add_one, eq]
            rfl
          · rw [List.length_append, hl]
            rfl
          · intro f hf
            rcases List.mem_append.mp hf with hf | hf
            · exact hK f hf
            · rw [List.mem_singleton.mp hf]
              exact hlk k
          · rw [List.map_append, List.sum_append]
            show 5 * ((((fs.map (·.c)).sum + (1 + 0) : Nat) : Int) - ((i + 1 : Nat) : Int)) ≤ _
            omega
          · rw [List.map_append]
            exact g2
          · intro f hf hke
            rcases List.mem_append.mp hf with hf | hf
            · exact hkey f hf hke
            · rw [List.mem_singleton.mp hf] at hke ⊢
              exact hform
        · refine ⟨_, rfl, _, rfl, rfl, _, rfl, if_t (by rw [decide_eq_false fun z => hxk (V.str.inj z)]; rfl) ?_⟩
          refine ⟨_, rfl, _, rfl, _, _, rfl, rfl, _, rfl, r, m, k + 1, _, a1, rfl, by omega, hrm, by omega, by omega, hrC, hmC, fun v d ts c a2 H8 e8 hr8 hm8 hvC hkt hcc => ?_⟩
          have hnt := nt2 hrC hmC
          have eC := eC.trans e8
          have hpC := e8 _ _ hpm hpC
          have hqC := e8 _ _ (fun z => by rcases z with z | z; exact hqr z; exact hqm z) hqC
          have hRC := hRC.kx e8 hnt
          have hrC := hr8
          have hmC := hm8
          refine ⟨_, rfl, .inl ⟨rfl, _, SqL.of hpC⟩, _, rfl, _, rfl, (by show 2 ≤ sizeLine; decide), fun t nt => ?_⟩
          have e6 : Same H8 (upd H8 t (.tup [V.str x0, v])) := (Kx.new _ nt).to
          have hp6 := e6 _ _ hpC
          have hvt : Rp K (upd H8 t (.tup [V.str x0, v])) (.ref t) (pairD x0 d) := .tup (SqT.of upd_same) (.cons (.str _) (.cons (hvC.sm e6) .nil))
          obtain ⟨g1, g2⟩ := added2 np0 (eC.trans (Kx.same e6)) hp6 (hRC.sm e6) hvt
          have hput : ∀ {z : Addr} {o : HO}, z ≠ p → (upd H8 t (.tup [V.str x0, v])) z = some o → (upd (upd H8 t (.tup [V.str x0, v])) p (.lst (us ++ [.ref t]))) z = some o := fun {z o} hz h => by rw [upd_ne hz]; exact h
          refine ⟨p, us, _, rfl, rfl, hp6, by omega, g1, ?_, hput hqp (e6 _ _ hqC), ⟨a2, fs ++ [⟨x0, c, d, ts⟩], us ++ [.ref t], hput hmp (e6 _ _ hmC), ?_, ?_, ?_, ?_, upd_same, ?_, ?_⟩, _, _, rfl⟩
          · obtain ⟨j, hj⟩ := hrC
            exact ⟨j, hput hrp (e6 _ _ hj)⟩
          · rw [List.map_append, hx, List.take_add_one, eq]
            rfl
          · rw [List.length_append, hl]
            rfl
          · intro f hf
            rcases List.mem_append.mp hf with hf | hf
            · exact hK f hf
            · rw [List.mem_singleton.mp hf]
              exact hkt
          · rw [List.map_append, List.sum_append]
            show 5 * ((((fs.map (·.c)).sum + (c + 0) : Nat) : Int) - ((i + 1 : Nat) : Int)) ≤ _
            omega
          · rw [List.map_append]
            exact g2
          · intro f hf hke
            rcases List.mem_append.mp hf with hf | hf
            · exact hkey f hf hke
            · rw [List.mem_singleton.mp hf] at hke ⊢
              exact absurd (Option.some.inj hke).symm hxk
      · refine if_f (decide_eq_false w1) ?_
        have hmC := hm6
        have hpC := hp6
        have hqC := hq6
        have hRC := hR6
        have hrC := hr6
        have huC := hu6
        have hlk := hnk.lk
        have hform := hnk.form
        by_cases hxk : x0 = key
        · refine ⟨_, rfl, _, rfl, rfl, _, rfl, if_f (by rw [hxk, decide_eq_true rfl]; rfl) ?_⟩
          refine ⟨_, rfl, .inl ⟨rfl, _, SqL.of hpC⟩, _, rfl, _, rfl, (by show 2 ≤ sizeLine; decide), fun t nt => ?_⟩
          have hvC := huC
          have e6 : Same H6 (upd H6 t (.tup [V.str x0, u5])) := (Kx.new _ nt).to
          have hp6 := e6 _ _ hpC
          have hvt : Rp K (upd H6 t (.tup [V.str x0, u5])) (.ref t) (pairD x0 du) := .tup (SqT.of upd_same) (.cons (.str _) (.cons (hvC.sm e6) .nil))
          obtain ⟨g1, g2⟩ := added2 np0 (eC.trans (Kx.same e6)) hp6 (hRC.sm e6) hvt
          have hput : ∀ {z : Addr} {o : HO}, z ≠ p → (upd H6 t (.tup [V.str x0, u5])) z = some o → (upd (upd H6 t (.tup [V.str x0, u5])) p (.lst (us ++ [.ref t]))) z = some o := fun {z o} hz h => by rw [upd_ne hz]; exact h
          refine ⟨p, us, _, rfl, rfl, hp6, by omega, g1, ?_, hput hqp (e6 _ _ hqC), ⟨a1, fs ++ [⟨x0, 1, du, tu⟩], us ++ [.ref t], hput hmp (e6 _ _ hmC), ?_, ?_, ?_, ?_, upd_same, ?_, ?_⟩, _, _, rfl⟩
          · obtain ⟨j, hj⟩ := hrC
            exact ⟨j, hput hrp (e6 _ _ hj)⟩
          · rw [List.map_append, hx, List.take_add_one, eq]
            rfl
          · rw [List.length_append, hl]
            rfl
          · intro f hf
            rcases List.mem_append.mp hf with hf | hf
            · exact hK f hf
            · rw [List.mem_singleton.mp hf]
              exact hlk k
          · rw [List.map_append, List.sum_append]
            show 5 * ((((fs.map (·.c)).sum + (1 + 0) : Nat) : Int) - ((i + 1 : Nat) : Int)) ≤ _
            omega
          · rw [List.map_append]
            exact g2
          · intro f hf hke
            rcases List.mem_append.mp hf with hf | hf
            · exact hkey f hf hke
            · rw [List.mem_singleton.mp hf] at hke ⊢
              exact hform
        · refine ⟨_, rfl, _, rfl, rfl, _, rfl, if_t (by rw [decide_eq_false fun z => hxk (V.str.inj z)]; rfl) ?_⟩
          refine ⟨_, rfl, _, rfl, _, _, rfl, rfl, _, rfl, r, m, k + 1, _, a1, rfl, by omega, hrm, by omega, by omega, hrC, hmC, fun v d ts c a2 H8 e8 hr8 hm8 hvC hkt hcc => ?_⟩
          have hnt := nt2 hrC hmC
          have eC := eC.trans e8
          have hpC := e8 _ _ hpm hpC
          have hqC := e8 _ _ (fun z => by rcases z with z | z; exact hqr z; exact hqm z) hqC
          have hRC := hRC.kx e8 hnt
          have hrC := hr8
          have hmC := hm8
          refine ⟨_, rfl, .inl ⟨rfl, _, SqL.of hpC⟩, _, rfl, _, rfl, (by show 2 ≤ sizeLine; decide), fun t nt => ?_⟩
          have e6 : Same H8 (upd H8 t (.tup [V.str x0, v])) := (Kx.new _ nt).to
          have hp6 := e6 _ _ hpC
          have hvt : Rp K (upd H8 t (.tup [V.str x0, v])) (.ref t) (pairD x0 d) := .tup (SqT.of upd_same) (.cons (.str _) (.cons (hvC.sm e6) .nil))
          obtain ⟨g1, g2⟩ := added2 np0 (eC.trans (Kx.same e6)) hp6 (hRC.sm e6) hvt
          have hput : ∀ {z : Addr} {o : HO}, z ≠ p → (upd H8 t (.tup [V.str x0, v])) z = some o → (upd (upd H8 t (.tup [V.str x0, v])) p (.lst (us ++ [.ref t]))) z = some o := fun {z o} hz h => by rw [upd_ne hz]; exact h
          refine ⟨p, us, _, rfl, rfl, hp6, by omega, g1, ?_, hput hqp (e6 _ _ hqC), ⟨a2, fs ++ [⟨x0, c, d, ts⟩], us ++ [.ref t], hput hmp (e6 _ _ hmC), ?_, ?_, ?_, ?_, upd_same, ?_, ?_⟩, _, _, rfl⟩
          · obtain ⟨j, hj⟩ := hrC
            exact ⟨j, hput hrp (e6 _ _ hj)⟩
          · rw [List.map_append, hx, List.take_add_one, eq]
            rfl
          · rw [List.length_append, hl]
            rfl
          · intro f hf
            rcases List.mem_append.mp hf with hf | hf
            · exact hK f hf
            · rw [List.mem_singleton.mp hf]
              exact hkt
          · rw [List.map_append, List.sum_append]
            show 5 * ((((fs.map (·.c)).sum + (c + 0) : Nat) : Int) - ((i + 1 : Nat) : Int)) ≤ _
            omega
          · rw [List.map_append]
            exact g2
          · intro f hf hke
            rcases List.mem_append.mp hf with hf | hf
            · exact hkey f hf hke
            · rw [List.mem_singleton.mp hf] at hke ⊢
              exact absurd (Option.some.inj hke).symm hxk
  · obtain ⟨e4, hr4, hq4, ⟨a1, fs, us, hm4, hx, hl, hK, hc, hp4, hR, hkey⟩, y6, y7, rfl⟩ := hP
    rw [List.length_map] at hx hl hc
    rw [List.take_length] at hx
    refine ⟨_, rfl, _, rfl, p, us, rfl, .inl ⟨SqL.of hp4, fun l nl => ⟨(by show 2 ≤ sizeLine; decide), fun t nt => ?_⟩⟩⟩
    have e5 := Kx.new (M := M0) (.tup us) nl
    have e6 := Kx.new (M := M0) (.tup [V.str "record", V.ref l]) nt
    have e56 := e5.to.trans e6.to
    have hrec : Rp K (upd (upd H4 l (.tup us)) t (.tup [V.str "record", V.ref l])) (.ref t) (recD fs) := .tup (SqT.of upd_same) (.cons (.str _) (.cons (.tup (sq1 e6.to (SqT.of upd_same)) (hR.sm e56)) .nil))
    have hr6 := hr4.sm e56
    refine ⟨_, rfl, r, 9, rfl, by decide +kernel, hr6, fun d7 H7 b7 e7 hr7 => ⟨(by show 4 ≤ sizeLine; decide), fun t8 nt8 => ?_⟩⟩
    have e8 := Kx.new (M := M0) (.tup [V.str "rows", V.str key, V.ref t, V.int d7]) nt8
    have hkm2 : key ∈ fs.map (·.x) := by
      rw [hx]
      exact hkm
    obtain ⟨f, hf, hfx⟩ := List.mem_map.mp hkm2
    obtain ⟨z, rr, hfk, hfz⟩ := hkey f hf (by rw [hfx])
    have hkr : KT (k + 2) (1 + (fs.map (·.c)).sum) (recD fs) (recT fs) := .inr (.inr (.inr (.inr (.inl ⟨fs, rfl, by omega, fun f hf => ⟨hnm f.x (by rw [← hx]; exact List.mem_map.mpr ⟨f, hf, rfl⟩), hK f hf⟩, by rw [hx]; exact hpw, rfl, rfl⟩))))
    refine kk _ (.tuple [.str "rows", .str key, recD fs, .int d7]) (fmt "rows" [[.w key], [.n d7], recT fs]) ((1 + (fs.map (·.c)).sum) + 1) a1 _ (((e4.trans (Kx.same e56)).trans e7.one).trans (Kx.same e8.to)) (hr7.sm e8.to) (e8.to _ _ (e7 _ _ hmr (e56 _ _ hm4))) (.tup (SqT.of upd_same) (.cons (.str _) (.cons (.str _) (.cons ((hrec.kx e7 hr6.nt).sm e8.to) (.cons (.int _) .nil))))) (.inr (.inr (.inr (.inr (.inr ⟨key, _, recD fs, recT fs, d7, rfl, hkr, hnm key hkm, ⟨fs, f, z, rr, rfl, hf, hfx, hfk, hfz⟩, b7.1, by omega, rfl, rfl⟩))))) ?_
    rw [hlen] at hc
    omega
theorem ok_law_kind_s (T : Txt w K mg) {lv N : Nat} (hlv : 4 ≤ lv) (ih : C8.Cal P w K mg base lv "_law_kind" (spKindG K N) []) : C8.Cal P w K mg base (lv + 1 + 1) "_law_kind" (spKindG K (N + 1)) [] := by
  refine calD (tell_law_kind T) sc_law_kind bind_law_kind (fun vs H Q E h => ?_) (fun f cdv A outer s H vs Q E hr h => ?_)
  · obtain ⟨_, _, _, _, _, rfl, _⟩ := h
    rfl
  obtain ⟨r, m, n, deep, a, rfl, rfl, hrm, hn1, hnN, hr0, hm0, kk⟩ := h
  refine ⟨_, (pss_cons (ps_set (i := 3) sc_law_kind.nd rfl (by first | exact Or.inl rfl | exact Or.inr rfl) (C8.pe_c (ok_law_digit T) hr (by omega) (by rfl) (pa_cons (pv 0) (pa_cons pe_int pa_nil))))
    (pss_cons (ps_asg (pe_op op_sub (pe_ix ix_list (pv 2) pe_int (fun _ _ => rfl)) pe_int) (pg_sub (pv 2) pe_int set_list))
    (pss_cons (ps_if (PW.pt (pw_or (pt_cmpR op_lt (pv 3) pe_int (nomark _)) (pw_or (pt_cmpR op_lt (pv 1) pe_int (nomark _)) (pw_or1 (pt_cmpR op_lt (pe_ix ix_list (pv 2) pe_int (fun _ _ => rfl)) pe_int (nomark _))))))
      (pss_one (ps_ret (C8.pe_c (ok_law_leaf_kind T) hr (by omega) (by rfl) (pa_cons (pv 0) pa_nil))))
      pss_nil)
    (pss_cons (ps_if (pt_cmpR op_eq (pv 3) pe_int (nomark _))
      (pss_one (ps_ret (pe_tup (pa_cons pe_str (pa_cons (C8.pe_c ih hr (by omega) (by rfl) (pa_cons (pv 0) (pa_cons (pe_op op_sub (pv 1) pe_int) (pa_cons (pv 2) pa_nil)))) (pa_cons (C8.pe_c (ok_law_digit T) hr (by omega) (by rfl) (pa_cons (pv 0) (pa_cons pe_int pa_nil))) pa_nil))))))
      pss_nil)
    (pss_cons (ps_if (PW.pt (pw_and (pt_cmpR op_eq (pv 3) pe_int (nomark _)) (pw_and1 (pt_cmpR op_gt (pv 1) pe_int (nomark _)))))
      (pss_one (ps_ret (C8.pe_c (ok_law_rows_kind T hlv ih) hr (by omega) (by rfl) (pa_cons (pv 0) (pa_cons (pv 1) (pa_cons (pv 2) pa_nil))))))
      pss_nil)
    (pss_one (ps_ret (C8.pe_c (ok_law_record_kind T hlv ih) hr (by omega) (by rfl) (pa_cons (pv 0) (pa_cons (pv 1) (pa_cons (pv 2) pa_nil))))))))))), ?_⟩
  have hmr : ¬ M1 r m := fun z => hrm (show m = r from z).symm
  refine ⟨_, rfl, r, 6, rfl, by decide +kernel, hr0, fun d1 H1 b1 e1 hr1 => ?_⟩
  have hm1 := e1 _ _ hmr hm0
  refine ⟨_, rfl, m, _, 0, _, rfl, rfl, SqL.of hm1, rfl, _, _, rfl, rfl, _, rfl, m, _, 0, 0, rfl, rfl, hm1, rfl, ?_⟩
  have e2 : Kx (M2 r m) H1 (upd H1 m (.lst [.int (a - 5)])) := Kx.put _ (.inr rfl)
  have hm2 : (upd H1 m (.lst [.int (a - 5)])) m = some (.lst [.int (a - 5)]) := upd_same
  have hr2 : Rw (upd H1 m (.lst [.int (a - 5)])) r := by
    obtain ⟨j, hj⟩ := hr1
    exact ⟨j, by rw [upd_ne hrm]; exact hj⟩
  have e12 : Kx (M2 r m) H (upd H1 m (.lst [.int (a - 5)])) := e1.one.trans e2
  have leaf : ∀ (v : V) (d : PyData) (ts : List Tk) (H' : Hp), Kx (M1 r) (upd H1 m (.lst [.int (a - 5)])) H' → Rw H' r → Rp K H' v d → LK d ts → Q v H' := fun v d ts H' e hr hv hlk => by
    obtain ⟨n0, rfl⟩ : ∃ n0, n = n0 + 1 := ⟨n - 1, by omega⟩
    exact kk v d ts 1 (a - 5) H' (e12.trans e.one) hr (e _ _ hmr hm2) hv (hlk n0) (by omega)
  by_cases w1 : d1 < 2
  · exact ⟨_, rfl, _, _, rfl, rfl, _, rfl, if_t (decide_eq_true w1) ⟨_, rfl, r, rfl, hr2, leaf⟩⟩
  refine ⟨_, rfl, _, _, rfl, rfl, _, rfl, if_f (decide_eq_false w1) ?_⟩
  by_cases w2 : ((n : Nat) : Int) < 2
  · exact ⟨_, rfl, _, _, rfl, rfl, _, rfl, if_t (decide_eq_true w2) ⟨_, rfl, r, rfl, hr2, leaf⟩⟩
  refine ⟨_, rfl, _, _, rfl, rfl, _, rfl, if_f (decide_eq_false w2) ?_⟩
  by_cases w3 : a - 5 < 0
  · exact ⟨_, rfl, m, _, 0, _, rfl, rfl, SqL.of hm2, rfl, _, _, rfl, rfl, _, rfl, if_t (decide_eq_true w3) ⟨_, rfl, r, rfl, hr2, leaf⟩⟩
  refine ⟨_, rfl, m, _, 0, _, rfl, rfl, SqL.of hm2, rfl, _, _, rfl, rfl, _, rfl, if_f (decide_eq_false w3) ?_⟩
  obtain ⟨k, rfl⟩ : ∃ k, n = k + 2 := ⟨n - 2, by omega⟩
  refine ⟨_, rfl, rfl, _, rfl, ?_⟩
  by_cases w4 : V.int d1 = V.int 2
  · refine if_t (decide_eq_true w4) ?_
    refine ⟨_, rfl, _, rfl, _, _, rfl, rfl, _, rfl, r, m, k + 1, _, a - 5, rfl, by omega, hrm, by omega, by omega, hr2, hm2, fun v d ts c a' H3 e3 hr3 hm3 hv hkt hcc => ?_⟩
    refine ⟨_, rfl, r, 9, rfl, by decide +kernel, hr3, fun d4 H4 b4 e4 hr4 => ⟨(by show 3 ≤ sizeLine; decide), fun t nt => ?_⟩⟩
    have e5 := Kx.new (M := M0) (.tup [V.str "list", v, V.int d4]) nt
    exact kk _ _ (fmt "list" [[.n d4], ts]) (c + 1) a' _ (((e12.trans e3).trans e4.one).trans (Kx.same e5.to)) (hr4.sm e5.to) (e5.to _ _ (e4 _ _ hmr hm3)) (.tup (SqT.of upd_same) (.cons (.str _) (.cons ((hv.kx e4 hr3.nt).sm e5.to) (.cons (.int _) .nil)))) (.inr (.inr (.inr (.inl ⟨c, d, ts, d4, rfl, hkt, b4.1, by omega, rfl, rfl⟩)))) (by omega)
  refine if_f (decide_eq_false w4) ?_
  have rec_ : ∀ (v : V) (d : PyData) (ts : List Tk) (c : Nat) (a' : Int) (H' : Hp), Kx (M2 r m) (upd H1 m (.lst [.int (a - 5)])) H' → Rw H' r → H' m = some (.lst [.int a']) → Rp K H' v d → KT (k + 2) c d ts → 5 * ((c : Int) - 1) ≤ 20 + 4 * (max (a - 5) 0 - max a' 0) → Q v H' := fun v d ts c a' H' e hr hm hv hkt hcc =>
    kk v d ts c a' H' (e12.trans e) hr hm hv hkt (by omega)
  refine ⟨_, rfl, rfl, _, rfl, ?_⟩
  by_cases w5 : V.int d1 = V.int 3
  · refine if_t (decide_eq_true w5) ⟨_, rfl, _, _, rfl, rfl, _, rfl, ?_⟩
    by_cases w6 : 2 < ((k + 2 : Nat) : Int)
    · refine if_t (decide_eq_true w6) ?_
      exact ⟨_, rfl, _, rfl, _, rfl, r, m, k + 2, _, a - 5, rfl, rfl, hrm, by omega, by omega, hr2, hm2, rec_⟩
    · exact if_f (decide_eq_false w6) ⟨_, rfl, _, rfl, _, rfl, r, m, k + 2, _, a - 5, rfl, rfl, hrm, by omega, by omega, hr2, hm2, fun v d ts c a' H' e hr hm hv hkt hcc => rec_ v d ts c a' H' e hr hm hv hkt (by omega)⟩
  · exact if_f (decide_eq_false w5) ⟨_, rfl, _, rfl, _, rfl, r, m, k + 2, _, a - 5, rfl, rfl, hrm, by omega, by omega, hr2, hm2, fun v d ts c a' H' e hr hm hv hkt hcc => rec_ v d ts c a' H' e hr hm hv hkt (by omega)⟩
theorem ok_law_kind (T : Txt w K mg) : ∀ N, C8.Cal P w K mg base (4 + 2 * N) "_law_kind" (spKindG K N) []
  | 0 => by
    refine calD (k := 3) (tell_law_kind T) sc_law_kind bind_law_kind (fun vs H Q E h => ?_) (fun f cdv A outer s H vs Q E hr h => ?_)
    · obtain ⟨_, _, _, _, _, _, _, _, h1, h2, _⟩ := h
      omega
    · obtain ⟨_, _, _, _, _, _, _, _, h1, h2, _⟩ := h
      omega
  | N + 1 => cal_mono (ok_law_kind_s T (by omega) (ok_law_kind T N)) (by omega)
end
end OH
end

section
set_option Elab.async false
set_option linter.all false
set_option maxRecDepth 100000
set_option maxHeartbeats 4000000
set_option autoImplicit false
namespace OH
open PySem PySem.Spec PyProof.Rows L2
def spValG (K : PySem.W.Frag) (N : Nat) : Sp := fun vs H Q _ => ∃ (r : Addr) (n : Nat) (deep : Int), vs = [.ref r, .int deep] ∧ deep = (n : Nat) ∧ n < N ∧ Rw H r ∧ ∀ v d ts H', Kx (M1 r) H H' → Rw H' r → Rp K H' v d → VT n d ts → Q v H'
def spTurnG (K : PySem.W.Frag) (N : Nat) : Sp := fun vs H Q _ => ∃ (r : Addr) (n : Nat) (deep : Int), vs = [.ref r, .int deep] ∧ deep = (n : Nat) ∧ n < N ∧ Rw H r ∧ ∀ v d ts H', Kx (M1 r) H H' → Rw H' r → Rp K H' v d → TT (n + 1) d ts → Q v H'
theorem vt_int {n : Nat} {i : Int} (h : IsNum i) : VT n (.int i) [.n i] := by
  cases n with
  | zero => exact .inl ⟨i, h, rfl, rfl⟩
  | succ n => exact .inl ⟨i, h, rfl, rfl⟩
theorem vt_str {n : Nat} {x : Str} (h : IsText x) : VT n (.str x) [.t x] := by
  cases n with
  | zero => exact .inr ⟨x, h, rfl, rfl⟩
  | succ n => exact .inr (.inl ⟨x, h, rfl, rfl⟩)
theorem put_keep {H : Hp} {p z : Addr} {o u : HO} (h : z ≠ p) (e : H z = some o) : (upd H p u) z = some o := by
  rw [upd_ne h]
  exact e
theorem rw_put {H : Hp} {p r : Addr} {u : HO} (h : r ≠ p) (e : Rw H r) : Rw (upd H p u) r := by
  obtain ⟨j, hj⟩ := e
  exact ⟨j, put_keep h hj⟩
theorem len_fits {α : Type} {xs : List α} (h : xs.length ≤ 100) : xs.length ≤ sizeLine := by
  have := sizeL
  omega
def sixW : List Str := ["scale", "shrink", "figures", "cut", "first", "one"]
theorem sixW_ok : ∀ z ∈ sixW, (z, ("m" : Str)) ∈ turnF := by unfold sixW turnF; decide +kernel
section
variable {P : Program} {w : World} {K : PySem.W.Frag} {mg : Str → Option Value} {base : Heap}
theorem ok_law_any_value_s (T : Txt w K mg) {lv N : Nat} (hlv : 2 ≤ lv) (ih : C8.Cal P w K mg base lv "_law_any_value" (spValG K N) []) : C8.Cal P w K mg base (lv + 1) "_law_any_value" (spValG K (N + 1)) [] := by
  refine calD (tell_law_any_value T) sc_law_any_value bind_law_any_value (fun vs H Q E h => ?_) (fun f cdv A outer s H vs Q E hr h => ?_)
  · obtain ⟨_, _, _, rfl, _⟩ := h
    rfl
  obtain ⟨r, n, deep, rfl, rfl, hn, hr0, kk⟩ := h
  refine ⟨_, (pss_cons (ps_set (i := 2) sc_law_any_value.nd rfl (by first | exact Or.inl rfl | exact Or.inr rfl) (C8.pe_c (ok_law_digit T) hr (by omega) (by rfl) (pa_cons (pv 0) (pa_cons pe_int pa_nil))))
    (pss_cons (ps_if (PW.pt (pw_or (pt_cmpR op_lt (pv 2) pe_int (nomark _)) (pw_or1 (pt_cmpR op_eq (pv 1) pe_int (nomark _)))))
      (pss_one (ps_ret (pe_ix ix_list (pe_lst (pa_cons (C8.pe_c (ok_law_any_number T) hr (by omega) (by rfl) (pa_cons (pv 0) pa_nil)) (pa_cons (C8.pe_c (ok_law_text T) hr (by omega) (by rfl) (pa_cons (pv 0) (pa_cons pe_int pa_nil))) pa_nil))) (pe_op op_mod (pv 2) pe_int) (fun _ _ => rfl))))
      pss_nil)
    (pss_cons (ps_set (i := 3) sc_law_any_value.nd rfl (by first | exact Or.inl rfl | exact Or.inr rfl) (C8.pe_c (ok_law_digit T) hr (by omega) (by rfl) (pa_cons (pv 0) (pa_cons pe_int pa_nil))))
    (pss_cons (ps_if (pt_cmpR op_lt (pv 2) pe_int (nomark _))
      (pss_one (ps_ret (pe_tup (pa_cons (pe_ix ix_list (pe_lst (pa_cons pe_str (pa_cons pe_str pa_nil))) (pe_op op_sub (pv 2) pe_int) (fun _ _ => rfl)) (pa_cons (pe_callTy call_tuple_of (by rfl) T.m_tuple bt_tuple (pa_cons (pe_lc (own := [("k", 4)]) (by rfl) sc_law_any_value.nd (pi_range1 (by rfl) T.m_range (pa_cons (pv 3) pa_nil)) (blkOk_by (own := [("k", 4)]) (N := ["row", "deep", "way", "many", "k"]) (sc := defScope s_law_any_value) (by decide +kernel)) (fun _ _ _ _ _ => (pg_name (i := 4) sc_law_any_value.nd rfl (by first | exact Or.inl rfl | exact Or.inr rfl))) (fun _ _ _ _ _ => pts_nil) (fun _ _ _ _ _ => (C8.pe_c ih hr (by omega) (by rfl) (pa_cons (pv 0) (pa_cons (pe_op op_sub (pv 1) pe_int) pa_nil))))) pa_nil)) pa_nil)))))
      pss_nil)
    (pss_one (ps_ret (pe_tup (pa_cons pe_str (pa_cons (pe_callTy call_tuple_of (by rfl) T.m_tuple bt_tuple (pa_cons (pe_lc (own := [("k", 4)]) (by rfl) sc_law_any_value.nd (pi_range1 (by rfl) T.m_range (pa_cons (pv 3) pa_nil)) (blkOk_by (own := [("k", 4)]) (N := ["row", "deep", "way", "many", "k"]) (sc := defScope s_law_any_value) (by decide +kernel)) (fun _ _ _ _ _ => (pg_name (i := 4) sc_law_any_value.nd rfl (by first | exact Or.inl rfl | exact Or.inr rfl))) (fun _ _ _ _ _ => pts_nil) (fun _ _ _ _ _ => (pe_tup (pa_cons (C8.pe_c (ok_law_word T) hr (by omega) (by rfl) (pa_cons (pv 0) pa_nil)) (pa_cons (C8.pe_c ih hr (by omega) (by rfl) (pa_cons (pv 0) (pa_cons (pe_op op_sub (pv 1) pe_int) pa_nil))) pa_nil))))) pa_nil)) pa_nil))))))))), ?_⟩
  refine ⟨_, rfl, r, 6, rfl, by decide +kernel, hr0, fun d1 H1 b1 e1 hr1 => ?_⟩
  obtain ⟨j, rfl, hj⟩ := nat_of b1 (k := 6) rfl
  suffices leaf : (j < 2 ∨ n = 0) → _ by
    refine ⟨_, rfl, _, _, rfl, rfl, _, rfl, ?_⟩
    by_cases w1 : ((j : Nat) : Int) < 2
    · exact if_t (decide_eq_true w1) (leaf (.inl (by omega)))
    refine if_f (decide_eq_false w1) ⟨_, rfl, rfl, _, rfl, ?_⟩
    by_cases w2 : V.int ((n : Nat) : Int) = V.int 0
    · exact if_t (decide_eq_true w2) (leaf (.inr (by have := V.int.inj w2; omega)))
    refine if_f (decide_eq_false w2) ?_
    obtain ⟨k, rfl⟩ : ∃ k, n = k + 1 := ⟨n - 1, by
      have : n ≠ 0 := fun z => w2 (by rw [z]; rfl)
      omega⟩
    refine ⟨_, rfl, r, 4, rfl, by decide +kernel, hr1, fun d2 H2 b2 e2 hr2 => ?_⟩
    obtain ⟨m, rfl, hm⟩ := nat_of b2 (k := 4) rfl
    refine ⟨_, rfl, _, _, rfl, rfl, _, rfl, ?_⟩
    by_cases w3 : ((j : Nat) : Int) < 4
    · refine if_t (decide_eq_true w3) ?_
      refine ⟨(by show 2 ≤ sizeLine; decide), fun p np => ?_⟩
      have ep := Kx.new (M := M0) (.lst [V.str "list", V.str "rows"]) np
      obtain ⟨z, hz, hzz⟩ : ∃ z : Str, atI [V.str "list", V.str "rows"] (((j : Nat) : Int) - 2) = some (V.str z) ∧ (z = "list" ∨ z = "rows") := by
        have : j = 2 ∨ j = 3 := by omega
        rcases this with rfl | rfl
        · exact ⟨_, rfl, .inl rfl⟩
        · exact ⟨_, rfl, .inr rfl⟩
      refine ⟨_, rfl, _, _, rfl, rfl, p, _, _, _, rfl, rfl, SqL.of upd_same, hz, ?_⟩
      have eC : Kx (M1 r) H (upd H2 p (.lst [V.str "list", V.str "rows"])) := (e1.trans e2).trans (Kx.same ep.to)
      have hrC := hr2.sm ep.to
      refine ⟨_, rfl, _, rfl, by omega, by omega, fun D nD => ?_⟩
      have nD0 : H D = none := eC.free (ne_new hrC.ne nD) nD
      have hDr : r ≠ D := fun z => hr0.ne (by rw [z]; exact nD0)
      have eD := Kx.new (M := M0) (.lst []) nD
      refine lcS walk_range (fun i acc H' => Kx (M1 r) H H' ∧ Rw H' r ∧ ∃ es : List Ent, es.length = i ∧ (∀ e ∈ es, VT k e.v e.ts) ∧ RpA K H' acc (es.map (·.v))) (by have := sizeL; omega) ⟨eC.trans (Kx.same eD.to), hrC.sm eD.to, [], rfl, (fun c h => nomatch h), .nil⟩ (fun _ _ _ _ _ => True.intro) (fun i acc v H3 H4 Q1 hi hl hD hI y k1 => ?_) (fun acc H3 hl hD hI => ?_)
      · obtain ⟨rfl, rfl⟩ := y
        obtain ⟨e3, hr3, es, hel, hes, hR⟩ := hI
        refine ⟨rfl, _, rfl, _, rfl, _, _, rfl, rfl, r, k, _, rfl, by omega, by omega, hr3, fun v4 d4 t4 H4 e4 hr4 hv4 hd4 => ?_⟩
        have hD4 := e4 _ _ (fun z => hDr (show D = r from z).symm) hD
        have hm : Kx (M1 D) H4 (upd H4 D (.lst (acc ++ [v4]))) := Kx.put _ rfl
        refine k1 _ _ hD4 ⟨Kx.mut (e3.trans e4) _ nD0, rw_put hDr hr4, es ++ [⟨"", d4, t4⟩], by rw [List.length_append, hel]; rfl, fun e he => ?_, ?_⟩
        · rcases List.mem_append.mp he with he | he
          · exact hes e he
          · rw [List.mem_singleton.mp he]
            exact hd4
        · rw [List.map_append]
          exact ((hR.kx e4 hr3.nt).snoc hv4).kx hm (NoT.one hD4)
      · obtain ⟨e3, hr3, es, hel, hes, hR⟩ := hI
        refine ⟨D, acc, rfl, .inl ⟨SqL.of hD, fun l nl => ⟨(by show 2 ≤ sizeLine; decide), fun t nt => ?_⟩⟩⟩
        have e5 := Kx.new (M := M0) (.tup acc) nl
        have e6 := Kx.new (M := M0) (.tup [V.str z, V.ref l]) nt
        have e56 := e5.to.trans e6.to
        have hel8 : es.length ≤ 8 := by omega
        have hres : Rp K (upd (upd H3 l (.tup acc)) t (.tup [V.str z, V.ref l])) (.ref t) (.tuple [.str z, .tuple (es.map (·.v))]) := .tup (SqT.of upd_same) (.cons (.str _) (.cons (.tup (sq1 e6.to (SqT.of upd_same)) (hR.sm e56)) .nil))
        rcases hzz with rfl | rfl
        · exact kk _ _ _ _ (e3.trans (Kx.same e56)) (hr3.sm e56) hres (.inr (.inr (.inl ⟨es, hel8, hes, rfl, rfl⟩)))
        · exact kk _ _ _ _ (e3.trans (Kx.same e56)) (hr3.sm e56) hres (.inr (.inr (.inr (.inl ⟨es, hel8, hes, rfl, rfl⟩))))
    · refine if_f (decide_eq_false w3) ?_
      have eC : Kx (M1 r) H H2 := e1.trans e2
      have hrC := hr2
      refine ⟨_, rfl, _, rfl, by omega, by omega, fun D nD => ?_⟩
      have nD0 : H D = none := eC.free (ne_new hrC.ne nD) nD
      have hDr : r ≠ D := fun z => hr0.ne (by rw [z]; exact nD0)
      have eD := Kx.new (M := M0) (.lst []) nD
      refine lcS walk_range (fun i acc H' => Kx (M1 r) H H' ∧ Rw H' r ∧ ∃ es : List Ent, es.length = i ∧ (∀ e ∈ es, IsWord e.x ∧ VT k e.v e.ts) ∧ RpA K H' acc (es.map fun e => pairD e.x e.v)) (by have := sizeL; omega) ⟨eC.trans (Kx.same eD.to), hrC.sm eD.to, [], rfl, (fun c h => nomatch h), .nil⟩ (fun _ _ _ _ _ => True.intro) (fun i acc v H3 H4 Q1 hi hl hD hI y k1 => ?_) (fun acc H3 hl hD hI => ?_)
      · obtain ⟨rfl, rfl⟩ := y
        obtain ⟨e3, hr3, es, hel, hes, hR⟩ := hI
        refine ⟨rfl, _, rfl, r, rfl, hr3, fun x4 H4 e4 hr4 hx4 => ⟨_, rfl, _, rfl, _, _, rfl, rfl, r, k, _, rfl, by omega, by omega, hr4, fun u4 d4 t4 H5 e5 hr5 hv5 hd5 => ⟨(by show 2 ≤ sizeLine; decide), fun t nt => ?_⟩⟩⟩
        have e6 := Kx.new (M := M0) (.tup [V.str x4, u4]) nt
        have e46 := (e4.trans e5).trans (Kx.same e6.to)
        have hD4 := e46 _ _ (fun z => hDr (show D = r from z).symm) hD
        have hr6 := hr5.sm e6.to
        have hv4 : Rp K (upd H5 t (.tup [V.str x4, u4])) (.ref t) (pairD x4 d4) := .tup (SqT.of upd_same) (.cons (.str _) (.cons (hv5.sm e6.to) .nil))
        have hm : Kx (M1 D) (upd H5 t (.tup [V.str x4, u4])) (upd (upd H5 t (.tup [V.str x4, u4])) D (.lst (acc ++ [.ref t]))) := Kx.put _ rfl
        refine k1 _ _ hD4 ⟨Kx.mut (e3.trans e46) _ nD0, rw_put hDr hr6, es ++ [⟨x4, d4, t4⟩], by rw [List.length_append, hel]; rfl, fun e he => ?_, ?_⟩
        · rcases List.mem_append.mp he with he | he
          · exact hes e he
          · rw [List.mem_singleton.mp he]
            exact ⟨hx4, hd5⟩
        · rw [List.map_append]
          exact ((hR.kx e46 hr3.nt).snoc hv4).kx hm (NoT.one hD4)
      · obtain ⟨e3, hr3, es, hel, hes, hR⟩ := hI
        refine ⟨D, acc, rfl, .inl ⟨SqL.of hD, fun l nl => ⟨(by show 2 ≤ sizeLine; decide), fun t nt => ?_⟩⟩⟩
        have e5 := Kx.new (M := M0) (.tup acc) nl
        have e6 := Kx.new (M := M0) (.tup [V.str "record", V.ref l]) nt
        have e56 := e5.to.trans e6.to
        have hel8 : es.length ≤ 8 := by omega
        exact kk _ _ _ _ (e3.trans (Kx.same e56)) (hr3.sm e56) (.tup (SqT.of upd_same) (.cons (.str _) (.cons (.tup (sq1 e6.to (SqT.of upd_same)) (hR.sm e56)) .nil))) (.inr (.inr (.inr (.inr ⟨es, hel8, hes, rfl, rfl⟩))))
  intro _
  refine ⟨_, rfl, r, rfl, hr1, fun i H2 e2 hr2 hi => ⟨_, rfl, r, 9, rfl, by decide, hr2, fun x H3 e3 hr3 hx => ⟨(by show 2 ≤ sizeLine; decide), fun p np => ?_⟩⟩⟩
  have e4 := Kx.new (M := M0) (.lst [V.int i, V.str x]) np
  have hall : Kx (M1 r) H (upd H3 p (.lst [V.int i, V.str x])) := ((e1.trans e2).trans e3).trans (Kx.same e4.to)
  have ej : ((j : Nat) : Int) % 2 = 0 ∨ ((j : Nat) : Int) % 2 = 1 := by omega
  rcases ej with ej | ej
  · exact ⟨_, rfl, _, _, rfl, rfl, (by show (0 : Int) < 2; decide), p, _, _, V.int i, rfl, rfl, SqL.of upd_same, (by rw [ej]; rfl), kk _ _ _ _ hall (hr3.sm e4.to) (.int i) (vt_int hi)⟩
  · exact ⟨_, rfl, _, _, rfl, rfl, (by show (0 : Int) < 2; decide), p, _, _, V.str x, rfl, rfl, SqL.of upd_same, (by rw [ej]; rfl), kk _ _ _ _ hall (hr3.sm e4.to) (.str x) (vt_str hx)⟩
theorem ok_law_any_value (T : Txt w K mg) : ∀ N, C8.Cal P w K mg base (3 + N) "_law_any_value" (spValG K N) []
  | 0 => by
    refine calD (k := 2) (tell_law_any_value T) sc_law_any_value bind_law_any_value (fun vs H Q E h => ?_) (fun f cdv A outer s H vs Q E hr h => ?_)
    · obtain ⟨_, _, _, _, _, h, _⟩ := h
      omega
    · obtain ⟨_, _, _, _, _, h, _⟩ := h
      omega
  | N + 1 => cal_mono (ok_law_any_value_s T (by omega) (ok_law_any_value T N)) (by omega)
theorem ok_law_any_turn_s (T : Txt w K mg) {lv N : Nat} (hlv : 2 ≤ lv) (ih : C8.Cal P w K mg base lv "_law_any_turn" (spTurnG K N) []) : C8.Cal P w K mg base (lv + 1) "_law_any_turn" (spTurnG K (N + 1)) [] := by
  refine calD (tell_law_any_turn T) sc_law_any_turn bind_law_any_turn (fun vs H Q E h => ?_) (fun f cdv A outer s H vs Q E hr h => ?_)
  · obtain ⟨_, _, _, rfl, _⟩ := h
    rfl
  obtain ⟨r, n, deep, rfl, rfl, hn, hr0, kk⟩ := h
  refine ⟨_, (pss_cons (ps_set (i := 2) sc_law_any_turn.nd rfl (by first | exact Or.inl rfl | exact Or.inr rfl) (C8.pe_c (ok_law_digit T) hr (by omega) (by rfl) (pa_cons (pv 0) (pa_cons pe_int pa_nil))))
    (pss_cons (ps_if (PW.pt (pw_and (pt_cmpR op_eq (pv 2) pe_int (nomark _)) (pw_and1 (pt_cmpR op_gt (pv 1) pe_int (nomark _)))))
      (pss_one (ps_ret (pe_tup (pa_cons pe_str (pa_cons (C8.pe_c ih hr (by omega) (by rfl) (pa_cons (pv 0) (pa_cons (pe_op op_sub (pv 1) pe_int) pa_nil))) pa_nil)))))
      pss_nil)
    (pss_cons (ps_if (pt_cmpR op_eq (pv 2) pe_int (nomark _))
      (pss_cons (ps_set (i := 3) sc_law_any_turn.nd rfl (by first | exact Or.inl rfl | exact Or.inr rfl) (pe_callTy call_tuple_of (by rfl) T.m_tuple bt_tuple (pa_cons (pe_lc (own := [("k", 4)]) (by rfl) sc_law_any_turn.nd (pi_range1 (by rfl) T.m_range (pa_cons (pe_op op_add pe_int (C8.pe_c (ok_law_digit T) hr (by omega) (by rfl) (pa_cons (pv 0) (pa_cons pe_int pa_nil)))) pa_nil)) (blkOk_by (own := [("k", 4)]) (N := ["row", "deep", "way", "forth", "k"]) (sc := defScope s_law_any_turn) (by decide +kernel)) (fun _ _ _ _ _ => (pg_name (i := 4) sc_law_any_turn.nd rfl (by first | exact Or.inl rfl | exact Or.inr rfl))) (fun _ _ _ _ _ => pts_nil) (fun _ _ _ _ _ => (C8.pe_c (ok_law_word T) hr (by omega) (by rfl) (pa_cons (pv 0) pa_nil)))) pa_nil)))
      (pss_one (ps_ret (pe_tup (pa_cons pe_str (pa_cons (pv 3) (pa_cons (pe_callTy call_tuple_of (by rfl) T.m_tuple bt_tuple (pa_cons (pe_lc (own := [("k", 4)]) (by rfl) sc_law_any_turn.nd (pi_range1 (by rfl) T.m_range (pa_cons (pe_op op_add pe_int (C8.pe_c (ok_law_digit T) hr (by omega) (by rfl) (pa_cons (pv 0) (pa_cons pe_int pa_nil)))) pa_nil)) (blkOk_by (own := [("k", 4)]) (N := ["row", "deep", "way", "forth", "k"]) (sc := defScope s_law_any_turn) (by decide +kernel)) (fun _ _ _ _ _ => (pg_name (i := 4) sc_law_any_turn.nd rfl (by first | exact Or.inl rfl | exact Or.inr rfl))) (fun _ _ _ _ _ => pts_nil) (fun _ _ _ _ _ => (pe_tup (pa_cons (C8.pe_c (ok_law_word T) hr (by omega) (by rfl) (pa_cons (pv 0) pa_nil)) (pa_cons (C8.pe_c (ok_law_word T) hr (by omega) (by rfl) (pa_cons (pv 0) pa_nil)) pa_nil))))) pa_nil)) pa_nil)))))))
      pss_nil)
    (pss_cons (ps_if (pt_cmpR op_in_seq (pv 2) (pe_lst (pa_cons pe_int (pa_cons pe_int pa_nil))) rfl)
      (pss_one (ps_ret (pe_tup (pa_cons pe_str pa_nil))))
      pss_nil)
    (pss_cons (ps_if (pt_cmpR op_lt (pv 2) pe_int (nomark _))
      (pss_one (ps_ret (pe_tup (pa_cons (pe_ix ix_list (pe_lst (pa_cons pe_str (pa_cons pe_str pa_nil))) (pe_op op_sub (pv 2) pe_int) (fun _ _ => rfl)) (pa_cons (C8.pe_c (ok_law_any_number T) hr (by omega) (by rfl) (pa_cons (pv 0) pa_nil)) (pa_cons (C8.pe_c (ok_law_any_number T) hr (by omega) (by rfl) (pa_cons (pv 0) pa_nil)) pa_nil))))))
      pss_nil)
    (pss_one (ps_ret (pe_tup (pa_cons (pe_ix ix_list (pe_lst (pa_cons pe_str (pa_cons pe_str (pa_cons pe_str (pa_cons pe_str (pa_cons pe_str (pa_cons pe_str pa_nil))))))) (pe_op op_mod (pe_op op_add (pv 2) (pv 1)) pe_int) (fun _ _ => rfl)) (pa_cons (C8.pe_c (ok_law_any_number T) hr (by omega) (by rfl) (pa_cons (pv 0) pa_nil)) pa_nil)))))))))), ?_⟩
  refine ⟨_, rfl, r, 10, rfl, by decide +kernel, hr0, fun d1 H1 b1 e1 hr1 => ?_⟩
  obtain ⟨j, rfl, hj⟩ := nat_of b1 (k := 10) rfl
  match j, hj with
  | 0, _ =>
    refine ⟨_, rfl, rfl, _, rfl, if_t (by decide +kernel) ⟨_, rfl, _, _, rfl, rfl, _, rfl, ?_⟩⟩
    by_cases w1 : 0 < ((n : Nat) : Int)
    · refine if_t (decide_eq_true w1) ?_
      obtain ⟨k, rfl⟩ : ∃ k, n = k + 1 := ⟨n - 1, by omega⟩
      refine ⟨_, rfl, _, rfl, _, _, rfl, rfl, r, k, _, rfl, by omega, by omega, hr1, fun v d ts H2 e2 hr2 hv hd => ⟨(by show 2 ≤ sizeLine; decide), fun t nt => ?_⟩⟩
      have et := Kx.new (M := M0) (.tup [V.str "items", v]) nt
      exact kk _ _ (fmt "items" [ts]) _ ((e1.trans e2).trans (Kx.same et.to)) (hr2.sm et.to) (.tup (SqT.of upd_same) (.cons (.str _) (.cons (hv.sm et.to) .nil))) (.inr ⟨"items", "t", [d], [ts], (by unfold turnF; decide +kernel), ⟨.inr (.inr (.inr (.inr (.inl ⟨rfl, hd⟩)))), trivial⟩, rfl, rfl⟩)
    · refine if_f (decide_eq_false w1) ?_
      refine ⟨_, rfl, rfl, _, rfl, if_f (by decide +kernel) ?_⟩
      refine ⟨_, rfl, (by show 2 ≤ sizeLine; decide), fun p np => ⟨p, _, rfl, .inl (SqL.of upd_same), rfl, rfl, _, rfl, if_t (by decide +kernel) ?_⟩⟩
      have ep := Kx.new (M := M0) (.lst [V.int 0, V.int 2]) np
      refine ⟨(by show 1 ≤ sizeLine; decide), fun t nt => ?_⟩
      have et := Kx.new (M := M0) (.tup [V.str "out"]) nt
      exact kk _ _ (fmt "out" []) _ ((e1.trans (Kx.same ep.to)).trans (Kx.same et.to)) ((hr1.sm ep.to).sm et.to) (.tup (SqT.of upd_same) (.cons (.str _) .nil)) (.inr ⟨"out", "", [], [], (by unfold turnF; decide +kernel), trivial, rfl, rfl⟩)
  | 1, _ =>
    refine ⟨_, rfl, rfl, _, rfl, if_f (by decide +kernel) ?_⟩
    refine ⟨_, rfl, rfl, _, rfl, if_t (by decide +kernel) ?_⟩
    refine ⟨_, rfl, r, 4, rfl, by decide +kernel, hr1, fun d2 H2 b2 e2 hr2 => ⟨_, _, rfl, rfl, ?_⟩⟩
    have eC : Kx (M1 r) H H2 := e1.trans e2
    have hrC := hr2
    refine ⟨_, rfl, by omega, by omega, fun D nD => ?_⟩
    have nD0 : H D = none := eC.free (ne_new hrC.ne nD) nD
    have hDr : r ≠ D := fun z => hr0.ne (by rw [z]; exact nD0)
    have eD := Kx.new (M := M0) (.lst []) nD
    refine lcS walk_range (fun i acc H' => Kx (M1 r) H H' ∧ Rw H' r ∧ ∃ ws : List Str, ws.length = i ∧ (∀ x ∈ ws, IsWord x) ∧ acc = ws.map V.str) (by have := sizeL; omega) ⟨eC.trans (Kx.same eD.to), hrC.sm eD.to, [], rfl, (fun c h => nomatch h), rfl⟩ (fun _ _ _ _ _ => True.intro) (fun i acc v H3 H4 Q1 hi hl hD hI y k1 => ?_) (fun acc H3 hl hD hI => ?_)
    · obtain ⟨rfl, rfl⟩ := y
      obtain ⟨e3, hr3, ws, hel, hes, rfl⟩ := hI
      refine ⟨rfl, _, rfl, r, rfl, hr3, fun x4 H4 e4 hr4 hx4 => ?_⟩
      have hD4 := e4 _ _ (fun z => hDr (show D = r from z).symm) hD
      refine k1 _ _ hD4 ⟨Kx.mut (e3.trans e4) _ nD0, rw_put hDr hr4, ws ++ [x4], by rw [List.length_append, hel]; rfl, fun e he => ?_, ?_⟩
      · rcases List.mem_append.mp he with he | he
        · exact hes e he
        · rw [List.mem_singleton.mp he]
          exact hx4
      · rw [List.map_append]
        rfl
    · obtain ⟨e3, hr3, ws, hel, hes, rfl⟩ := hI
      have hes0 := hes
      have hel0 := hel
      refine ⟨D, _, rfl, .inl ⟨SqL.of hD, fun l nl => ?_⟩⟩
      have e5 := Kx.new (M := M0) (.tup (ws.map V.str)) nl
      refine ⟨_, rfl, _, rfl, r, 4, rfl, by decide +kernel, hr3.sm e5.to, fun d6 H6 b6 e6 hr6 => ⟨_, _, rfl, rfl, ?_⟩⟩
      have eC2 : Kx (M1 r) H H6 := (e3.trans (Kx.same e5.to)).trans e6
      have hrC2 := hr6
      have hl6 : Rp K H6 (.ref l) (.tuple (ws.map .str)) := (Rp.tup (show SqT K (upd H3 l (.tup (ws.map V.str))) l (ws.map V.str) from SqT.of upd_same) RpA.of_strs).kx e6 (hr3.sm e5.to).nt
      have hrn := hr6.nt
      refine ⟨_, rfl, by omega, by omega, fun D2 nD2 => ?_⟩
      have nE0 : H D2 = none := eC2.free (ne_new hrC2.ne nD2) nD2
      have hEr : r ≠ D2 := fun z => hr0.ne (by rw [z]; exact nE0)
      have eE := Kx.new (M := M0) (.lst []) nD2
      refine lcS walk_range (fun i acc H' => Kx (M1 r) H H' ∧ Rw H' r ∧ Kx (M1 r) H6 H' ∧ ∃ ps : List Two, ps.length = i ∧ (∀ x ∈ ps, IsWord x.x ∧ IsWord x.y) ∧ RpA K H' acc (ps.map fun p => pairD p.x (.str p.y))) (by have := sizeL; omega) ⟨eC2.trans (Kx.same eE.to), hrC2.sm eE.to, Kx.same eE.to, [], rfl, (fun c h => nomatch h), .nil⟩ (fun _ _ _ _ _ => True.intro) (fun i acc v H3 H4 Q1 hi hl hD hI y k1 => ?_) (fun acc H3 hl hD hI => ?_)
      · obtain ⟨rfl, rfl⟩ := y
        obtain ⟨e3, hr3, ec3, ps, hel, hes, hR⟩ := hI
        refine ⟨rfl, _, rfl, r, rfl, hr3, fun x4 H4 e4 hr4 hx4 => ⟨_, rfl, r, rfl, hr4, fun x5 H5 e5 hr5 hx5 => ⟨(by show 2 ≤ sizeLine; decide), fun t nt => ?_⟩⟩⟩
        have e6 := Kx.new (M := M0) (.tup [V.str x4, V.str x5]) nt
        have e46 := (e4.trans e5).trans (Kx.same e6.to)
        have hD4 := e46 _ _ (fun z => hEr (show D2 = r from z).symm) hD
        have hm : Kx (M1 D2) (upd H5 t (.tup [V.str x4, V.str x5])) (upd (upd H5 t (.tup [V.str x4, V.str x5])) D2 (.lst (acc ++ [.ref t]))) := Kx.put _ rfl
        refine k1 _ _ hD4 ⟨Kx.mut (e3.trans e46) _ nE0, rw_put hEr (hr5.sm e6.to), Kx.mut (ec3.trans e46) _ nD2, ps ++ [⟨x4, x5⟩], by rw [List.length_append, hel]; rfl, fun e he => ?_, ?_⟩
        · rcases List.mem_append.mp he with he | he
          · exact hes e he
          · rw [List.mem_singleton.mp he]
            exact ⟨hx4, hx5⟩
        · rw [List.map_append]
          exact ((hR.kx e46 hr3.nt).snoc (.tup (SqT.of upd_same) (.cons (.str _) (.cons (.str _) .nil)))).kx hm (NoT.one hD4)
      · obtain ⟨e3, hr3, ec3, ps, hel, hes, hR⟩ := hI
        refine ⟨D2, _, rfl, .inl ⟨SqL.of hD, fun l2 nl2 => ⟨(by show 3 ≤ sizeLine; decide), fun t nt => ?_⟩⟩⟩
        have e7 := Kx.new (M := M0) (.tup acc) nl2
        have e8 := Kx.new (M := M0) (.tup [V.str "words", V.ref l, V.ref l2]) nt
        have e78 := e7.to.trans e8.to
        exact kk _ _ _ _ (e3.trans (Kx.same e78)) (hr3.sm e78) (.tup (SqT.of upd_same) (.cons (.str _) (.cons ((hl6.kx ec3 hrn).sm e78) (.cons (.tup (sq1 e8.to (SqT.of upd_same)) (hR.sm e78)) .nil)))) (.inl ⟨ws, ps, by omega, by omega, hes0, hes, rfl, rfl⟩)
  | 2, _ =>
    refine ⟨_, rfl, rfl, _, rfl, if_f (by decide +kernel) ?_⟩
    refine ⟨_, rfl, rfl, _, rfl, if_f (by decide +kernel) ?_⟩
    refine ⟨_, rfl, (by show 2 ≤ sizeLine; decide), fun p np => ⟨p, _, rfl, .inl (SqL.of upd_same), rfl, rfl, _, rfl, if_t (by decide +kernel) ?_⟩⟩
    have ep := Kx.new (M := M0) (.lst [V.int 0, V.int 2]) np
    refine ⟨(by show 1 ≤ sizeLine; decide), fun t nt => ?_⟩
    have et := Kx.new (M := M0) (.tup [V.str "out"]) nt
    exact kk _ _ (fmt "out" []) _ ((e1.trans (Kx.same ep.to)).trans (Kx.same et.to)) ((hr1.sm ep.to).sm et.to) (.tup (SqT.of upd_same) (.cons (.str _) .nil)) (.inr ⟨"out", "", [], [], (by unfold turnF; decide +kernel), trivial, rfl, rfl⟩)
  | 3, _ =>
    refine ⟨_, rfl, rfl, _, rfl, if_f (by decide +kernel) ?_⟩
    refine ⟨_, rfl, rfl, _, rfl, if_f (by decide +kernel) ?_⟩
    refine ⟨_, rfl, (by show 2 ≤ sizeLine; decide), fun p np => ⟨p, _, rfl, .inl (SqL.of upd_same), rfl, rfl, _, rfl, if_f (by decide +kernel) ?_⟩⟩
    have ep := Kx.new (M := M0) (.lst [V.int 0, V.int 2]) np
    refine ⟨_, rfl, _, _, rfl, rfl, _, rfl, if_t (by decide +kernel) ?_⟩
    refine ⟨(by show 2 ≤ sizeLine; decide), fun q nq => ?_⟩
    have eq := Kx.new (M := M0) (.lst [V.str "bounds", V.str "number"]) nq
    refine ⟨_, rfl, _, _, rfl, rfl, q, _, _, V.str "bounds", rfl, rfl, SqL.of upd_same, rfl, ?_⟩
    refine ⟨_, rfl, r, rfl, (hr1.sm ep.to).sm eq.to, fun i2 H2 e2 hr2 hi2 => ⟨_, rfl, r, rfl, hr2, fun i3 H3 e3 hr3 hi3 => ⟨(by show 3 ≤ sizeLine; decide), fun t nt => ?_⟩⟩⟩
    have et := Kx.new (M := M0) (.tup [V.str "bounds", V.int i2, V.int i3]) nt
    exact kk _ _ (fmt "bounds" [[.n i2], [.n i3]]) _ (((((e1.trans (Kx.same ep.to)).trans (Kx.same eq.to)).trans e2).trans e3).trans (Kx.same et.to)) (hr3.sm et.to) (.tup (SqT.of upd_same) (.cons (.str _) (.cons (.int _) (.cons (.int _) .nil)))) (.inr ⟨"bounds", "mm", [.int i2, .int i3], [[.n i2], [.n i3]], (by unfold turnF; decide +kernel), ⟨.inr (.inl ⟨rfl, i2, hi2, rfl, rfl⟩), .inr (.inl ⟨rfl, i3, hi3, rfl, rfl⟩), trivial⟩, rfl, rfl⟩)
  | 4, _ =>
    refine ⟨_, rfl, rfl, _, rfl, if_f (by decide +kernel) ?_⟩
    refine ⟨_, rfl, rfl, _, rfl, if_f (by decide +kernel) ?_⟩
    refine ⟨_, rfl, (by show 2 ≤ sizeLine; decide), fun p np => ⟨p, _, rfl, .inl (SqL.of upd_same), rfl, rfl, _, rfl, if_f (by decide +kernel) ?_⟩⟩
    have ep := Kx.new (M := M0) (.lst [V.int 0, V.int 2]) np
    refine ⟨_, rfl, _, _, rfl, rfl, _, rfl, if_t (by decide +kernel) ?_⟩
    refine ⟨(by show 2 ≤ sizeLine; decide), fun q nq => ?_⟩
    have eq := Kx.new (M := M0) (.lst [V.str "bounds", V.str "number"]) nq
    refine ⟨_, rfl, _, _, rfl, rfl, q, _, _, V.str "number", rfl, rfl, SqL.of upd_same, rfl, ?_⟩
    refine ⟨_, rfl, r, rfl, (hr1.sm ep.to).sm eq.to, fun i2 H2 e2 hr2 hi2 => ⟨_, rfl, r, rfl, hr2, fun i3 H3 e3 hr3 hi3 => ⟨(by show 3 ≤ sizeLine; decide), fun t nt => ?_⟩⟩⟩
    have et := Kx.new (M := M0) (.tup [V.str "number", V.int i2, V.int i3]) nt
    exact kk _ _ (fmt "number" [[.n i2], [.n i3]]) _ (((((e1.trans (Kx.same ep.to)).trans (Kx.same eq.to)).trans e2).trans e3).trans (Kx.same et.to)) (hr3.sm et.to) (.tup (SqT.of upd_same) (.cons (.str _) (.cons (.int _) (.cons (.int _) .nil)))) (.inr ⟨"number", "mm", [.int i2, .int i3], [[.n i2], [.n i3]], (by unfold turnF; decide +kernel), ⟨.inr (.inl ⟨rfl, i2, hi2, rfl, rfl⟩), .inr (.inl ⟨rfl, i3, hi3, rfl, rfl⟩), trivial⟩, rfl, rfl⟩)
  | 5, _ =>
    refine ⟨_, rfl, rfl, _, rfl, if_f (by decide +kernel) ?_⟩
    refine ⟨_, rfl, rfl, _, rfl, if_f (by decide +kernel) ?_⟩
    refine ⟨_, rfl, (by show 2 ≤ sizeLine; decide), fun p np => ⟨p, _, rfl, .inl (SqL.of upd_same), rfl, rfl, _, rfl, if_f (by decide +kernel) ?_⟩⟩
    have ep := Kx.new (M := M0) (.lst [V.int 0, V.int 2]) np
    refine ⟨_, rfl, _, _, rfl, rfl, _, rfl, if_f (by decide +kernel) ?_⟩
    refine ⟨(by show 6 ≤ sizeLine; decide), fun q nq => ?_⟩
    have eq := Kx.new (M := M0) (.lst (sixW.map V.str)) nq
    have hix : (((5 : Nat) : Int) + ((n : Nat) : Int)) % 6 = (((5 + n) % 6 : Nat) : Int) := by omega
    obtain ⟨z, hz, hza⟩ := at_of_mem (xs := sixW) (j := (5 + n) % 6) (Nat.mod_lt _ (by decide))
    refine ⟨_, rfl, _, rfl, _, _, rfl, rfl, _, _, rfl, rfl, (by show (0 : Int) < 6; decide), q, _, _, V.str z, rfl, rfl, SqL.of upd_same, (hix ▸ hza), ?_⟩
    refine ⟨_, rfl, r, rfl, (hr1.sm ep.to).sm eq.to, fun i2 H2 e2 hr2 hi2 => ⟨(by show 2 ≤ sizeLine; decide), fun t nt => ?_⟩⟩
    have et := Kx.new (M := M0) (.tup [V.str z, V.int i2]) nt
    exact kk _ _ (fmt z [[.n i2]]) _ ((((e1.trans (Kx.same ep.to)).trans (Kx.same eq.to)).trans e2).trans (Kx.same et.to)) (hr2.sm et.to) (.tup (SqT.of upd_same) (.cons (.str _) (.cons (.int _) .nil))) (.inr ⟨z, "m", [.int i2], [[.n i2]], sixW_ok z hz, ⟨.inr (.inl ⟨rfl, i2, hi2, rfl, rfl⟩), trivial⟩, rfl, rfl⟩)
  | 6, _ =>
    refine ⟨_, rfl, rfl, _, rfl, if_f (by decide +kernel) ?_⟩
    refine ⟨_, rfl, rfl, _, rfl, if_f (by decide +kernel) ?_⟩
    refine ⟨_, rfl, (by show 2 ≤ sizeLine; decide), fun p np => ⟨p, _, rfl, .inl (SqL.of upd_same), rfl, rfl, _, rfl, if_f (by decide +kernel) ?_⟩⟩
    have ep := Kx.new (M := M0) (.lst [V.int 0, V.int 2]) np
    refine ⟨_, rfl, _, _, rfl, rfl, _, rfl, if_f (by decide +kernel) ?_⟩
    refine ⟨(by show 6 ≤ sizeLine; decide), fun q nq => ?_⟩
    have eq := Kx.new (M := M0) (.lst (sixW.map V.str)) nq
    have hix : (((6 : Nat) : Int) + ((n : Nat) : Int)) % 6 = (((6 + n) % 6 : Nat) : Int) := by omega
    obtain ⟨z, hz, hza⟩ := at_of_mem (xs := sixW) (j := (6 + n) % 6) (Nat.mod_lt _ (by decide))
    refine ⟨_, rfl, _, rfl, _, _, rfl, rfl, _, _, rfl, rfl, (by show (0 : Int) < 6; decide), q, _, _, V.str z, rfl, rfl, SqL.of upd_same, (hix ▸ hza), ?_⟩
    refine ⟨_, rfl, r, rfl, (hr1.sm ep.to).sm eq.to, fun i2 H2 e2 hr2 hi2 => ⟨(by show 2 ≤ sizeLine; decide), fun t nt => ?_⟩⟩
    have et := Kx.new (M := M0) (.tup [V.str z, V.int i2]) nt
    exact kk _ _ (fmt z [[.n i2]]) _ ((((e1.trans (Kx.same ep.to)).trans (Kx.same eq.to)).trans e2).trans (Kx.same et.to)) (hr2.sm et.to) (.tup (SqT.of upd_same) (.cons (.str _) (.cons (.int _) .nil))) (.inr ⟨z, "m", [.int i2], [[.n i2]], sixW_ok z hz, ⟨.inr (.inl ⟨rfl, i2, hi2, rfl, rfl⟩), trivial⟩, rfl, rfl⟩)
  | 7, _ =>
    refine ⟨_, rfl, rfl, _, rfl, if_f (by decide +kernel) ?_⟩
    refine ⟨_, rfl, rfl, _, rfl, if_f (by decide +kernel) ?_⟩
    refine ⟨_, rfl, (by show 2 ≤ sizeLine; decide), fun p np => ⟨p, _, rfl, .inl (SqL.of upd_same), rfl, rfl, _, rfl, if_f (by decide +kernel) ?_⟩⟩
    have ep := Kx.new (M := M0) (.lst [V.int 0, V.int 2]) np
    refine ⟨_, rfl, _, _, rfl, rfl, _, rfl, if_f (by decide +kernel) ?_⟩
    refine ⟨(by show 6 ≤ sizeLine; decide), fun q nq => ?_⟩
    have eq := Kx.new (M := M0) (.lst (sixW.map V.str)) nq
    have hix : (((7 : Nat) : Int) + ((n : Nat) : Int)) % 6 = (((7 + n) % 6 : Nat) : Int) := by omega
    obtain ⟨z, hz, hza⟩ := at_of_mem (xs := sixW) (j := (7 + n) % 6) (Nat.mod_lt _ (by decide))
    refine ⟨_, rfl, _, rfl, _, _, rfl, rfl, _, _, rfl, rfl, (by show (0 : Int) < 6; decide), q, _, _, V.str z, rfl, rfl, SqL.of upd_same, (hix ▸ hza), ?_⟩
    refine ⟨_, rfl, r, rfl, (hr1.sm ep.to).sm eq.to, fun i2 H2 e2 hr2 hi2 => ⟨(by show 2 ≤ sizeLine; decide), fun t nt => ?_⟩⟩
    have et := Kx.new (M := M0) (.tup [V.str z, V.int i2]) nt
    exact kk _ _ (fmt z [[.n i2]]) _ ((((e1.trans (Kx.same ep.to)).trans (Kx.same eq.to)).trans e2).trans (Kx.same et.to)) (hr2.sm et.to) (.tup (SqT.of upd_same) (.cons (.str _) (.cons (.int _) .nil))) (.inr ⟨z, "m", [.int i2], [[.n i2]], sixW_ok z hz, ⟨.inr (.inl ⟨rfl, i2, hi2, rfl, rfl⟩), trivial⟩, rfl, rfl⟩)
  | 8, _ =>
    refine ⟨_, rfl, rfl, _, rfl, if_f (by decide +kernel) ?_⟩
    refine ⟨_, rfl, rfl, _, rfl, if_f (by decide +kernel) ?_⟩
    refine ⟨_, rfl, (by show 2 ≤ sizeLine; decide), fun p np => ⟨p, _, rfl, .inl (SqL.of upd_same), rfl, rfl, _, rfl, if_f (by decide +kernel) ?_⟩⟩
    have ep := Kx.new (M := M0) (.lst [V.int 0, V.int 2]) np
    refine ⟨_, rfl, _, _, rfl, rfl, _, rfl, if_f (by decide +kernel) ?_⟩
    refine ⟨(by show 6 ≤ sizeLine; decide), fun q nq => ?_⟩
    have eq := Kx.new (M := M0) (.lst (sixW.map V.str)) nq
    have hix : (((8 : Nat) : Int) + ((n : Nat) : Int)) % 6 = (((8 + n) % 6 : Nat) : Int) := by omega
    obtain ⟨z, hz, hza⟩ := at_of_mem (xs := sixW) (j := (8 + n) % 6) (Nat.mod_lt _ (by decide))
    refine ⟨_, rfl, _, rfl, _, _, rfl, rfl, _, _, rfl, rfl, (by show (0 : Int) < 6; decide), q, _, _, V.str z, rfl, rfl, SqL.of upd_same, (hix ▸ hza), ?_⟩
    refine ⟨_, rfl, r, rfl, (hr1.sm ep.to).sm eq.to, fun i2 H2 e2 hr2 hi2 => ⟨(by show 2 ≤ sizeLine; decide), fun t nt => ?_⟩⟩
    have et := Kx.new (M := M0) (.tup [V.str z, V.int i2]) nt
    exact kk _ _ (fmt z [[.n i2]]) _ ((((e1.trans (Kx.same ep.to)).trans (Kx.same eq.to)).trans e2).trans (Kx.same et.to)) (hr2.sm et.to) (.tup (SqT.of upd_same) (.cons (.str _) (.cons (.int _) .nil))) (.inr ⟨z, "m", [.int i2], [[.n i2]], sixW_ok z hz, ⟨.inr (.inl ⟨rfl, i2, hi2, rfl, rfl⟩), trivial⟩, rfl, rfl⟩)
  | 9, _ =>
    refine ⟨_, rfl, rfl, _, rfl, if_f (by decide +kernel) ?_⟩
    refine ⟨_, rfl, rfl, _, rfl, if_f (by decide +kernel) ?_⟩
    refine ⟨_, rfl, (by show 2 ≤ sizeLine; decide), fun p np => ⟨p, _, rfl, .inl (SqL.of upd_same), rfl, rfl, _, rfl, if_f (by decide +kernel) ?_⟩⟩
    have ep := Kx.new (M := M0) (.lst [V.int 0, V.int 2]) np
    refine ⟨_, rfl, _, _, rfl, rfl, _, rfl, if_f (by decide +kernel) ?_⟩
    refine ⟨(by show 6 ≤ sizeLine; decide), fun q nq => ?_⟩
    have eq := Kx.new (M := M0) (.lst (sixW.map V.str)) nq
    have hix : (((9 : Nat) : Int) + ((n : Nat) : Int)) % 6 = (((9 + n) % 6 : Nat) : Int) := by omega
    obtain ⟨z, hz, hza⟩ := at_of_mem (xs := sixW) (j := (9 + n) % 6) (Nat.mod_lt _ (by decide))
    refine ⟨_, rfl, _, rfl, _, _, rfl, rfl, _, _, rfl, rfl, (by show (0 : Int) < 6; decide), q, _, _, V.str z, rfl, rfl, SqL.of upd_same, (hix ▸ hza), ?_⟩
    refine ⟨_, rfl, r, rfl, (hr1.sm ep.to).sm eq.to, fun i2 H2 e2 hr2 hi2 => ⟨(by show 2 ≤ sizeLine; decide), fun t nt => ?_⟩⟩
    have et := Kx.new (M := M0) (.tup [V.str z, V.int i2]) nt
    exact kk _ _ (fmt z [[.n i2]]) _ ((((e1.trans (Kx.same ep.to)).trans (Kx.same eq.to)).trans e2).trans (Kx.same et.to)) (hr2.sm et.to) (.tup (SqT.of upd_same) (.cons (.str _) (.cons (.int _) .nil))) (.inr ⟨z, "m", [.int i2], [[.n i2]], sixW_ok z hz, ⟨.inr (.inl ⟨rfl, i2, hi2, rfl, rfl⟩), trivial⟩, rfl, rfl⟩)
theorem ok_law_any_turn (T : Txt w K mg) : ∀ N, C8.Cal P w K mg base (3 + N) "_law_any_turn" (spTurnG K N) []
  | 0 => by
    refine calD (k := 2) (tell_law_any_turn T) sc_law_any_turn bind_law_any_turn (fun vs H Q E h => ?_) (fun f cdv A outer s H vs Q E hr h => ?_)
    · obtain ⟨_, _, _, _, _, h, _⟩ := h
      omega
    · obtain ⟨_, _, _, _, _, h, _⟩ := h
      omega
  | N + 1 => cal_mono (ok_law_any_turn_s T (by omega) (ok_law_any_turn T N)) (by omega)
def spPathG (K : PySem.W.Frag) : Sp := spGen K PathT
theorem ok_law_any_path (T : Txt w K mg) : C8.Cal P w K mg base (3) "_law_any_path" (spPathG K) [] := by
  refine calD (tell_law_any_path T) sc_law_any_path bind_law_any_path (fun vs H Q E h => ?_) (fun f cdv A outer s H vs Q E hr h => ?_)
  · obtain ⟨_, rfl, _⟩ := h
    rfl
  obtain ⟨r, rfl, hr0, kk⟩ := h
  refine ⟨_, (pss_one (ps_ret (pe_callTy call_tuple_of (by rfl) T.m_tuple bt_tuple (pa_cons (pe_lc (own := [("k", 1)]) (by rfl) sc_law_any_path.nd (pi_range1 (by rfl) T.m_range (pa_cons (C8.pe_c (ok_law_digit T) hr (by decide) (by rfl) (pa_cons (pv 0) (pa_cons pe_int pa_nil))) pa_nil)) (blkOk_by (own := [("k", 1)]) (N := ["row", "k"]) (sc := defScope s_law_any_path) (by decide +kernel)) (fun _ _ _ _ _ => (pg_name (i := 1) sc_law_any_path.nd rfl (by first | exact Or.inl rfl | exact Or.inr rfl))) (fun _ _ _ _ _ => pts_nil) (fun _ _ _ _ _ => (C8.pe_c (ok_law_word T) hr (by decide) (by rfl) (pa_cons (pv 0) pa_nil)))) pa_nil)))), ?_⟩
  refine ⟨_, rfl, r, 9, rfl, by decide +kernel, hr0, fun d2 H2 b2 e2 hr2 => ?_⟩
  have eC : Kx (M1 r) H H2 := e2
  have hrC := hr2
  refine ⟨_, rfl, by omega, by omega, fun D nD => ?_⟩
  have nD0 : H D = none := eC.free (ne_new hrC.ne nD) nD
  have hDr : r ≠ D := fun z => hr0.ne (by rw [z]; exact nD0)
  have eD := Kx.new (M := M0) (.lst []) nD
  refine lcS walk_range (fun i acc H' => Kx (M1 r) H H' ∧ Rw H' r ∧ ∃ ws : List Str, ws.length = i ∧ (∀ x ∈ ws, IsWord x) ∧ acc = ws.map V.str) (by have := sizeL; omega) ⟨eC.trans (Kx.same eD.to), hrC.sm eD.to, [], rfl, (fun c h => nomatch h), rfl⟩ (fun _ _ _ _ _ => True.intro) (fun i acc v H3 H4 Q1 hi hl hD hI y k1 => ?_) (fun acc H3 hl hD hI => ?_)
  · obtain ⟨rfl, rfl⟩ := y
    obtain ⟨e3, hr3, ws, hel, hes, rfl⟩ := hI
    refine ⟨rfl, _, rfl, r, rfl, hr3, fun x4 H4 e4 hr4 hx4 => ?_⟩
    have hD4 := e4 _ _ (fun z => hDr (show D = r from z).symm) hD
    refine k1 _ _ hD4 ⟨Kx.mut (e3.trans e4) _ nD0, rw_put hDr hr4, ws ++ [x4], by rw [List.length_append, hel]; rfl, fun e he => ?_, ?_⟩
    · rcases List.mem_append.mp he with he | he
      · exact hes e he
      · rw [List.mem_singleton.mp he]
        exact hx4
    · rw [List.map_append]
      rfl
  · obtain ⟨e3, hr3, ws, hel, hes, rfl⟩ := hI
    refine ⟨D, _, rfl, .inl ⟨SqL.of hD, fun l nl => ?_⟩⟩
    have e5 := Kx.new (M := M0) (.tup (ws.map V.str)) nl
    exact kk _ _ _ _ (e3.trans (Kx.same e5.to)) (hr3.sm e5.to) (.tup (SqT.of upd_same) RpA.of_strs) ⟨ws, by omega, hes, rfl, rfl⟩
end
end OH
end

section
set_option Elab.async false
set_option linter.all false
set_option maxRecDepth 100000
set_option maxHeartbeats 4000000
set_option autoImplicit false
namespace OH
open PySem PySem.Spec PyProof.Rows L2
theorem VT_succ : ∀ {n : Nat} {d : PyData} {ts : List Tk}, VT n d ts → VT (n + 1) d ts
  | 0, _, _, h => by
    rcases h with h | h
    · exact .inl h
    · exact .inr (.inl h)
  | n + 1, _, _, h => by
    rcases h with h | h | ⟨es, h1, h2, h3, h4⟩ | ⟨es, h1, h2, h3, h4⟩ | ⟨es, h1, h2, h3, h4⟩
    · exact .inl h
    · exact .inr (.inl h)
    · exact .inr (.inr (.inl ⟨es, h1, fun e he => VT_succ (h2 e he), h3, h4⟩))
    · exact .inr (.inr (.inr (.inl ⟨es, h1, fun e he => VT_succ (h2 e he), h3, h4⟩)))
    · exact .inr (.inr (.inr (.inr ⟨es, h1, fun e he => ⟨(h2 e he).1, VT_succ (h2 e he).2⟩, h3, h4⟩)))
theorem kx_drop {H H1 H2 : Hp} {r m : Addr} (e1 : Same H H1) (hm : H m = none) (e2 : Kx (M2 r m) H1 H2) : Kx (M1 r) H H2 := fun a o n h => e2 a o (fun z => by
  rcases z with z | z
  · exact n z
  · rw [z, hm] at h
    cases h) (e1 a o h)
theorem m_in : ∀ x ∈ pieceF, x ∈ pieceF := fun _ h => h
section
variable {P : Program} {w : World} {K : PySem.W.Frag} {mg : Str → Option Value} {base : Heap}
theorem ok_law_any_piece (T : Txt w K mg) : C8.Cal P w K mg base (13) "_law_any_piece" (spGen K PT) [] := by
  refine calD (tell_law_any_piece T) sc_law_any_piece bind_law_any_piece (fun vs H Q E h => ?_) (fun f cdv A outer s H vs Q E hr h => ?_)
  · obtain ⟨_, rfl, _⟩ := h
    rfl
  obtain ⟨r, rfl, hr0, kk⟩ := h
  refine ⟨_, (pss_cons (ps_set (i := 1) sc_law_any_piece.nd rfl (by first | exact Or.inl rfl | exact Or.inr rfl) (C8.pe_c (ok_law_digit T) hr (by decide) (by rfl) (pa_cons (pv 0) (pa_cons pe_int pa_nil))))
    (pss_cons (ps_asg (pe_tup (pa_cons (C8.pe_c (ok_law_word T) hr (by decide) (by rfl) (pa_cons (pv 0) pa_nil)) (pa_cons (C8.pe_c (ok_law_word T) hr (by decide) (by rfl) (pa_cons (pv 0) pa_nil)) (pa_cons (C8.pe_c (ok_law_word T) hr (by decide) (by rfl) (pa_cons (pv 0) pa_nil)) (pa_cons (C8.pe_c (ok_law_any_number T) hr (by decide) (by rfl) (pa_cons (pv 0) pa_nil)) pa_nil))))) (pg_tup rfl (pgs_cons (pg_name (i := 2) sc_law_any_piece.nd rfl (by first | exact Or.inl rfl | exact Or.inr rfl)) (pgs_cons (pg_name (i := 3) sc_law_any_piece.nd rfl (by first | exact Or.inl rfl | exact Or.inr rfl)) (pgs_cons (pg_name (i := 4) sc_law_any_piece.nd rfl (by first | exact Or.inl rfl | exact Or.inr rfl)) (pgs_cons (pg_name (i := 5) sc_law_any_piece.nd rfl (by first | exact Or.inl rfl | exact Or.inr rfl)) pgs_nil))))))
    (pss_cons (ps_if (pt_cmpR op_eq (pv 1) pe_int (nomark _))
      (pss_one (ps_ret (pe_tup (pa_cons pe_str (pa_cons (pv 2) (pa_cons (C8.pe_c (ok_law_kind T 4) hr (by decide) (by rfl) (pa_cons (pv 0) (pa_cons pe_int (pa_cons (pe_lst (pa_cons pe_int pa_nil)) pa_nil)))) (pa_cons (C8.pe_c (ok_law_any_value T 4) hr (by decide) (by rfl) (pa_cons (pv 0) (pa_cons pe_int pa_nil))) pa_nil)))))))
      pss_nil)
    (pss_cons (ps_if (pt_cmpR op_eq (pv 1) pe_int (nomark _))
      (pss_one (ps_ret (pe_tup (pa_cons pe_str (pa_cons (pv 2) (pa_cons (C8.pe_c (ok_law_any_value T 4) hr (by decide) (by rfl) (pa_cons (pv 0) (pa_cons pe_int pa_nil))) pa_nil))))))
      pss_nil)
    (pss_cons (ps_if (pt_cmpR op_lt (pv 1) pe_int (nomark _))
      (pss_one (ps_ret (pe_tup (pa_cons (pe_ix ix_list (pe_lst (pa_cons pe_str (pa_cons pe_str (pa_cons pe_str pa_nil)))) (pe_op op_sub (pv 1) pe_int) (fun _ _ => rfl)) (pa_cons (pv 2) (pa_cons (pv 3) pa_nil))))))
      pss_nil)
    (pss_cons (ps_if (pt_cmpR op_eq (pv 1) pe_int (nomark _))
      (pss_one (ps_ret (pe_tup (pa_cons pe_str (pa_cons (pv 2) (pa_cons (C8.pe_c (ok_law_any_turn T 4) hr (by decide) (by rfl) (pa_cons (pv 0) (pa_cons pe_int pa_nil))) pa_nil))))))
      pss_nil)
    (pss_cons (ps_if (pt_cmpR op_eq (pv 1) pe_int (nomark _))
      (pss_one (ps_ret (pe_tup (pa_cons pe_str (pa_cons (pv 2) (pa_cons (C8.pe_c (ok_law_text T) hr (by decide) (by rfl) (pa_cons (pv 0) (pa_cons pe_int pa_nil))) (pa_cons (pv 3) (pa_cons (pv 4) pa_nil))))))))
      pss_nil)
    (pss_cons (ps_if (pt_cmpR op_eq (pv 1) pe_int (nomark _))
      (pss_one (ps_ret (pe_tup (pa_cons pe_str (pa_cons (pv 2) (pa_cons (pv 3) (pa_cons (C8.pe_c (ok_law_text T) hr (by decide) (by rfl) (pa_cons (pv 0) (pa_cons pe_int pa_nil))) (pa_cons (pv 4) pa_nil))))))))
      pss_nil)
    (pss_cons (ps_if (pt_cmpR op_eq (pv 1) pe_int (nomark _))
      (pss_one (ps_ret (pe_tup (pa_cons pe_str (pa_cons (pv 2) (pa_cons (pv 5) (pa_cons (pv 3) (pa_cons (pv 4) pa_nil))))))))
      pss_nil)
    (pss_one (ps_ret (pe_tup (pa_cons pe_str (pa_cons (pv 2) (pa_cons (pv 3) (pa_cons (pv 5) (pa_cons (pv 4) (pa_cons (C8.pe_c (ok_law_any_number T) hr (by decide) (by rfl) (pa_cons (pv 0) pa_nil)) (pa_cons (C8.pe_c (ok_law_any_number T) hr (by decide) (by rfl) (pa_cons (pv 0) pa_nil)) pa_nil))))))))))))))))))), ?_⟩
  refine ⟨_, rfl, r, 10, rfl, by decide +kernel, hr0, fun d1 H1 b1 e1 hr1 => ?_⟩
  obtain ⟨j, rfl, hj⟩ := nat_of b1 (k := 10) rfl
  refine ⟨_, rfl, r, rfl, hr1, fun x1 H2 e2 hr2 hx1 => ⟨_, rfl, r, rfl, hr2, fun x2 H3 e3 hr3 hx2 => ⟨_, rfl, r, rfl, hr3, fun x3 H4 e4 hr4 hx3 => ⟨_, rfl, r, rfl, hr4, fun x4 H5 e5 hr5 hx4 => ⟨(by show 4 ≤ sizeLine; decide), fun p np => ?_⟩⟩⟩⟩⟩
  have e6 := Kx.new (M := M0) (.tup [V.str x1, V.str x2, V.str x3, V.int x4]) np
  refine ⟨p, _, rfl, SqT.of upd_same, rfl, _, _, rfl, _, _, rfl, _, _, rfl, _, _, rfl, rfl, ?_⟩
  have eC : Kx (M1 r) H (upd H5 p (.tup [V.str x1, V.str x2, V.str x3, V.int x4])) := ((((e1.trans e2).trans e3).trans e4).trans e5).trans (Kx.same e6.to)
  have hrC := hr5.sm e6.to
  generalize (upd H5 p (.tup [V.str x1, V.str x2, V.str x3, V.int x4])) = HC at eC hrC ⊢
  match j, hj with
  | 0, _ =>
    refine ⟨_, rfl, rfl, _, rfl, if_t (by decide +kernel) ?_⟩
    refine ⟨_, rfl, _, rfl, (by show 1 ≤ sizeLine; decide), fun m nm => ?_⟩
    have em := Kx.new (M := M0) (.lst [V.int 25]) nm
    have hrm : r ≠ m := fun z => hrC.ne (by rw [z]; exact nm)
    refine ⟨r, m, 4, _, 25, rfl, rfl, hrm, by decide, by decide, hrC.sm em.to, upd_same, fun v7 d7 t7 c7 a7 H7 e7 hr7 hm7 hv7 hd7 _ => ?_⟩
    have e07 : Kx (M1 r) HC H7 := kx_drop em.to nm e7
    refine ⟨_, rfl, r, 2, _, rfl, rfl, by decide, hr7, fun v8 d8 t8 H8 e8 hr8 hv8 hd8 => ⟨(by show 4 ≤ sizeLine; decide), fun t nt => ?_⟩⟩
    have et := Kx.new (M := M0) (.tup [V.str "put", V.str x1, v7, v8]) nt
    exact kk _ _ (fmt "put" [[.w x1], t7, t8]) _ (((eC.trans e07).trans e8).trans (Kx.same et.to)) (hr8.sm et.to) (.tup (SqT.of upd_same) (.cons (.str _) (.cons (.str _) (.cons ((hv7.kx e8 hr7.nt).sm et.to) (.cons (hv8.sm et.to) .nil))))) ⟨"put", "nkv", [.str x1, d7, d8], [[.w x1], t7, t8], (by unfold pieceF; decide +kernel), ⟨(.inl ⟨rfl, x1, hx1, rfl, rfl⟩), (.inr (.inr (.inl ⟨rfl, c7, hd7⟩))), (.inr (.inr (.inr (.inl ⟨rfl, VT_succ hd8⟩)))), trivial⟩, rfl, rfl⟩
  | 1, _ =>
    refine ⟨_, rfl, rfl, _, rfl, if_f (by decide +kernel) ?_⟩
    refine ⟨_, rfl, rfl, _, rfl, if_t (by decide +kernel) ?_⟩
    refine ⟨_, rfl, _, rfl, r, 3, _, rfl, rfl, by decide, hrC, fun v8 d8 t8 H8 e8 hr8 hv8 hd8 => ⟨(by show 3 ≤ sizeLine; decide), fun t nt => ?_⟩⟩
    have et := Kx.new (M := M0) (.tup [V.str "drop", V.str x1, v8]) nt
    exact kk _ _ (fmt "drop" [[.w x1], t8]) _ ((eC.trans e8).trans (Kx.same et.to)) (hr8.sm et.to) (.tup (SqT.of upd_same) (.cons (.str _) (.cons (.str _) (.cons (hv8.sm et.to) .nil)))) ⟨"drop", "nv", [.str x1, d8], [[.w x1], t8], (by unfold pieceF; decide +kernel), ⟨(.inl ⟨rfl, x1, hx1, rfl, rfl⟩), (.inr (.inr (.inr (.inl ⟨rfl, hd8⟩)))), trivial⟩, rfl, rfl⟩
  | 2, _ =>
    refine ⟨_, rfl, rfl, _, rfl, if_f (by decide +kernel) ?_⟩
    refine ⟨_, rfl, rfl, _, rfl, if_f (by decide +kernel) ?_⟩
    refine ⟨_, rfl, _, _, rfl, rfl, _, rfl, if_t (by decide +kernel) ?_⟩
    refine ⟨(by show 3 ≤ sizeLine; decide), fun q nq => ?_⟩
    have eq := Kx.new (M := M0) (.lst [V.str "name", V.str "sink", V.str "lift"]) nq
    refine ⟨_, rfl, _, _, rfl, rfl, q, _, _, V.str "name", rfl, rfl, SqL.of upd_same, rfl, _, rfl, _, rfl, (by show 3 ≤ sizeLine; decide), fun t nt => ?_⟩
    have et := Kx.new (M := M0) (.tup [V.str "name", V.str x1, V.str x2]) nt
    exact kk _ _ (fmt "name" [[.w x1], [.w x2]]) _ ((eC.trans (Kx.same eq.to)).trans (Kx.same et.to)) ((hrC.sm eq.to).sm et.to) (.tup (SqT.of upd_same) (.cons (.str _) (.cons (.str _) (.cons (.str _) .nil)))) ⟨"name", "nn", [.str x1, .str x2], [[.w x1], [.w x2]], (by unfold pieceF; decide +kernel), ⟨(.inl ⟨rfl, x1, hx1, rfl, rfl⟩), (.inl ⟨rfl, x2, hx2, rfl, rfl⟩), trivial⟩, rfl, rfl⟩
  | 3, _ =>
    refine ⟨_, rfl, rfl, _, rfl, if_f (by decide +kernel) ?_⟩
    refine ⟨_, rfl, rfl, _, rfl, if_f (by decide +kernel) ?_⟩
    refine ⟨_, rfl, _, _, rfl, rfl, _, rfl, if_t (by decide +kernel) ?_⟩
    refine ⟨(by show 3 ≤ sizeLine; decide), fun q nq => ?_⟩
    have eq := Kx.new (M := M0) (.lst [V.str "name", V.str "sink", V.str "lift"]) nq
    refine ⟨_, rfl, _, _, rfl, rfl, q, _, _, V.str "sink", rfl, rfl, SqL.of upd_same, rfl, _, rfl, _, rfl, (by show 3 ≤ sizeLine; decide), fun t nt => ?_⟩
    have et := Kx.new (M := M0) (.tup [V.str "sink", V.str x1, V.str x2]) nt
    exact kk _ _ (fmt "sink" [[.w x1], [.w x2]]) _ ((eC.trans (Kx.same eq.to)).trans (Kx.same et.to)) ((hrC.sm eq.to).sm et.to) (.tup (SqT.of upd_same) (.cons (.str _) (.cons (.str _) (.cons (.str _) .nil)))) ⟨"sink", "nn", [.str x1, .str x2], [[.w x1], [.w x2]], (by unfold pieceF; decide +kernel), ⟨(.inl ⟨rfl, x1, hx1, rfl, rfl⟩), (.inl ⟨rfl, x2, hx2, rfl, rfl⟩), trivial⟩, rfl, rfl⟩
  | 4, _ =>
    refine ⟨_, rfl, rfl, _, rfl, if_f (by decide +kernel) ?_⟩
    refine ⟨_, rfl, rfl, _, rfl, if_f (by decide +kernel) ?_⟩
    refine ⟨_, rfl, _, _, rfl, rfl, _, rfl, if_t (by decide +kernel) ?_⟩
    refine ⟨(by show 3 ≤ sizeLine; decide), fun q nq => ?_⟩
    have eq := Kx.new (M := M0) (.lst [V.str "name", V.str "sink", V.str "lift"]) nq
    refine ⟨_, rfl, _, _, rfl, rfl, q, _, _, V.str "lift", rfl, rfl, SqL.of upd_same, rfl, _, rfl, _, rfl, (by show 3 ≤ sizeLine; decide), fun t nt => ?_⟩
    have et := Kx.new (M := M0) (.tup [V.str "lift", V.str x1, V.str x2]) nt
    exact kk _ _ (fmt "lift" [[.w x1], [.w x2]]) _ ((eC.trans (Kx.same eq.to)).trans (Kx.same et.to)) ((hrC.sm eq.to).sm et.to) (.tup (SqT.of upd_same) (.cons (.str _) (.cons (.str _) (.cons (.str _) .nil)))) ⟨"lift", "nn", [.str x1, .str x2], [[.w x1], [.w x2]], (by unfold pieceF; decide +kernel), ⟨(.inl ⟨rfl, x1, hx1, rfl, rfl⟩), (.inl ⟨rfl, x2, hx2, rfl, rfl⟩), trivial⟩, rfl, rfl⟩
  | 5, _ =>
    refine ⟨_, rfl, rfl, _, rfl, if_f (by decide +kernel) ?_⟩
    refine ⟨_, rfl, rfl, _, rfl, if_f (by decide +kernel) ?_⟩
    refine ⟨_, rfl, _, _, rfl, rfl, _, rfl, if_f (by decide +kernel) ?_⟩
    refine ⟨_, rfl, rfl, _, rfl, if_t (by decide +kernel) ?_⟩
    refine ⟨_, rfl, _, rfl, r, 3, _, rfl, rfl, by decide, hrC, fun v8 d8 t8 H8 e8 hr8 hv8 hd8 => ⟨(by show 3 ≤ sizeLine; decide), fun t nt => ?_⟩⟩
    have et := Kx.new (M := M0) (.tup [V.str "turn", V.str x1, v8]) nt
    exact kk _ _ (fmt "turn" [[.w x1], t8]) _ ((eC.trans e8).trans (Kx.same et.to)) (hr8.sm et.to) (.tup (SqT.of upd_same) (.cons (.str _) (.cons (.str _) (.cons (hv8.sm et.to) .nil)))) ⟨"turn", "nt", [.str x1, d8], [[.w x1], t8], (by unfold pieceF; decide +kernel), ⟨(.inl ⟨rfl, x1, hx1, rfl, rfl⟩), (.inr (.inr (.inr (.inr (.inl ⟨rfl, hd8⟩))))), trivial⟩, rfl, rfl⟩
  | 6, _ =>
    refine ⟨_, rfl, rfl, _, rfl, if_f (by decide +kernel) ?_⟩
    refine ⟨_, rfl, rfl, _, rfl, if_f (by decide +kernel) ?_⟩
    refine ⟨_, rfl, _, _, rfl, rfl, _, rfl, if_f (by decide +kernel) ?_⟩
    refine ⟨_, rfl, rfl, _, rfl, if_f (by decide +kernel) ?_⟩
    refine ⟨_, rfl, rfl, _, rfl, if_t (by decide +kernel) ?_⟩
    refine ⟨_, rfl, _, rfl, r, 3, rfl, by decide, hrC, fun x8 H8 e8 hr8 hx8 => ⟨_, rfl, _, rfl, (by show 5 ≤ sizeLine; decide), fun t nt => ?_⟩⟩
    have et := Kx.new (M := M0) (.tup [V.str "split", V.str x1, V.str x8, V.str x2, V.str x3]) nt
    exact kk _ _ (fmt "split" [[.w x1], [.t x8], [.w x2], [.w x3]]) _ ((eC.trans e8).trans (Kx.same et.to)) (hr8.sm et.to) (.tup (SqT.of upd_same) (.cons (.str _) (.cons (.str _) (.cons (.str _) (.cons (.str _) (.cons (.str _) .nil)))))) ⟨"split", "nsnn", [.str x1, .str x8, .str x2, .str x3], [[.w x1], [.t x8], [.w x2], [.w x3]], (by unfold pieceF; decide +kernel), ⟨(.inl ⟨rfl, x1, hx1, rfl, rfl⟩), (.inr (.inr (.inr (.inr (.inr ⟨rfl, x8, hx8, rfl, rfl⟩))))), (.inl ⟨rfl, x2, hx2, rfl, rfl⟩), (.inl ⟨rfl, x3, hx3, rfl, rfl⟩), trivial⟩, rfl, rfl⟩
  | 7, _ =>
    refine ⟨_, rfl, rfl, _, rfl, if_f (by decide +kernel) ?_⟩
    refine ⟨_, rfl, rfl, _, rfl, if_f (by decide +kernel) ?_⟩
    refine ⟨_, rfl, _, _, rfl, rfl, _, rfl, if_f (by decide +kernel) ?_⟩
    refine ⟨_, rfl, rfl, _, rfl, if_f (by decide +kernel) ?_⟩
    refine ⟨_, rfl, rfl, _, rfl, if_f (by decide +kernel) ?_⟩
    refine ⟨_, rfl, rfl, _, rfl, if_t (by decide +kernel) ?_⟩
    refine ⟨_, rfl, _, rfl, _, rfl, r, 3, rfl, by decide, hrC, fun x8 H8 e8 hr8 hx8 => ⟨_, rfl, (by show 5 ≤ sizeLine; decide), fun t nt => ?_⟩⟩
    have et := Kx.new (M := M0) (.tup [V.str "join", V.str x1, V.str x2, V.str x8, V.str x3]) nt
    exact kk _ _ (fmt "join" [[.w x1], [.w x2], [.t x8], [.w x3]]) _ ((eC.trans e8).trans (Kx.same et.to)) (hr8.sm et.to) (.tup (SqT.of upd_same) (.cons (.str _) (.cons (.str _) (.cons (.str _) (.cons (.str _) (.cons (.str _) .nil)))))) ⟨"join", "nnsn", [.str x1, .str x2, .str x8, .str x3], [[.w x1], [.w x2], [.t x8], [.w x3]], (by unfold pieceF; decide +kernel), ⟨(.inl ⟨rfl, x1, hx1, rfl, rfl⟩), (.inl ⟨rfl, x2, hx2, rfl, rfl⟩), (.inr (.inr (.inr (.inr (.inr ⟨rfl, x8, hx8, rfl, rfl⟩))))), (.inl ⟨rfl, x3, hx3, rfl, rfl⟩), trivial⟩, rfl, rfl⟩
  | 8, _ =>
    refine ⟨_, rfl, rfl, _, rfl, if_f (by decide +kernel) ?_⟩
    refine ⟨_, rfl, rfl, _, rfl, if_f (by decide +kernel) ?_⟩
    refine ⟨_, rfl, _, _, rfl, rfl, _, rfl, if_f (by decide +kernel) ?_⟩
    refine ⟨_, rfl, rfl, _, rfl, if_f (by decide +kernel) ?_⟩
    refine ⟨_, rfl, rfl, _, rfl, if_f (by decide +kernel) ?_⟩
    refine ⟨_, rfl, rfl, _, rfl, if_f (by decide +kernel) ?_⟩
    refine ⟨_, rfl, rfl, _, rfl, if_t (by decide +kernel) ?_⟩
    refine ⟨_, rfl, _, rfl, _, rfl, _, rfl, (by show 5 ≤ sizeLine; decide), fun t nt => ?_⟩
    have et := Kx.new (M := M0) (.tup [V.str "part", V.str x1, V.int x4, V.str x2, V.str x3]) nt
    exact kk _ _ (fmt "part" [[.w x1], [.n x4], [.w x2], [.w x3]]) _ (eC.trans (Kx.same et.to)) (hrC.sm et.to) (.tup (SqT.of upd_same) (.cons (.str _) (.cons (.str _) (.cons (.int _) (.cons (.str _) (.cons (.str _) .nil)))))) ⟨"part", "nmnn", [.str x1, .int x4, .str x2, .str x3], [[.w x1], [.n x4], [.w x2], [.w x3]], (by unfold pieceF; decide +kernel), ⟨(.inl ⟨rfl, x1, hx1, rfl, rfl⟩), (.inr (.inl ⟨rfl, x4, hx4, rfl, rfl⟩)), (.inl ⟨rfl, x2, hx2, rfl, rfl⟩), (.inl ⟨rfl, x3, hx3, rfl, rfl⟩), trivial⟩, rfl, rfl⟩
  | 9, _ =>
    refine ⟨_, rfl, rfl, _, rfl, if_f (by decide +kernel) ?_⟩
    refine ⟨_, rfl, rfl, _, rfl, if_f (by decide +kernel) ?_⟩
    refine ⟨_, rfl, _, _, rfl, rfl, _, rfl, if_f (by decide +kernel) ?_⟩
    refine ⟨_, rfl, rfl, _, rfl, if_f (by decide +kernel) ?_⟩
    refine ⟨_, rfl, rfl, _, rfl, if_f (by decide +kernel) ?_⟩
    refine ⟨_, rfl, rfl, _, rfl, if_f (by decide +kernel) ?_⟩
    refine ⟨_, rfl, rfl, _, rfl, if_f (by decide +kernel) ?_⟩
    refine ⟨_, rfl, _, rfl, _, rfl, _, rfl, _, rfl, r, rfl, hrC, fun x8 H8 e8 hr8 hx8 => ⟨_, rfl, r, rfl, hr8, fun x9 H9 e9 hr9 hx9 => ⟨(by show 7 ≤ sizeLine; decide), fun t nt => ?_⟩⟩⟩
    have et := Kx.new (M := M0) (.tup [V.str "whole", V.str x1, V.str x2, V.int x4, V.str x3, V.int x8, V.int x9]) nt
    exact kk _ _ (fmt "whole" [[.w x1], [.w x2], [.n x4], [.w x3], [.n x8], [.n x9]]) _ (((eC.trans e8).trans e9).trans (Kx.same et.to)) (hr9.sm et.to) (.tup (SqT.of upd_same) (.cons (.str _) (.cons (.str _) (.cons (.str _) (.cons (.int _) (.cons (.str _) (.cons (.int _) (.cons (.int _) .nil)))))))) ⟨"whole", "nnmnmm", [.str x1, .str x2, .int x4, .str x3, .int x8, .int x9], [[.w x1], [.w x2], [.n x4], [.w x3], [.n x8], [.n x9]], (by unfold pieceF; decide +kernel), ⟨(.inl ⟨rfl, x1, hx1, rfl, rfl⟩), (.inl ⟨rfl, x2, hx2, rfl, rfl⟩), (.inr (.inl ⟨rfl, x4, hx4, rfl, rfl⟩)), (.inl ⟨rfl, x3, hx3, rfl, rfl⟩), (.inr (.inl ⟨rfl, x8, hx8, rfl, rfl⟩)), (.inr (.inl ⟨rfl, x9, hx9, rfl, rfl⟩)), trivial⟩, rfl, rfl⟩
end
end OH
end

section
set_option Elab.async false
set_option linter.all false
set_option maxRecDepth 100000
set_option maxHeartbeats 4000000
set_option autoImplicit false
namespace OH
open PySem PySem.Spec PyProof.Rows L2
def NearAt (R : PyData → Prop) (x : Str) (ds : List PyData) : Prop := ∀ i e, ds[i]? = some e → (∃ y, e = .str y ∧ ∀ z, IsWord z → R (.tuple (.str x :: ds.set i (.str z)))) ∨ (∃ n, e = .int n ∧ IsNum n ∧ ∀ n', IsNum n' → R (.tuple (.str x :: ds.set i (.int n')))) ∨ ∃ es, e = .tuple es
def Near (R : PyData → List Tk → Prop) : Prop := ∀ d ts, R d ts → ∃ (x : Str) (ds : List PyData), d = .tuple (.str x :: ds) ∧ ds.length ≤ 6 ∧ NearAt (fun d => ∃ ts, R d ts) x ds
theorem PR_near {Tr : PyData → List Tk → Prop} (hT : ∀ d ts, Tr d ts → ∃ es, d = .tuple es) {c : Nat} {e : PyData} {p : List Tk} (h : PR Tr c e p) :
    (∃ y, e = .str y ∧ ∀ z, IsWord z → ∃ p', PR Tr c (.str z) p') ∨ (∃ n, e = .int n ∧ IsNum n ∧ ∀ n', IsNum n' → ∃ p', PR Tr c (.int n') p') ∨ ∃ es, e = .tuple es := by
  rcases h with ⟨hc, x, hx, rfl, rfl⟩ | ⟨hc, x, hx, rfl, rfl⟩ | ⟨hc, c1, h⟩ | ⟨hc, h⟩ | ⟨hc, h⟩ | ⟨hc, x, hx, rfl, rfl⟩
  · exact .inl ⟨x, rfl, fun z hz => ⟨_, .inl ⟨hc, z, hz, rfl, rfl⟩⟩⟩
  · exact .inr (.inl ⟨x, rfl, hx, fun z hz => ⟨_, .inr (.inl ⟨hc, z, hz, rfl, rfl⟩)⟩⟩)
  · obtain ⟨w0, ds, rfl⟩ := KT_form h
    exact .inr (.inr ⟨_, rfl⟩)
  · rcases VT_form h with ⟨i, h1, rfl, rfl⟩ | ⟨x, h1, rfl, rfl⟩ | ⟨es, h1, h2, rfl, rfl⟩ | ⟨es, h1, h2, rfl, rfl⟩ | ⟨es, h1, h2, rfl, rfl⟩
    · exact .inr (.inl ⟨i, rfl, h1, fun z hz => ⟨_, .inr (.inr (.inr (.inl ⟨hc, vt_int hz⟩)))⟩⟩)
    · exact .inl ⟨x, rfl, fun z hz => ⟨_, .inr (.inr (.inr (.inl ⟨hc, vt_str hz.text⟩)))⟩⟩
    · exact .inr (.inr ⟨_, rfl⟩)
    · exact .inr (.inr ⟨_, rfl⟩)
    · exact .inr (.inr ⟨_, rfl⟩)
  · exact .inr (.inr (hT _ _ h))
  · exact .inl ⟨x, rfl, fun z hz => ⟨_, .inr (.inr (.inr (.inr (.inr ⟨hc, z, hz.text, rfl, rfl⟩))))⟩⟩
theorem Parts_set {Tr : PyData → List Tk → Prop} : ∀ {q : List Nat} {ds : List PyData} {ps : List (List Tk)} {i c : Nat} {d' : PyData} {p' : List Tk}, Parts Tr q ds ps → q[i]? = some c → PR Tr c d' p' → ∃ ps', Parts Tr q (ds.set i d') ps'
  | [], _, _, i, _, _, _, _, e, _ => by simp at e
  | q :: qs, ds, ps, i, c, d', p', h, e, hp => by
    obtain ⟨d, ds, p, ps, rfl, rfl, h1, h2⟩ := Parts_cons h
    cases i with
    | zero =>
      simp at e
      subst e
      exact ⟨p' :: ps, hp, h2⟩
    | succ i =>
      obtain ⟨ps', h3⟩ := Parts_set h2 (by simpa using e) hp
      exact ⟨p :: ps', h1, h3⟩
theorem Form_near {F : List (Str × Str)} (hF : ∀ p ∈ F, (TL.tl p.2).length ≤ 6) {Tr : PyData → List Tk → Prop} (hT : ∀ d ts, Tr d ts → ∃ es, d = .tuple es) : Near (Form F Tr) := by
  rintro d ts ⟨x, q, ds, ps, hm, hP, rfl, rfl⟩
  obtain ⟨l1, l2, l3⟩ := form_lens hF hm hP
  obtain ⟨g1, g2, g3⟩ := Parts_at hP
  refine ⟨x, ds, rfl, l3, fun i e he => ?_⟩
  have hi : i < ds.length := (List.getElem?_eq_some_iff.mp he).1
  have hq : (TL.tl q)[i]? = some (TL.tl q)[i] := List.getElem?_eq_getElem (by omega)
  obtain ⟨p, hp1, hp2⟩ := g3 i _ e hq he
  rcases PR_near hT hp2 with ⟨y, rfl, h⟩ | ⟨n, rfl, hn, h⟩ | h
  · refine .inl ⟨y, rfl, fun z hz => ?_⟩
    obtain ⟨p', hp'⟩ := h z hz
    obtain ⟨ps', h'⟩ := Parts_set hP hq hp'
    exact ⟨_, x, q, _, ps', hm, h', rfl, rfl⟩
  · refine .inr (.inl ⟨n, rfl, hn, fun z hz => ?_⟩)
    obtain ⟨p', hp'⟩ := h z hz
    obtain ⟨ps', h'⟩ := Parts_set hP hq hp'
    exact ⟨_, x, q, _, ps', hm, h', rfl, rfl⟩
  · exact .inr (.inr h)
theorem TT_tup : ∀ {n : Nat} (d : PyData) (ts : List Tk), TT n d ts → ∃ es, d = .tuple es
  | 0, _, _, h => h.elim
  | n + 1, d, ts, h => by
    rcases h with ⟨ws, ps, _, _, _, _, rfl, rfl⟩ | ⟨x, q, ds, ps, _, _, rfl, rfl⟩ <;> exact ⟨_, rfl⟩
theorem TT_near (n : Nat) : Near (TT (n + 1)) := by
  intro d ts h
  rcases h with ⟨ws, ps, h1, h2, h3, h4, rfl, rfl⟩ | h
  · refine ⟨"words", _, rfl, Nat.le_of_ble_eq_true rfl, fun i e he => .inr (.inr ?_)⟩
    match i, he with
    | 0, he => exact ⟨_, (Option.some.inj he).symm⟩
    | 1, he => exact ⟨_, (Option.some.inj he).symm⟩
  · obtain ⟨x, ds, e1, e2, e3⟩ := Form_near turnF_six (fun d ts h => TT_tup d ts h) d ts h
    refine ⟨x, ds, e1, e2, fun i e he => ?_⟩
    rcases e3 i e he with ⟨y, h1, h2⟩ | ⟨n, h1, h2, h3⟩ | h
    · exact .inl ⟨y, h1, fun z hz => let ⟨t, ht⟩ := h2 z hz; ⟨t, .inr ht⟩⟩
    · exact .inr (.inl ⟨n, h1, h2, fun z hz => let ⟨t, ht⟩ := h3 z hz; ⟨t, .inr ht⟩⟩)
    · exact .inr (.inr h)
theorem PT_near : Near PT := Form_near pieceF_codes fun d ts h => TT_tup d ts h
theorem RpA.take {K : PySem.W.Frag} {H : Hp} : ∀ {us : List V} {ds : List PyData} (n : Nat), RpA K H us ds → RpA K H (us.take n) (ds.take n)
  | _, _, 0, _ => .nil
  | _, _, n + 1, .nil => .nil
  | _, _, n + 1, .cons h t => .cons h (RpA.take n t)
theorem RpA.drop {K : PySem.W.Frag} {H : Hp} : ∀ {us : List V} {ds : List PyData} (n : Nat), RpA K H us ds → RpA K H (us.drop n) (ds.drop n)
  | _, _, 0, h => h
  | _, _, n + 1, .nil => .nil
  | _, _, n + 1, .cons h t => RpA.drop n t
theorem cat2 {K : PySem.W.Frag} {H : Hp} {Q : VK} {a b : Addr} {xs ys : List V} {ds es : List PyData} (ha : SqT K H a xs) (hx : RpA K H xs ds) (hb : SqT K H b ys) (hy : RpA K H ys es) (hl : xs.length + ys.length ≤ 100)
    (k : ∀ v' H', Same H H' → Rp K H' v' (.tuple (ds ++ es)) → Q v' H') : rCatA K (.ref a) (.ref b) H Q := by
  have hz := sizeL
  refine ⟨a, b, xs, ys, rfl, rfl, ha, hb, by omega, (fun e => ?_), (fun _ e => ?_), fun _ _ p np => ?_⟩
  · subst e
    cases hx
    exact k _ _ (Same.refl _) (.tup hb hy)
  · subst e
    cases hy
    rw [List.append_nil] at k
    exact k _ _ (Same.refl _) (.tup ha hx)
  · have e1 : Same H (upd H p (.tup (xs ++ ys))) := (Kx.new _ np).to
    exact k _ _ e1 (.tup (SqT.of upd_same) ((hx.append hy).sm e1))
theorem cut_lo (xs : List V) (j : Nat) (h : j ≤ xs.length) : cutV xs none (some ((j : Nat) : Int)) = xs.take j := by
  unfold cutV
  rw [HT.sIx_none, HT.sIx_nat, Nat.min_eq_left h]
  rfl
theorem cut_hi (xs : List V) (j : Nat) (h : j ≤ xs.length) : cutV xs (some ((j : Nat) : Int)) none = xs.drop j := by
  unfold cutV
  rw [HT.sIx_none, HT.sIx_nat, Nat.min_eq_left h]
  exact List.take_of_length_le (by rw [List.length_drop]; omega)
def spNear (K : PySem.W.Frag) (R : PyData → List Tk → Prop) : Sp := fun vs H Q _ => ∃ (r : Addr) (v : V) (d : PyData) (ts : List Tk), vs = [v, .ref r] ∧ Rp K H v d ∧ R d ts ∧ Rw H r ∧ ∀ v' d' ts' H', Kx (M1 r) H H' → Rw H' r → Rp K H' v' d' → R d' ts' → Q v' H'
def spCellAt (K : PySem.W.Frag) : Sp := fun vs H Q _ => ∃ (a : Addr) (ns : List Int) (k : Nat), vs = [.ref a, .int (k : Nat)] ∧ SqL K H a (ns.map V.int) ∧ ∀ c, Q (.int c) H
def spMixed : Sp := fun vs H Q _ => ∃ (c k : Int), vs = [.int c, .int k] ∧ 0 ≤ k ∧ k ≤ 100000 ∧ ∀ m, 0 ≤ m → m < 2147483647 → Q (.int m) H
def spOwn (K : PySem.W.Frag) : Sp := fun vs H Q _ => ∃ (a : Addr) (ns : List Int) (k t : Nat), vs = [.ref a, .int (k : Nat), .int (t : Nat)] ∧ k ≤ 8 ∧ t ≤ 5 ∧ SqL K H a (ns.map V.int) ∧ ∀ r H', Same H H' → H r = none → Rw H' r → Q (.ref r) H'
theorem slice_lo {n j : Nat} (h : j < n) : ¬ (HT.sIx n 0 none = 0 ∧ HT.sIx n n (some ((j : Nat) : Int)) = n) := fun z => by
  have z2 := z.2
  rw [HT.sIx_nat] at z2
  omega
theorem slice_hi {n j : Nat} (h : j < n) : ¬ (HT.sIx n 0 (some (((j : Nat) : Int) + 1)) = 0 ∧ HT.sIx n n none = n) := fun z => by
  have z1 := z.1
  rw [show ((j : Nat) : Int) + 1 = ((j + 1 : Nat) : Int) from rfl, HT.sIx_nat] at z1
  omega
section
variable {P : Program} {w : World} {K : PySem.W.Frag} {mg : Str → Option Value} {base : Heap}
theorem ok_law_cell_at (T : Txt w K mg) : C8.Cal P w K mg base (1) "_law_cell_at" (spCellAt K) [] := by
  refine calD (tell_law_cell_at T) sc_law_cell_at bind_law_cell_at (fun vs H Q E h => ?_) (fun f cdv A outer s H vs Q E hr h => ?_)
  · obtain ⟨_, _, _, rfl, _⟩ := h
    rfl
  obtain ⟨a, ns, k, rfl, hS, kk⟩ := h
  refine ⟨_, (pss_cons (ps_if (pt_cmpR op_lt (pv 1) (pe_callB call_len_seq (by rfl) T.m_len bt_len (pa_cons (pv 0) pa_nil)) (nomark _))
      (pss_one (ps_ret (pe_ix ix_list (pv 0) (pv 1) (fun _ _ => rfl))))
      pss_nil)
    (pss_one (ps_ret pe_int))), ?_⟩
  refine ⟨_, rfl, _, rfl, a, _, rfl, .inl hS, _, _, rfl, rfl, _, rfl, ?_⟩
  by_cases w1 : ((k : Nat) : Int) < ((ns.map V.int).length : Nat)
  · refine if_t (decide_eq_true w1) ?_
    have hk : k < ns.length := by rw [List.length_map] at w1; omega
    exact ⟨_, rfl, _, rfl, a, _, _, _, rfl, rfl, hS, atI_nat (by rw [List.getElem?_map, List.getElem?_eq_getElem hk]; rfl), kk _⟩
  · exact if_f (decide_eq_false w1) (kk 0)
theorem ok_law_mixed (T : Txt w K mg) : C8.Cal P w K mg base (1) "_law_mixed" (spMixed) [] := by
  refine calD (tell_law_mixed T) sc_law_mixed bind_law_mixed (fun vs H Q E h => ?_) (fun f cdv A outer s H vs Q E hr h => ?_)
  · obtain ⟨_, _, rfl, _⟩ := h
    rfl
  obtain ⟨c, k, rfl, h0, h1, kk⟩ := h
  refine ⟨_, (pss_cons (ps_set (i := 2) sc_law_mixed.nd rfl (by first | exact Or.inl rfl | exact Or.inr rfl) (pe_op op_mod (pe_op op_mul (pe_op op_add (pe_op op_add (pe_op op_mod (pv 0) pe_int) (pe_op op_mul pe_int (pv 1))) pe_int) pe_int) pe_int))
    (pss_one (ps_ret (pe_op op_mod (pe_op op_mul (pe_op op_mod (pe_op op_mul (pv 2) (pv 2)) pe_int) pe_int) pe_int)))), ?_⟩
  refine ⟨_, rfl, _, _, rfl, rfl, (by show (0 : Int) < 1000000007; decide), _, rfl, _, _, rfl, rfl, .inl (by decide), _, _, rfl, rfl, _, _, rfl, rfl, _, _, rfl, rfl, .inr (by decide), _, _, rfl, rfl, (by show (0 : Int) < 2147483647; decide), ?_⟩
  have b1 := Int.emod_lt_of_pos ((c % 1000000007 + 7919 * k + 1) * 48271) (show (0 : Int) < 2147483647 by decide)
  have b0 := Int.emod_nonneg ((c % 1000000007 + 7919 * k + 1) * 48271) (show (2147483647 : Int) ≠ 0 by decide)
  refine ⟨_, rfl, _, rfl, _, _, rfl, rfl, .inl ⟨by show -(2 ^ 64) < ((c % 1000000007 + 7919 * k + 1) * 48271) % 2147483647; omega, by show ((c % 1000000007 + 7919 * k + 1) * 48271) % 2147483647 < 2 ^ 64; omega⟩, _, _, rfl, rfl, (by show (0 : Int) < 2147483629; decide), _, _, rfl, rfl, .inr (by decide), _, _, rfl, rfl, (by show (0 : Int) < 2147483647; decide), ?_⟩
  exact kk _ (Int.emod_nonneg _ (by decide)) (Int.emod_lt_of_pos _ (by decide))
theorem ok_law_own (T : Txt w K mg) : C8.Cal P w K mg base (2) "_law_own" (spOwn K) [] := by
  refine calD (tell_law_own T) sc_law_own bind_law_own (fun vs H Q E h => ?_) (fun f cdv A outer s H vs Q E hr h => ?_)
  · obtain ⟨_, _, _, _, rfl, _⟩ := h
    rfl
  obtain ⟨a, ns, k, t, rfl, hk, ht, hS, kk⟩ := h
  refine ⟨_, (pss_cons (ps_set (i := 3) sc_law_own.nd rfl (by first | exact Or.inl rfl | exact Or.inr rfl) (C8.pe_c (ok_law_cell_at T) hr (by decide) (by rfl) (pa_cons (pv 0) (pa_cons (pv 1) pa_nil))))
    (pss_cons (ps_set (i := 4) sc_law_own.nd rfl (by first | exact Or.inl rfl | exact Or.inr rfl) pe_int)
    (pss_cons (ps_for PassesOwn.never rfl (pi_range1 (by rfl) T.m_range (pa_cons pe_int pa_nil)) (pg_name (i := 5) sc_law_own.nd rfl (by first | exact Or.inl rfl | exact Or.inr rfl))
      (pss_one (ps_set (i := 4) sc_law_own.nd rfl (by first | exact Or.inl rfl | exact Or.inr rfl) (pe_op op_add (pe_op op_mulW (pv 4) pe_int) (C8.pe_c (ok_law_mixed T) hr (by decide) (by rfl) (pa_cons (pe_op op_add (pe_op op_add (pe_op op_mod (pe_callB (cr_sum rfl) (by rfl) T.m_sum bt_sum (pa_cons (pv 0) pa_nil)) (pe_op op_pow pe_int pe_int)) (pv 3)) (pv 1)) (pa_cons (pe_op op_add (pe_op op_add (pe_op op_mulW pe_int (pv 1)) (pe_op op_mulW pe_int (pv 2))) (pv 5)) pa_nil)))))))
    (pss_cons (ps_if (PW.pt (pw_and (pt_cmpR op_ge (pv 3) (pe_op op_pow pe_int pe_int) (nomark _)) (pw_and1 (pt_cmpR op_eq (pv 2) pe_int (nomark _)))))
      (pss_one (ps_ret (pe_lst (pa_cons (pe_op op_add (pe_op op_mod (pv 3) (pe_op op_pow pe_int pe_int)) (pe_op op_mulW (pe_op op_fdivW (pv 4) pe_int) (pe_op op_pow pe_int pe_int))) pa_nil))))
      pss_nil)
    (pss_one (ps_ret (pe_lst (pa_cons (pe_op op_fdivW (pv 4) pe_int) pa_nil)))))))), ?_⟩
  have pw : CPow 10 60 := ⟨by decide, by decide, by decide⟩
  have pw18 : CPow 10 18 := ⟨by decide, by decide, by decide⟩
  refine ⟨_, rfl, _, rfl, a, ns, k, rfl, hS, fun c => ?_⟩
  refine ⟨40, rfl, by decide, by decide, ?_⟩
  refine for_it (D := { nx := _, rt := _ }) walk_range (fun i σ H' => H' = H ∧ ∃ (f : Int) (y5 : Option V), 0 ≤ f ∧ f < 2 ^ (32 * i) ∧ σ = [some (.ref a), some (.int ((k : Nat) : Int)), some (.int ((t : Nat) : Int)), some (.int c), some (.int f), y5])
    ⟨rfl, 0, none, by decide, by decide, rfl⟩ (fun i σ H' _ _ => True.intro) (fun i x σ H1 H1' hi hP y => ?_) (fun σ H1 hP => ?_)
  · obtain ⟨rfl, f, y5, hf0, hf1, rfl⟩ := hP
    obtain ⟨rfl, rfl⟩ := y
    have hi40 : i < 40 := hi
    have hfb : f.natAbs < 2 ^ 1281 := by
      have h1 : f.natAbs < 2 ^ (32 * i) := by
        have e : ((2 : Int) ^ (32 * i)) = ((2 ^ (32 * i) : Nat) : Int) := (Int.natCast_pow 2 _).symm
        rw [e] at hf1
        omega
      exact Nat.lt_of_lt_of_le h1 (Nat.pow_le_pow_right (by decide) (by omega))
    refine ⟨_, rfl, _, _, rfl, rfl, wide_mul hfb (b := 31) (by decide) (by decide) (by decide) (by decide), ?_⟩
    refine ⟨_, rfl, a, ns, rfl, hS, _, _, rfl, rfl, pw, _, _, rfl, rfl, (by show (0 : Int) < 10 ^ (60 : Int).toNat; decide +kernel), _, rfl, _, _, rfl, rfl, _, rfl, _, _, rfl, rfl, ?_⟩
    refine ⟨_, rfl, _, _, rfl, rfl, wide_mul (a := 9) (b := 64) (by decide) (by omega) (by decide) (by decide) (by decide), _, rfl, _, _, rfl, rfl, wide_mul (a := 9) (b := 64) (by decide) (by omega) (by decide) (by decide) (by decide), _, _, rfl, rfl, _, rfl, _, _, rfl, rfl, ?_⟩
    refine ⟨_, _, rfl, ?_, ?_, fun m hm0 hm1 => ⟨_, _, rfl, rfl, rfl, f * 2147483647 + m, some (.int (0 + (i : Nat))), by omega, ?_, rfl⟩⟩
    · show (0 : Int) ≤ 400 * (k : Nat) + 40 * (t : Nat) + (0 + (i : Nat))
      omega
    · show (400 * (k : Nat) + 40 * (t : Nat) + (0 + (i : Nat)) : Int) ≤ 100000
      omega
    · have e : (2 : Int) ^ (32 * (i + 1)) = 2 ^ (32 * i) * 4294967296 := by
        rw [show 32 * (i + 1) = 32 * i + 32 by omega, Int.pow_add]
        rfl
      rw [e]
      omega
  · obtain ⟨rfl, f, y5, hf0, hf1, rfl⟩ := hP
    have hf1 : f < 2 ^ 1280 := hf1
    have hfb : (f / 8).natAbs < 2 ^ 1281 := by
      have h1 : f.natAbs < 2 ^ 1280 := by
        have e : ((2 : Int) ^ 1280) = ((2 ^ 1280 : Nat) : Int) := (Int.natCast_pow 2 _).symm
        rw [e] at hf1
        omega
      have h2 : (f / 8).natAbs ≤ f.natAbs := by omega
      exact Nat.lt_of_le_of_lt h2 (Nat.lt_trans h1 (Nat.pow_lt_pow_right (by decide) (by decide)))
    have dv : CDivW f 8 := wide_div (b := 10) (by decide) (by decide) (by decide) (by decide)
    suffices plain : _ by
      refine ⟨_, rfl, _, _, rfl, rfl, pw18, _, _, rfl, rfl, _, rfl, ?_⟩
      by_cases w1 : (10 : Int) ^ (18 : Int).toNat ≤ c
      · refine if_t (decide_eq_true w1) ⟨_, rfl, rfl, _, rfl, ?_⟩
        by_cases w2 : V.int ((t : Nat) : Int) = V.int 0
        · refine if_t (decide_eq_true w2) ?_
          refine ⟨_, rfl, _, _, rfl, rfl, pw, _, _, rfl, rfl, (by show (0 : Int) < 10 ^ (60 : Int).toNat; decide +kernel), _, rfl, _, _, rfl, rfl, dv, _, _, rfl, rfl, pw, _, _, rfl, rfl, wide_mul hfb (b := 200) (by decide +kernel) (by decide) (by decide) (by decide), _, _, rfl, rfl, (by show 1 ≤ sizeLine; decide), fun r nr => ?_⟩
          exact kk r _ (Kx.new _ nr).to nr ⟨_, upd_same⟩
        · exact if_f (decide_eq_false w2) plain
      · exact if_f (decide_eq_false w1) plain
    refine ⟨_, rfl, _, _, rfl, rfl, dv, (by show 1 ≤ sizeLine; decide), fun r nr => ?_⟩
    exact kk r _ (Kx.new _ nr).to nr ⟨_, upd_same⟩
theorem ok_law_nearly (T : Txt w K mg) {R : PyData → List Tk → Prop} (hN : Near R) : C8.Cal P w K mg base (3) "_law_nearly" (spNear K R) [] := by
  refine calD (tell_law_nearly T) sc_law_nearly bind_law_nearly (fun vs H Q E h => ?_) (fun f cdv A outer s H vs Q E hr h => ?_)
  · obtain ⟨_, _, _, _, rfl, _⟩ := h
    rfl
  obtain ⟨r, v, d, ts, rfl, hv, hd, hr0, kk⟩ := h
  refine ⟨_, (pss_cons (ps_set (i := 2) sc_law_nearly.nd rfl (by first | exact Or.inl rfl | exact Or.inr rfl) (C8.pe_c (ok_law_digit T) hr (by decide) (by rfl) (pa_cons (pv 1) (pa_cons (pe_callB call_len_seq (by rfl) T.m_len bt_len (pa_cons (pv 0) pa_nil)) pa_nil))))
    (pss_cons (ps_set (i := 3) sc_law_nearly.nd rfl (by first | exact Or.inl rfl | exact Or.inr rfl) (pe_ix ix_tup (pv 0) (pv 2) (fun _ _ => rfl)))
    (pss_cons (ps_if (PW.pt (pw_and (pt_cmpR op_gt (pv 2) pe_int (nomark _)) (pw_and1 (pt_val (pe_callB call_isi (by rfl) T.m_isinstance bt_isinstance (pa_cons (pv 3) (pa_cons (pe_bltn (v := .ty "str") (by rfl) T.m_str bt_str rfl) pa_nil)))))))
      (pss_one (ps_set (i := 3) sc_law_nearly.nd rfl (by first | exact Or.inl rfl | exact Or.inr rfl) (C8.pe_c (ok_law_word T) hr (by decide) (by rfl) (pa_cons (pv 1) pa_nil))))
      (pss_one (ps_if (pt_val (pe_callB call_isi (by rfl) T.m_isinstance bt_isinstance (pa_cons (pv 3) (pa_cons (pe_bltn (v := .ty "int") (by rfl) T.m_int bt_int rfl) pa_nil))))
        (pss_one (ps_set (i := 3) sc_law_nearly.nd rfl (by first | exact Or.inl rfl | exact Or.inr rfl) (pe_op op_add (pe_op op_fdiv (pv 3) pe_int) (C8.pe_c (ok_law_digit T) hr (by decide) (by rfl) (pa_cons (pv 1) (pa_cons pe_int pa_nil))))))
        pss_nil)))
    (pss_one (ps_ret (pe_op op_catA (pe_op op_catA (pe_slice sl_tupA (pv 0) po_none (po_some (pv 2))) (pe_tup (pa_cons (pv 3) pa_nil))) (pe_slice sl_tupA (pv 0) (po_some (pe_op op_add (pv 2) pe_int)) po_none))))))), ?_⟩
  obtain ⟨x, ds, rfl, hds, hnear⟩ := hN d ts hd
  obtain ⟨a, xs, rfl, hS, hR⟩ := hv.tup_of
  have hxl : xs.length = ds.length + 1 := hR.length
  refine ⟨_, rfl, _, rfl, a, _, rfl, .inr hS, r, _, rfl, ⟨by omega, lt70 (by omega)⟩, hr0, fun d1 H1 b1 e1 hr1 => ?_⟩
  obtain ⟨j, rfl, hjx⟩ := nat_of b1 rfl
  have hS1 := e1.sqT hr0.nt hS
  have hR1 := hR.kx e1 hr0.nt
  have ej : (PyData.str x :: ds)[j]? = some ((PyData.str x :: ds)[j]'(by rw [List.length_cons]; omega)) := List.getElem?_eq_getElem _
  obtain ⟨pv, hpv, hpd⟩ := hR1.get ej
  refine ⟨_, rfl, _, rfl, a, _, _, pv, rfl, rfl, hS1, atI_nat hpv, ?_⟩
  have eset : ∀ e', (PyData.str x :: ds).take j ++ [e'] ++ (PyData.str x :: ds).drop (j + 1) = (PyData.str x :: ds).set j e' := fun e' => by
    rw [List.set_eq_take_append_cons_drop, if_pos (by rw [List.length_cons]; omega), List.append_assoc]
    rfl
  cases j with
  | zero =>
    have hpd0 : Rp K H1 pv (.str x) := hpd
    obtain rfl := hpd0.str_of
    refine ⟨_, rfl, _, _, rfl, rfl, _, rfl, if_f (decide_eq_false (by decide)) ?_⟩
    refine ⟨_, rfl, _, _, _, _, _, rfl, .ty _, .base (.str x), isi_si, _, rfl, if_f rfl ?_⟩
    have sq1C := hS1
    have hRC := hR1
    have hPC := hpd0
    refine ⟨_, rfl, _, rfl, _, rfl, a, _, rfl, sq1C, (fun z => absurd z (slice_lo hjx)), fun _ p np => ?_⟩
    rw [cut_lo _ _ (Nat.le_of_lt hjx)]
    have e10 := Kx.new (M := M0) (.tup (xs.take 0)) np
    refine ⟨_, rfl, (by show 1 ≤ sizeLine; decide), fun q nq => ?_⟩
    have e11 := Kx.new (M := M0) (.tup [V.str x]) nq
    have e1011 := e10.to.trans e11.to
    refine cat2 (sq1 e11.to (SqT.of upd_same)) ((hRC.sm e1011).take 0) (SqT.of upd_same) (.cons (hPC.sm e1011) .nil) (by rw [List.length_take, List.length_singleton]; omega) fun v12 H12 e12 hv12 => ?_
    obtain ⟨b12, ys12, rfl, hb12, hR12⟩ := hv12.tup_of
    have e1012 := e1011.trans e12
    refine ⟨_, rfl, _, rfl, _, _, rfl, rfl, _, rfl, a, _, rfl, sq1 e1012 sq1C, (fun z => absurd z (slice_hi hjx)), fun _ p2 np2 => ?_⟩
    have ejx : ((0 : Nat) : Int) + 1 = ((0 + 1 : Nat) : Int) := rfl
    rw [ejx, cut_hi _ _ hjx]
    have e13 := Kx.new (M := M0) (.tup (xs.drop (0 + 1))) np2
    have hl12 := hR12.length
    refine cat2 (sq1 e13.to hb12) (hR12.sm e13.to) (SqT.of upd_same) ((hRC.sm (e1012.trans e13.to)).drop (0 + 1)) (by rw [hl12, List.length_append, List.length_take, List.length_singleton, List.length_drop]; omega) fun v14 H14 e14 hv14 => ?_
    have eall := (e1012.trans e13.to).trans e14
    rw [eset] at hv14
    exact kk _ _ ts _ (e1.trans (Kx.same eall)) (hr1.sm eall) hv14 hd
  | succ i =>
    have ei : ds[i]? = some (ds[i]'(by omega)) := List.getElem?_eq_getElem _
    have hpd1 : Rp K H1 pv (ds[i]'(by omega)) := hpd
    have hpos : decide ((0 : Int) < ((i + 1 : Nat) : Int)) = true := decide_eq_true (by omega)
    rcases hnear i _ ei with ⟨y, ey, hy⟩ | ⟨n, ey, hn, hy⟩ | ⟨es, ey⟩
    · rw [ey] at hpd1
      obtain rfl := hpd1.str_of
      refine ⟨_, rfl, _, _, rfl, rfl, _, rfl, if_t hpos ⟨_, rfl, _, _, _, _, _, rfl, .ty _, .base (.str y), isi_ss, _, rfl, if_t rfl ?_⟩⟩
      refine ⟨_, rfl, r, rfl, hr1, fun z H2 e2 hr2 hz => ?_⟩
      have sq1C := e2.sqT hr1.nt hS1
      have hRC := hR1.kx e2 hr1.nt
      have hPC : Rp K H2 (V.str z) (.str z) := .str z
      refine ⟨_, rfl, _, rfl, _, rfl, a, _, rfl, sq1C, (fun z => absurd z (slice_lo hjx)), fun _ p np => ?_⟩
      rw [cut_lo _ _ (Nat.le_of_lt hjx)]
      have e10 := Kx.new (M := M0) (.tup (xs.take (i + 1))) np
      refine ⟨_, rfl, (by show 1 ≤ sizeLine; decide), fun q nq => ?_⟩
      have e11 := Kx.new (M := M0) (.tup [V.str z]) nq
      have e1011 := e10.to.trans e11.to
      refine cat2 (sq1 e11.to (SqT.of upd_same)) ((hRC.sm e1011).take (i + 1)) (SqT.of upd_same) (.cons (hPC.sm e1011) .nil) (by rw [List.length_take, List.length_singleton]; omega) fun v12 H12 e12 hv12 => ?_
      obtain ⟨b12, ys12, rfl, hb12, hR12⟩ := hv12.tup_of
      have e1012 := e1011.trans e12
      refine ⟨_, rfl, _, rfl, _, _, rfl, rfl, _, rfl, a, _, rfl, sq1 e1012 sq1C, (fun z => absurd z (slice_hi hjx)), fun _ p2 np2 => ?_⟩
      have ejx : (((i + 1) : Nat) : Int) + 1 = (((i + 1) + 1 : Nat) : Int) := rfl
      rw [ejx, cut_hi _ _ hjx]
      have e13 := Kx.new (M := M0) (.tup (xs.drop ((i + 1) + 1))) np2
      have hl12 := hR12.length
      refine cat2 (sq1 e13.to hb12) (hR12.sm e13.to) (SqT.of upd_same) ((hRC.sm (e1012.trans e13.to)).drop ((i + 1) + 1)) (by rw [hl12, List.length_append, List.length_take, List.length_singleton, List.length_drop]; omega) fun v14 H14 e14 hv14 => ?_
      have eall := (e1012.trans e13.to).trans e14
      rw [eset] at hv14
      obtain ⟨ts', hts⟩ := hy z hz
      exact kk _ _ ts' _ ((e1.trans e2).trans (Kx.same eall)) (hr2.sm eall) hv14 hts
    · rw [ey] at hpd1
      obtain rfl := hpd1.int_of
      refine ⟨_, rfl, _, _, rfl, rfl, _, rfl, if_t hpos ⟨_, rfl, _, _, _, _, _, rfl, .ty _, .base (.int n), isi_is, _, rfl, if_f rfl ?_⟩⟩
      refine ⟨_, rfl, _, _, _, _, _, rfl, .ty _, .base (.int n), isi_ii, _, rfl, if_t rfl ?_⟩
      refine ⟨_, rfl, _, _, rfl, rfl, ⟨by decide, by decide⟩, _, rfl, r, 3, rfl, by decide +kernel, hr1, fun d2 H2 b2 e2 hr2 => ⟨_, _, rfl, rfl, ?_⟩⟩
      have hz : IsNum (n / 10 + d2) := by
        obtain ⟨n1, n2⟩ := hn
        have e60' : (10 : Int) ^ 60 = 1000000000000000000000000000000000000000000000000000000000000 := by decide +kernel
        rw [e60'] at n1 n2
        constructor
        · rw [e60']
          omega
        · rw [e60']
          omega
      have sq1C := e2.sqT hr1.nt hS1
      have hRC := hR1.kx e2 hr1.nt
      have hPC : Rp K H2 (V.int (n / 10 + d2)) (.int (n / 10 + d2)) := .int _
      refine ⟨_, rfl, _, rfl, _, rfl, a, _, rfl, sq1C, (fun z => absurd z (slice_lo hjx)), fun _ p np => ?_⟩
      rw [cut_lo _ _ (Nat.le_of_lt hjx)]
      have e10 := Kx.new (M := M0) (.tup (xs.take (i + 1))) np
      refine ⟨_, rfl, (by show 1 ≤ sizeLine; decide), fun q nq => ?_⟩
      have e11 := Kx.new (M := M0) (.tup [V.int (n / 10 + d2)]) nq
      have e1011 := e10.to.trans e11.to
      refine cat2 (sq1 e11.to (SqT.of upd_same)) ((hRC.sm e1011).take (i + 1)) (SqT.of upd_same) (.cons (hPC.sm e1011) .nil) (by rw [List.length_take, List.length_singleton]; omega) fun v12 H12 e12 hv12 => ?_
      obtain ⟨b12, ys12, rfl, hb12, hR12⟩ := hv12.tup_of
      have e1012 := e1011.trans e12
      refine ⟨_, rfl, _, rfl, _, _, rfl, rfl, _, rfl, a, _, rfl, sq1 e1012 sq1C, (fun z => absurd z (slice_hi hjx)), fun _ p2 np2 => ?_⟩
      have ejx : (((i + 1) : Nat) : Int) + 1 = (((i + 1) + 1 : Nat) : Int) := rfl
      rw [ejx, cut_hi _ _ hjx]
      have e13 := Kx.new (M := M0) (.tup (xs.drop ((i + 1) + 1))) np2
      have hl12 := hR12.length
      refine cat2 (sq1 e13.to hb12) (hR12.sm e13.to) (SqT.of upd_same) ((hRC.sm (e1012.trans e13.to)).drop ((i + 1) + 1)) (by rw [hl12, List.length_append, List.length_take, List.length_singleton, List.length_drop]; omega) fun v14 H14 e14 hv14 => ?_
      have eall := (e1012.trans e13.to).trans e14
      rw [eset] at hv14
      obtain ⟨ts', hts⟩ := hy _ hz
      exact kk _ _ ts' _ ((e1.trans e2).trans (Kx.same eall)) (hr2.sm eall) hv14 hts
    · rw [ey] at hpd1
      obtain ⟨a2, ys2, rfl, hS2, hR2⟩ := hpd1.tup_of
      refine ⟨_, rfl, _, _, rfl, rfl, _, rfl, if_t hpos ⟨_, rfl, _, _, _, _, _, rfl, .ty _, tyx_tup hS2, isi_ts, _, rfl, if_f rfl ?_⟩⟩
      refine ⟨_, rfl, _, _, _, _, _, rfl, .ty _, tyx_tup hS2, isi_ti, _, rfl, if_f rfl ?_⟩
      have sq1C := hS1
      have hRC := hR1
      have hPC := hpd1
      refine ⟨_, rfl, _, rfl, _, rfl, a, _, rfl, sq1C, (fun z => absurd z (slice_lo hjx)), fun _ p np => ?_⟩
      rw [cut_lo _ _ (Nat.le_of_lt hjx)]
      have e10 := Kx.new (M := M0) (.tup (xs.take (i + 1))) np
      refine ⟨_, rfl, (by show 1 ≤ sizeLine; decide), fun q nq => ?_⟩
      have e11 := Kx.new (M := M0) (.tup [V.ref a2]) nq
      have e1011 := e10.to.trans e11.to
      refine cat2 (sq1 e11.to (SqT.of upd_same)) ((hRC.sm e1011).take (i + 1)) (SqT.of upd_same) (.cons (hPC.sm e1011) .nil) (by rw [List.length_take, List.length_singleton]; omega) fun v12 H12 e12 hv12 => ?_
      obtain ⟨b12, ys12, rfl, hb12, hR12⟩ := hv12.tup_of
      have e1012 := e1011.trans e12
      refine ⟨_, rfl, _, rfl, _, _, rfl, rfl, _, rfl, a, _, rfl, sq1 e1012 sq1C, (fun z => absurd z (slice_hi hjx)), fun _ p2 np2 => ?_⟩
      have ejx : (((i + 1) : Nat) : Int) + 1 = (((i + 1) + 1 : Nat) : Int) := rfl
      rw [ejx, cut_hi _ _ hjx]
      have e13 := Kx.new (M := M0) (.tup (xs.drop ((i + 1) + 1))) np2
      have hl12 := hR12.length
      refine cat2 (sq1 e13.to hb12) (hR12.sm e13.to) (SqT.of upd_same) ((hRC.sm (e1012.trans e13.to)).drop ((i + 1) + 1)) (by rw [hl12, List.length_append, List.length_take, List.length_singleton, List.length_drop]; omega) fun v14 H14 e14 hv14 => ?_
      have eall := (e1012.trans e13.to).trans e14
      rw [eset, ← ey] at hv14
      have esame : (PyData.str x :: ds).set (i + 1) (ds[i]'(by omega)) = PyData.str x :: ds := by
        rw [List.set_cons_succ, List.set_getElem_self]
      rw [esame] at hv14
      exact kk _ _ ts _ (e1.trans (Kx.same eall)) (hr1.sm eall) hv14 hd
end
end OH
end

section
set_option Elab.async false
set_option linter.all false
set_option maxRecDepth 100000
set_option maxHeartbeats 4000000
set_option autoImplicit false
namespace OH
open PySem PySem.Spec PyProof.Rows L2
/-- what is made of each sort -/
def RR : Nat → PyData → List Tk → Prop
  | 0 => KT4
  | 1 => TT 4
  | 2 => PT
  | 3 => CT
  | _ => VT 3
theorem RR_fn (s : Nat) : Fn (RR s) := by
  match s with
  | 0 => exact KT4_fn
  | 1 => exact TT_fn 4
  | 2 => exact PT_fn
  | 3 => exact CT_fn
  | s + 4 => exact VT_fn 3
theorem RR_gx (s : Nat) {d : PyData} {t : List Tk} (h : RR s d t) : Gx t := by
  match s, h with
  | 0, h => exact KT4_gx h
  | 1, h => exact TT_gx (n := 4) h
  | 2, h => exact PT_gx h
  | 3, h => exact CT_gx h
  | s + 4, h => exact VT_gx (n := 3) h
theorem RR_dec (s : Nat) : Dec (RR s) := by
  match s with
  | 0 => exact @KT4_dec
  | 1 => exact @TT_dec 4
  | 2 => exact @PT_dec
  | 3 => exact @CT_dec
  | s + 4 => exact fun {d d' t t' r r'} h h' e => VT_dec (n := 3) h h' e
theorem RR_sm (s : Nat) {d : PyData} {t : List Tk} (h : RR s d t) : Sm t := by
  match s, h with
  | 0, ⟨_, _, h⟩ => exact Nat.le_trans (KT_lb (n := 4) h) (by decide +kernel)
  | 1, h => exact Nat.le_trans (TT_lb (n := 4) h) (by decide +kernel)
  | 2, h => exact Nat.le_trans (PT_lb h) (by decide +kernel)
  | 3, h => exact Nat.le_trans (CT_lb h) (by decide +kernel)
  | s + 4, h => exact Nat.le_trans (VT_lb (n := 3) h) (by decide +kernel)
theorem RR_nc (s : Nat) {d : PyData} {t : List Tk} (h : RR s d t) : Nc 20 d := by
  match s, h with
  | 0, ⟨_, _, h⟩ => exact (KT_nc (n := 4) h).mono (by decide)
  | 1, h => exact (TT_nc (n := 4) h).mono (by decide)
  | 2, h => exact (PT_nc h).mono (by decide)
  | 3, h => exact (CT_nc h).mono (by decide)
  | s + 4, h => exact (VT_nc (n := 3) h).mono (by decide)
def spSome (K : PySem.W.Frag) : Sp := fun vs H Q _ => ∃ (r : Addr) (s : Nat), vs = [.ref r, .int (s : Nat)] ∧ s < 5 ∧ Rw H r ∧ ∀ p us ds H', Kx (M1 r) H H' → H' p = some (.lst us) → RpA K H' us ds → (∀ d ∈ ds, ∃ ts, RR s d ts) → us.length ≤ 6 → Q (.ref p) H'
def spTextOf (K : PySem.W.Frag) : Sp := fun vs H Q _ => ∃ (s : Nat) (v : V) (d : PyData) (ts : List Tk), vs = [.int (s : Nat), v] ∧ s < 5 ∧ Rp K H v d ∧ RR s d ts ∧ ∀ H', Same H H' → Q (.str (T ts)) H'
def spReadOf (K : PySem.W.Frag) : Sp := fun vs H Q _ => ∃ (s : Nat) (d : PyData) (ts : List Tk), vs = [.int (s : Nat), .str (T ts)] ∧ s < 5 ∧ RR s d ts ∧ ∀ v H', Same H H' → Rp K H' v d → Q v H'
def spLaw (K : PySem.W.Frag) : Sp := fun vs H Q _ => ∃ (a : Addr) (ns : List Int), vs = [.ref a] ∧ SqL K H a (ns.map V.int) ∧ ns.length ≤ 63 ∧ ∀ H', Q (.bl true) H'
/-- the list as it is made -/
def SP (K : PySem.W.Frag) (H : Hp) (r p : Addr) (s : Nat) (i : Nat) (σ : L2.St) (H' : Hp) : Prop :=
  Kx (M1 r) H H' ∧ Rw H' r ∧ ∃ us ds y3, σ = [some (.ref r), some (.int (s : Nat)), some (.ref p), y3] ∧ H' p = some (.lst us) ∧ RpA K H' us ds ∧ (∀ d ∈ ds, ∃ ts, RR s d ts) ∧ us.length = i
theorem sp_add {K : PySem.W.Frag} {H H4 : Hp} {r p : Addr} {s i : Nat} {us : List V} {ds : List PyData} {v : V} {d : PyData} {ts : List Tk} {y3 : Option V} (np : H p = none) (hrp : r ≠ p) (e : Kx (M1 r) H H4) (hr4 : Rw H4 r) (hp4 : H4 p = some (.lst us)) (hR4 : RpA K H4 us ds)
    (hall : ∀ d ∈ ds, ∃ ts, RR s d ts) (hl : us.length = i) (hv4 : Rp K H4 v d) (hd : RR s d ts) : SP K H r p s (i + 1) [some (.ref r), some (.int (s : Nat)), some (.ref p), y3] (upd H4 p (.lst (us ++ [v]))) := by
  have hm : Kx (M1 p) H4 (upd H4 p (.lst (us ++ [v]))) := Kx.put _ rfl
  refine ⟨Kx.mut e _ np, rw_put hrp hr4, us ++ [v], ds ++ [d], y3, rfl, upd_same, (hR4.snoc hv4).kx hm (NoT.one hp4), fun x hx => ?_, by rw [List.length_append, hl]; rfl⟩
  rcases List.mem_append.mp hx with hx | hx
  · exact hall x hx
  · rw [List.mem_singleton.mp hx]
    exact ⟨ts, hd⟩
theorem pick_all {s : Nat} : ∀ {ds : List PyData}, (∀ d ∈ ds, ∃ ts, RR s d ts) → ∃ tss : List (List Tk), tss.length = ds.length ∧ ∀ (i : Nat) (d : PyData), ds[i]? = some d → ∃ t, tss[i]? = some t ∧ RR s d t
  | [], _ => ⟨[], rfl, fun i d e => by simp at e⟩
  | d :: ds, h => by
    obtain ⟨t, ht⟩ := h d (List.mem_cons_self ..)
    obtain ⟨tss, h1, h2⟩ := pick_all (ds := ds) fun e he => h e (List.mem_cons_of_mem _ he)
    refine ⟨t :: tss, by rw [List.length_cons, List.length_cons, h1], fun i e he => ?_⟩
    cases i with
    | zero =>
      simp at he
      subst he
      exact ⟨t, rfl, ht⟩
    | succ i =>
      obtain ⟨t', g1, g2⟩ := h2 i e (by simpa using he)
      exact ⟨t', by simpa using g1, g2⟩
theorem not_row {H H' : Hp} {r : Addr} (e : Kx (M1 r) H H') (hn : H r = none) : Same H H' := fun a o h => e a o (fun z => by
  have z' : a = r := z
  rw [z', hn] at h
  cases h) h
section
variable {P : Program} {w : World} {K : PySem.W.Frag} {mg : Str → Option Value} {base : Heap}
theorem ok_law_some (T : Txt w K mg) : C8.Cal P w K mg base (14) "_law_some" (spSome K) [] := by
  refine calD (tell_law_some T) sc_law_some bind_law_some (fun vs H Q E h => ?_) (fun f cdv A outer s H vs Q E hr h => ?_)
  · obtain ⟨_, _, rfl, _⟩ := h
    rfl
  obtain ⟨r, s, rfl, hs, hr0, kk⟩ := h
  obtain ⟨R, hN, hRs⟩ : ∃ R : PyData → List Tk → Prop, Near R ∧ ((s = 1 ∨ s = 2) → R = RR s) := by
    by_cases h2 : s = 2
    · exact ⟨PT, PT_near, fun _ => by rw [h2]; rfl⟩
    · exact ⟨TT 4, TT_near 3, fun h => by
        rcases h with h | h
        · rw [h]
          rfl
        · exact absurd h h2⟩
  refine ⟨_, (pss_cons (ps_set (i := 2) sc_law_some.nd rfl (by first | exact Or.inl rfl | exact Or.inr rfl) (pe_lst pa_nil))
    (pss_cons (ps_for PassesOwn.never rfl (pi_range1 (by rfl) T.m_range (pa_cons pe_int pa_nil)) (pg_name (i := 3) sc_law_some.nd rfl (by first | exact Or.inl rfl | exact Or.inr rfl))
      (pss_one (ps_if (pt_cmpR op_eq (pv 1) pe_int (nomark _))
        (pss_one (ps_expr (pe_bm PySem.F.plainAttrs_list PySem.F.slot_list_append PySem.F.type_list_append mt_append (pv 2) (pa_cons (C8.pe_c (ok_law_kind T 4) hr (by decide) (by rfl) (pa_cons (pv 0) (pa_cons pe_int (pa_cons (pe_lst (pa_cons pe_int pa_nil)) pa_nil)))) pa_nil))))
        (pss_one (ps_if (pt_cmpR op_eq (pv 1) pe_int (nomark _))
          (pss_one (ps_expr (pe_bm PySem.F.plainAttrs_list PySem.F.slot_list_append PySem.F.type_list_append mt_append (pv 2) (pa_cons (C8.pe_c (ok_law_any_turn T 4) hr (by decide) (by rfl) (pa_cons (pv 0) (pa_cons pe_int pa_nil))) pa_nil))))
          (pss_one (ps_if (pt_cmpR op_eq (pv 1) pe_int (nomark _))
            (pss_one (ps_expr (pe_bm PySem.F.plainAttrs_list PySem.F.slot_list_append PySem.F.type_list_append mt_append (pv 2) (pa_cons (C8.pe_c (ok_law_any_piece T) hr (by decide) (by rfl) (pa_cons (pv 0) pa_nil)) pa_nil))))
            (pss_one (ps_if (pt_cmpR op_eq (pv 1) pe_int (nomark _))
              (pss_one (ps_expr (pe_bm PySem.F.plainAttrs_list PySem.F.slot_list_append PySem.F.type_list_append mt_append (pv 2) (pa_cons (pe_tup (pa_cons (C8.pe_c (ok_law_any_path T) hr (by decide) (by rfl) (pa_cons (pv 0) pa_nil)) (pa_cons (C8.pe_c (ok_law_any_piece T) hr (by decide) (by rfl) (pa_cons (pv 0) pa_nil)) pa_nil))) pa_nil))))
              (pss_one (ps_expr (pe_bm PySem.F.plainAttrs_list PySem.F.slot_list_append PySem.F.type_list_append mt_append (pv 2) (pa_cons (C8.pe_c (ok_law_any_value T 4) hr (by decide) (by rfl) (pa_cons (pv 0) (pa_cons pe_int pa_nil))) pa_nil)))))))))))))
    (pss_cons (ps_if (PW.pt (pw_or (pt_cmpR op_eq (pv 1) pe_int (nomark _)) (pw_or1 (pt_cmpR op_eq (pv 1) pe_int (nomark _)))))
      (pss_one (ps_set (i := 2) sc_law_some.nd rfl (by first | exact Or.inl rfl | exact Or.inr rfl) (pe_op op_cat (pv 2) (pe_lc (own := [("k", 3)]) (by rfl) sc_law_some.nd (pi_range1 (by rfl) T.m_range (pa_cons pe_int pa_nil)) (blkOk_by (own := [("k", 3)]) (N := ["row", "sort", "found", "k"]) (sc := defScope s_law_some) (by decide +kernel)) (fun _ _ _ _ _ => (pg_name (i := 3) sc_law_some.nd rfl (by first | exact Or.inl rfl | exact Or.inr rfl))) (fun _ _ _ _ _ => pts_nil) (fun _ _ _ _ _ => (C8.pe_c (ok_law_nearly T hN) hr (by decide) (by rfl) (pa_cons (pe_ix (show IxR _ (rIxL K) from ix_list) (pv 2) (pv 3) (fun _ _ => rfl)) (pa_cons (pv 0) pa_nil))))))))
      pss_nil)
    (pss_one (ps_ret (pv 2)))))), ?_⟩
  have hz := sizeL
  refine ⟨Nat.zero_le _, fun p np => ?_⟩
  have hrp : r ≠ p := fun z => hr0.ne (by rw [z]; exact np)
  have hpr : ¬ M1 r p := fun z => hrp (show p = r from z).symm
  have e0 := Kx.new (M := M0) (.lst []) np
  refine ⟨3, rfl, by decide, by decide, ?_⟩
  refine for_it (D := { nx := _, rt := _ }) walk_range (fun i σ H' => SP K H r p s i σ H') ⟨Kx.same e0.to, hr0.sm e0.to, [], [], none, rfl, upd_same, .nil, (fun d h => nomatch h), rfl⟩ (fun i σ H' _ _ => True.intro) (fun i x σ H2 H2' hi hP y => ?_) (fun σ H2 hP => ?_)
  · obtain ⟨e2, hr2, us, ds, y3, rfl, hp, hR, hall, hl⟩ := hP
    obtain ⟨rfl, rfl⟩ := y
    have hi3 : i < 3 := hi
    match s, hs with
    | 0, _ =>
      refine ⟨_, rfl, rfl, _, rfl, if_t (by decide +kernel) ?_⟩
      refine ⟨_, rfl, .inl ⟨rfl, _, SqL.of hp⟩, _, rfl, (by show 1 ≤ sizeLine; decide), fun m nm => ?_⟩
      have em := Kx.new (M := M0) (.lst [V.int 20]) nm
      have hrm : r ≠ m := fun z => hr2.ne (by rw [z]; exact nm)
      refine ⟨r, m, 4, _, 20, rfl, rfl, hrm, by decide, by decide, hr2.sm em.to, upd_same, fun v4 d4 t4 c4 a4 H4 e4 hr4 hm4 hv4 hd4 hc4 => ?_⟩
      have e24 := kx_drop em.to nm e4
      have hp4 := e24 _ _ hpr hp
      have hR4 := hR.kx e24 hr2.nt
      exact ⟨p, us, _, rfl, rfl, hp4, by omega, sp_add np hrp (e2.trans e24) hr4 hp4 hR4 hall hl hv4 (show KT4 d4 t4 from ⟨c4, by omega, hd4⟩)⟩
    | 1, _ =>
      refine ⟨_, rfl, rfl, _, rfl, if_f (by decide +kernel) ?_⟩
      refine ⟨_, rfl, rfl, _, rfl, if_t (by decide +kernel) ?_⟩
      refine ⟨_, rfl, .inl ⟨rfl, _, SqL.of hp⟩, _, rfl, r, 3, _, rfl, rfl, by decide, hr2, fun v4 d4 t4 H4 e4 hr4 hv4 hd4 => ?_⟩
      have hp4 := e4 _ _ hpr hp
      have hR4 := hR.kx e4 hr2.nt
      exact ⟨p, us, _, rfl, rfl, hp4, by omega, sp_add np hrp (e2.trans e4) hr4 hp4 hR4 hall hl hv4 hd4⟩
    | 2, _ =>
      refine ⟨_, rfl, rfl, _, rfl, if_f (by decide +kernel) ?_⟩
      refine ⟨_, rfl, rfl, _, rfl, if_f (by decide +kernel) ?_⟩
      refine ⟨_, rfl, rfl, _, rfl, if_t (by decide +kernel) ?_⟩
      refine ⟨_, rfl, .inl ⟨rfl, _, SqL.of hp⟩, _, rfl, r, rfl, hr2, fun v4 d4 t4 H4 e4 hr4 hv4 hd4 => ?_⟩
      have hp4 := e4 _ _ hpr hp
      have hR4 := hR.kx e4 hr2.nt
      exact ⟨p, us, _, rfl, rfl, hp4, by omega, sp_add np hrp (e2.trans e4) hr4 hp4 hR4 hall hl hv4 hd4⟩
    | 3, _ =>
      refine ⟨_, rfl, rfl, _, rfl, if_f (by decide +kernel) ?_⟩
      refine ⟨_, rfl, rfl, _, rfl, if_f (by decide +kernel) ?_⟩
      refine ⟨_, rfl, rfl, _, rfl, if_f (by decide +kernel) ?_⟩
      refine ⟨_, rfl, rfl, _, rfl, if_t (by decide +kernel) ?_⟩
      refine ⟨_, rfl, .inl ⟨rfl, _, SqL.of hp⟩, _, rfl, r, rfl, hr2, fun v4 d4 t4 H4 e4 hr4 hv4 hd4 => ⟨_, rfl, r, rfl, hr4, fun v5 d5 t5 H5 e5 hr5 hv5 hd5 => ⟨(by show 2 ≤ sizeLine; decide), fun t nt => ?_⟩⟩⟩
      have et := Kx.new (M := M0) (.tup [v4, v5]) nt
      have e46 := (e4.trans e5).trans (Kx.same et.to)
      have hvt : Rp K (upd H5 t (.tup [v4, v5])) (.ref t) (.tuple [d4, d5]) := .tup (SqT.of upd_same) (.cons ((hv4.kx e5 hr4.nt).sm et.to) (.cons (hv5.sm et.to) .nil))
      have hp4 := e46 _ _ hpr hp
      have hR4 := hR.kx e46 hr2.nt
      exact ⟨p, us, _, rfl, rfl, hp4, by omega, sp_add np hrp (e2.trans e46) (hr5.sm et.to) hp4 hR4 hall hl hvt (show CT _ _ from ⟨d4, t4, d5, t5, hd4, hd5, rfl, rfl⟩)⟩
    | 4, _ =>
      refine ⟨_, rfl, rfl, _, rfl, if_f (by decide +kernel) ?_⟩
      refine ⟨_, rfl, rfl, _, rfl, if_f (by decide +kernel) ?_⟩
      refine ⟨_, rfl, rfl, _, rfl, if_f (by decide +kernel) ?_⟩
      refine ⟨_, rfl, rfl, _, rfl, if_f (by decide +kernel) ?_⟩
      refine ⟨_, rfl, .inl ⟨rfl, _, SqL.of hp⟩, _, rfl, r, 3, _, rfl, rfl, by decide, hr2, fun v4 d4 t4 H4 e4 hr4 hv4 hd4 => ?_⟩
      have hp4 := e4 _ _ hpr hp
      have hR4 := hR.kx e4 hr2.nt
      exact ⟨p, us, _, rfl, rfl, hp4, by omega, sp_add np hrp (e2.trans e4) hr4 hp4 hR4 hall hl hv4 hd4⟩
    | s + 5, h => omega
  · obtain ⟨e2, hr2, us, ds, y3, rfl, hp, hR, hall, hl⟩ := hP
    have hl3 : us.length = 3 := hl
    suffices near : (s = 1 ∨ s = 2) → _ by
      refine ⟨_, rfl, rfl, _, rfl, ?_⟩
      by_cases w1 : V.int ((s : Nat) : Int) = V.int 1
      · exact if_t (decide_eq_true w1) (near (.inl (by have := V.int.inj w1; omega)))
      refine if_f (decide_eq_false w1) ⟨_, rfl, rfl, _, rfl, ?_⟩
      by_cases w2 : V.int ((s : Nat) : Int) = V.int 2
      · exact if_t (decide_eq_true w2) (near (.inr (by have := V.int.inj w2; omega)))
      refine if_f (decide_eq_false w2) ?_
      exact ⟨_, rfl, kk p us ds H2 e2 hp hR hall (by omega)⟩
    intro hs12
    have hRR := hRs hs12
    subst hRR
    refine ⟨_, rfl, 3, rfl, by decide, by decide, fun D nD => ?_⟩
    have nD0 : H D = none := e2.free (ne_new hr2.ne nD) nD
    have hDr : r ≠ D := fun z => hr0.ne (by rw [z]; exact nD0)
    have hDp : p ≠ D := fun z => by
      rw [← z, hp] at nD
      cases nD
    have eD := Kx.new (M := M0) (.lst []) nD
    have hds : ds.length = 3 := by rw [← hR.length]; exact hl3
    refine lcS walk_range (fun i acc H' => Kx (M1 r) H H' ∧ Rw H' r ∧ H' p = some (.lst us) ∧ RpA K H' us ds ∧ ∃ ds2, RpA K H' acc ds2 ∧ ∀ d ∈ ds2, ∃ ts, RR s d ts) (by rw [hz]; decide) ⟨e2.trans (Kx.same eD.to), hr2.sm eD.to, eD.to _ _ hp, hR.sm eD.to, [], .nil, (fun d h => nomatch h)⟩ (fun _ _ _ _ _ => True.intro) (fun i acc v H3 H4 Q1 hi hacc hD hI y k1 => ?_) (fun acc H3 hacc hD hI => ?_)
    · obtain ⟨rfl, rfl⟩ := y
      obtain ⟨e3, hr3, hp3, hR3, ds2, hR2, h2⟩ := hI
      have hi3 : i < 3 := hi
      have ed : ds[i]? = some (ds[i]'(by omega)) := List.getElem?_eq_getElem _
      obtain ⟨u, hu, hud⟩ := hR3.get ed
      obtain ⟨tu, htu⟩ := hall _ (List.getElem_mem (h := (by omega : i < ds.length)))
      refine ⟨rfl, _, rfl, _, rfl, p, us, _, u, rfl, rfl, SqL.of hp3, (by rw [Int.zero_add]; exact atI_nat hu), _, rfl, r, u, _, tu, rfl, hud, htu, hr3, fun v4 d4 t4 H4 e4 hr4 hv4 hd4 => ?_⟩
      have hD4 := e4 _ _ (fun z => hDr (show D = r from z).symm) hD
      have hm : Kx (M1 D) H4 (upd H4 D (.lst (acc ++ [v4]))) := Kx.put _ rfl
      refine k1 _ _ hD4 ⟨Kx.mut (e3.trans e4) _ nD0, rw_put hDr hr4, put_keep hDp (e4 _ _ hpr hp3), (hR3.kx e4 hr3.nt).kx hm (NoT.one hD4), ds2 ++ [d4], ((hR2.kx e4 hr3.nt).snoc hv4).kx hm (NoT.one hD4), fun x hx => ?_⟩
      rcases List.mem_append.mp hx with hx | hx
      · exact h2 x hx
      · rw [List.mem_singleton.mp hx]
        exact ⟨t4, hd4⟩
    · obtain ⟨e3, hr3, hp3, hR3, ds2, hR2, h2⟩ := hI
      have hacc3 : acc.length = 3 := hacc
      refine ⟨p, D, us, acc, rfl, rfl, hp3, hD, by omega, fun q nq => ?_⟩
      have eq := Kx.new (M := M0) (.lst (us ++ acc)) nq
      refine ⟨_, rfl, kk q (us ++ acc) (ds ++ ds2) _ (e3.trans (Kx.same eq.to)) upd_same ((hR3.append hR2).sm eq.to) (fun x hx => ?_) (by rw [List.length_append]; omega)⟩
      rcases List.mem_append.mp hx with hx | hx
      · exact hall x hx
      · exact h2 x hx
theorem ok_law_text_of (T : Txt w K mg) : C8.Cal P w K mg base (18) "_law_text_of" (spTextOf K) [] := by
  refine calD (tell_law_text_of T) sc_law_text_of bind_law_text_of (fun vs H Q E h => ?_) (fun f cdv A outer s H vs Q E hr h => ?_)
  · obtain ⟨_, _, _, _, rfl, _⟩ := h
    rfl
  obtain ⟨s, v, d, ts, rfl, hs, hv, hd, kk⟩ := h
  refine ⟨_, (pss_cons (ps_if (pt_cmpR op_eq (pv 0) pe_int (nomark _))
      (pss_one (ps_ret (C8.pe_c (ok_kind_text T 4) hr (by decide) (by rfl) (pa_cons (pv 1) pa_nil))))
      pss_nil)
    (pss_cons (ps_if (pt_cmpR op_eq (pv 0) pe_int (nomark _))
      (pss_one (ps_ret (C8.pe_c (ok_turn_text T 4) hr (by decide) (by rfl) (pa_cons (pv 1) pa_nil))))
      pss_nil)
    (pss_cons (ps_if (pt_cmpR op_eq (pv 0) pe_int (nomark _))
      (pss_one (ps_ret (C8.pe_c (ok_piece_text T) hr (by decide) (by rfl) (pa_cons (pv 1) pa_nil))))
      pss_nil)
    (pss_cons (ps_if (pt_cmpR op_eq (pv 0) pe_int (nomark _))
      (pss_one (ps_ret (C8.pe_c (ok_change_text T) hr (by decide) (by rfl) (pa_cons (pv 1) pa_nil))))
      pss_nil)
    (pss_one (ps_ret (C8.pe_c (ok_value_text T 4) hr (by decide) (by rfl) (pa_cons (pv 1) pa_nil)))))))), ?_⟩
  have hsm := RR_sm s hd
  match s, hs, hd with
  | 0, _, hd =>
    obtain ⟨c, hc, hd⟩ := hd
    refine ⟨_, rfl, rfl, _, rfl, if_t (by decide +kernel) ?_⟩
    exact ⟨_, rfl, v, d, ts, rfl, hv, ⟨c, hd⟩, hsm, kk⟩
  | 1, _, hd =>
    refine ⟨_, rfl, rfl, _, rfl, if_f (by decide +kernel) ?_⟩
    refine ⟨_, rfl, rfl, _, rfl, if_t (by decide +kernel) ?_⟩
    exact ⟨_, rfl, v, d, ts, rfl, hv, hd, hsm, kk⟩
  | 2, _, hd =>
    refine ⟨_, rfl, rfl, _, rfl, if_f (by decide +kernel) ?_⟩
    refine ⟨_, rfl, rfl, _, rfl, if_f (by decide +kernel) ?_⟩
    refine ⟨_, rfl, rfl, _, rfl, if_t (by decide +kernel) ?_⟩
    exact ⟨_, rfl, v, d, ts, rfl, hv, hd, hsm, kk⟩
  | 3, _, hd =>
    refine ⟨_, rfl, rfl, _, rfl, if_f (by decide +kernel) ?_⟩
    refine ⟨_, rfl, rfl, _, rfl, if_f (by decide +kernel) ?_⟩
    refine ⟨_, rfl, rfl, _, rfl, if_f (by decide +kernel) ?_⟩
    refine ⟨_, rfl, rfl, _, rfl, if_t (by decide +kernel) ?_⟩
    exact ⟨_, rfl, v, d, ts, rfl, hv, hd, hsm, kk⟩
  | 4, _, hd =>
    refine ⟨_, rfl, rfl, _, rfl, if_f (by decide +kernel) ?_⟩
    refine ⟨_, rfl, rfl, _, rfl, if_f (by decide +kernel) ?_⟩
    refine ⟨_, rfl, rfl, _, rfl, if_f (by decide +kernel) ?_⟩
    refine ⟨_, rfl, rfl, _, rfl, if_f (by decide +kernel) ?_⟩
    exact ⟨_, rfl, v, d, ts, rfl, hv, hd, hsm, kk⟩
  | s + 5, h, _ => omega
theorem ok_law_read (T : Txt w K mg) : C8.Cal P w K mg base (61) "_law_read" (spReadOf K) [] := by
  refine calD (tell_law_read T) sc_law_read bind_law_read (fun vs H Q E h => ?_) (fun f cdv A outer s H vs Q E hr h => ?_)
  · obtain ⟨_, _, _, rfl, _⟩ := h
    rfl
  obtain ⟨s, d, ts, rfl, hs, hd, kk⟩ := h
  refine ⟨_, (pss_cons (ps_if (pt_cmpR op_eq (pv 0) pe_int (nomark _))
      (pss_one (ps_ret (C8.pe_c (ok_read_kind T) hr (by decide) (by rfl) (pa_cons (pv 1) pa_nil))))
      pss_nil)
    (pss_cons (ps_if (pt_cmpR op_eq (pv 0) pe_int (nomark _))
      (pss_one (ps_ret (C8.pe_c (ok_read_turn T) hr (by decide) (by rfl) (pa_cons (pv 1) pa_nil))))
      pss_nil)
    (pss_cons (ps_if (pt_cmpR op_eq (pv 0) pe_int (nomark _))
      (pss_one (ps_ret (C8.pe_c (ok_read_piece T) hr (by decide) (by rfl) (pa_cons (pv 1) pa_nil))))
      pss_nil)
    (pss_cons (ps_if (pt_cmpR op_eq (pv 0) pe_int (nomark _))
      (pss_one (ps_ret (C8.pe_c (ok_read_change T) hr (by decide) (by rfl) (pa_cons (pv 1) pa_nil))))
      pss_nil)
    (pss_one (ps_ret (pe_ix ix_tup (C8.pe_c (ok_read_piece T) hr (by decide) (by rfl) (pa_cons (pe_op op_add_str (pe_op op_add_str pe_str (pv 1)) pe_str) pa_nil)) pe_int (fun _ _ => rfl)))))))), ?_⟩
  have hsm := RR_sm s hd
  have hgd := (RR_gx s hd).gd
  match s, hs, hd with
  | 0, _, hd =>
    refine ⟨_, rfl, rfl, _, rfl, if_t (by decide +kernel) ?_⟩
    exact ⟨_, rfl, d, ts, rfl, hd, hgd, hsm, kk⟩
  | 1, _, hd =>
    refine ⟨_, rfl, rfl, _, rfl, if_f (by decide +kernel) ?_⟩
    refine ⟨_, rfl, rfl, _, rfl, if_t (by decide +kernel) ?_⟩
    exact ⟨_, rfl, d, ts, rfl, hd, hgd, hsm, kk⟩
  | 2, _, hd =>
    refine ⟨_, rfl, rfl, _, rfl, if_f (by decide +kernel) ?_⟩
    refine ⟨_, rfl, rfl, _, rfl, if_f (by decide +kernel) ?_⟩
    refine ⟨_, rfl, rfl, _, rfl, if_t (by decide +kernel) ?_⟩
    exact ⟨_, rfl, d, ts, rfl, hd, hgd, hsm, kk⟩
  | 3, _, hd =>
    refine ⟨_, rfl, rfl, _, rfl, if_f (by decide +kernel) ?_⟩
    refine ⟨_, rfl, rfl, _, rfl, if_f (by decide +kernel) ?_⟩
    refine ⟨_, rfl, rfl, _, rfl, if_f (by decide +kernel) ?_⟩
    refine ⟨_, rfl, rfl, _, rfl, if_t (by decide +kernel) ?_⟩
    exact ⟨_, rfl, d, ts, rfl, hd, hgd, hsm, kk⟩
  | 4, _, hd =>
    refine ⟨_, rfl, rfl, _, rfl, if_f (by decide +kernel) ?_⟩
    refine ⟨_, rfl, rfl, _, rfl, if_f (by decide +kernel) ?_⟩
    refine ⟨_, rfl, rfl, _, rfl, if_f (by decide +kernel) ?_⟩
    refine ⟨_, rfl, rfl, _, rfl, if_f (by decide +kernel) ?_⟩
    have hz := sizeL
    have hl := Nat.le_trans (VT_lb (n := 3) hd) (show bV 3 ≤ 200000 by decide +kernel)
    have hlT : (OH.T ts).length ≤ 200000 := by rw [T_len]; exact hl
    have hPT : PT (.tuple [.str "drop", .str "a", d]) (fmt "drop" [[.w "a"], ts]) := ⟨"drop", "nv", [.str "a", d], [[.w "a"], ts], (by unfold pieceF; decide +kernel), ⟨.inl ⟨rfl, "a", by decide +kernel, rfl, rfl⟩, .inr (.inr (.inr (.inl ⟨rfl, hd⟩))), trivial⟩, rfl, rfl⟩
    have e0 : (("drop(a, " : Str) ++ OH.T ts) ++ ")" = OH.T (fmt "drop" [[.w "a"], ts]) := by
      refine TL.ext_tl ?_
      rw [TL.tl_append, TL.tl_append, T_tl]
      show _ = TC ([.w "drop", .s 40, .w "a", .s 44, .sp] ++ (ts ++ [.s 41]))
      rw [TC_app, TC_app, List.append_assoc]
      rfl
    have o1 : ("drop(a, " : Str).length = 8 := rfl
    have o2 : (")" : Str).length = 1 := rfl
    refine ⟨_, rfl, _, _, rfl, rfl, by rw [o1]; omega, _, _, rfl, rfl, by rw [len_app, o1, o2]; omega, ?_⟩
    rw [e0]
    refine ⟨_, _, rfl, hPT, (PT_gx hPT).gd, RR_sm 2 hPT, fun v H1 e1 hv => ?_⟩
    obtain ⟨a, xs, rfl, hS, hR⟩ := hv.tup_of
    obtain ⟨v1, v2, v3, rfl, g1, g2, g3⟩ := hR.three_of
    exact ⟨a, _, _, _, rfl, rfl, hS, rfl, kk v3 H1 e1 g3⟩
  | s + 5, h, _ => omega
theorem fnD {x q : Str} {st : Stmt} {N ps : List Str} {k : Nat} {sp : Sp} {f : Addr} {fd : FuncData} (F : FunD K x q (defArgs st) (defBody st) (defScope st) [] [] f fd) (S : FnScope N ps (defScope st)) (len : ∀ vs H Q E, sp vs H Q E → vs.length = ps.length)
    (body : BodyH P w K mg base k q st N sp) : FnOk P w K mg base C8.CX0 (k + 1) f fd ps sp := by
  refine F.ok S len (fun cdv A outer s H vs Q E hr hs => ?_)
  obtain ⟨t, h1, h2⟩ := body f cdv A outer s H vs Q E hr hs
  exact ⟨t, h1.nox, h2⟩
theorem fn_law (T : Txt w K mg) {f : Addr} {fd : FuncData} (F : FunD K "law" "law" (defArgs s_law) (defBody s_law) (defScope s_law) [] [] f fd) : FnOk P w K mg base C8.CX0 (62) f fd ["script"] (spLaw K) := by
  refine fnD F sc_law (fun vs H Q E h => ?_) (fun f cdv A outer s H vs Q E hr h => ?_)
  · obtain ⟨_, _, rfl, _⟩ := h
    rfl
  obtain ⟨a, ns, rfl, hS, hn, kk⟩ := h
  refine ⟨_, (pss_cons (ps_for PassesOwn.never rfl (pi_range1 (by rfl) T.m_range (pa_cons (pe_callB (call_min2 rfl) (by rfl) T.m_min bt_min (pa_cons pe_int (pa_cons (pe_op op_add pe_int (pe_callB call_len_seq (by rfl) T.m_len bt_len (pa_cons (pv 0) pa_nil))) pa_nil))) pa_nil)) (pg_name (i := 1) sc_law.nd rfl (by first | exact Or.inl rfl | exact Or.inr rfl))
      (pss_one (ps_for PassesOwn.never rfl (pi_range1 (by rfl) T.m_range (pa_cons pe_int pa_nil)) (pg_name (i := 2) sc_law.nd rfl (by first | exact Or.inl rfl | exact Or.inr rfl))
        (pss_cons (ps_set (i := 3) sc_law.nd rfl (by first | exact Or.inl rfl | exact Or.inr rfl) (C8.pe_c (ok_law_own T) hr (by decide) (by rfl) (pa_cons (pv 0) (pa_cons (pv 1) (pa_cons (pv 2) pa_nil)))))
        (pss_cons (ps_set (i := 4) sc_law.nd rfl (by first | exact Or.inl rfl | exact Or.inr rfl) (C8.pe_c (ok_law_some T) hr (by decide) (by rfl) (pa_cons (pv 3) (pa_cons (pv 2) pa_nil))))
        (pss_cons (ps_setLc (i := 5) (own := [("thing", 9)]) (by rfl) sc_law.nd rfl rfl (sw_true rfl rfl rfl (by decide +kernel)) (pi_list (pv 4)) (blkOk_by (own := [("thing", 9)]) (N := ["script", "k", "sort", "row", "some", "texts", "a", "b", "found", "thing"]) (sc := defScope s_law) (by decide +kernel)) (fun _ _ _ _ _ => (pg_name (i := 9) sc_law.nd rfl (by first | exact Or.inl rfl | exact Or.inr rfl))) (fun _ _ _ _ _ => pts_nil) (fun _ _ _ _ _ => (C8.pe_c (ok_law_text_of T) hr (by decide) (by rfl) (pa_cons (pv 2) (pa_cons (pv 9) pa_nil)))))
        (pss_one (ps_for PassesOwn.never rfl (pi_range1 (by rfl) T.m_range (pa_cons (pe_callB call_len_seq (by rfl) T.m_len bt_len (pa_cons (pv 4) pa_nil)) pa_nil)) (pg_name (i := 6) sc_law.nd rfl (by first | exact Or.inl rfl | exact Or.inr rfl))
          (pss_cons (ps_for PassesOwn.never rfl (pi_range1 (by rfl) T.m_range (pa_cons (pe_callB call_len_seq (by rfl) T.m_len bt_len (pa_cons (pv 4) pa_nil)) pa_nil)) (pg_name (i := 7) sc_law.nd rfl (by first | exact Or.inl rfl | exact Or.inr rfl))
            (pss_one (ps_if (pt_cmpR op_ne (pe_cmpR op_eq (pe_ix ix_list (pv 5) (pv 6) (fun _ _ => rfl)) (pe_ix ix_list (pv 5) (pv 7) (fun _ _ => rfl)) (nomark _)) (pe_cmpR (op_eqD (hud_of hr)) (pe_ix ix_list (pv 4) (pv 6) (fun _ _ => rfl)) (pe_ix ix_list (pv 4) (pv 7) (fun _ _ => rfl)) (nomark _)) (nomark _))
              (pss_one (ps_ret pe_bl))
              pss_nil)))
          (pss_cons (ps_set (i := 8) sc_law.nd rfl (by first | exact Or.inl rfl | exact Or.inr rfl) (C8.pe_c (ok_law_read T) hr (by decide) (by rfl) (pa_cons (pv 2) (pa_cons (pe_ix ix_list (pv 5) (pv 6) (fun _ _ => rfl)) pa_nil))))
          (pss_one (ps_if (PW.pt (pw_or (pt_cmpR (op_neD (hud_of hr)) (pv 8) (pe_ix ix_list (pv 4) (pv 6) (fun _ _ => rfl)) (nomark _)) (pw_or1 (pt_cmpR op_ne (C8.pe_c (ok_law_text_of T) hr (by decide) (by rfl) (pa_cons (pv 2) (pa_cons (pv 8) pa_nil))) (pe_ix ix_list (pv 5) (pv 6) (fun _ _ => rfl)) (nomark _)))))
            (pss_one (ps_ret pe_bl))
            pss_nil))))))))))))
    (pss_one (ps_ret pe_bl))), ?_⟩
  have hz := sizeL
  refine ⟨_, rfl, a, _, rfl, .inl hS, _, _, rfl, rfl, _, _, rfl, _, rfl, by split <;> omega, by split <;> omega, ?_⟩
  refine for_it (D := { nx := _, rt := _ }) walk_range (fun i σ H' => Same H H' ∧ ∃ y1 y2 y3 y4 y5 y6 y7 y8 y9, σ = [some (.ref a), y1, y2, y3, y4, y5, y6, y7, y8, y9]) ⟨Same.refl _, none, none, none, none, none, none, none, none, none, rfl⟩ (fun _ _ _ _ _ => True.intro) (fun kx x σ H1 H1' hkx hP y => ?_) (fun σ H1 hP => kk _)
  obtain ⟨e1, y1, y2, y3, y4, y5, y6, y7, y8, y9, rfl⟩ := hP
  obtain ⟨rfl, hx⟩ := y
  have hx := hx.trans (congrArg V.int (Int.zero_add _))
  subst hx
  have hk8 : kx ≤ 8 := by
    have z : ((if 1 + (((ns.map V.int).length : Nat) : Int) < 8 then 1 + (((ns.map V.int).length : Nat) : Int) else 8)).toNat ≤ 8 := by split <;> omega
    omega
  refine ⟨5, rfl, by decide, by decide, ?_⟩
  refine for_it (D := { nx := _, rt := _, ct := _, bk := _ }) walk_range (fun i σ H' => Same H H' ∧ ∃ y2 y3 y4 y5 y6 y7 y8 y9, σ = [some (.ref a), some (.int ((kx : Nat) : Int)), y2, y3, y4, y5, y6, y7, y8, y9]) ⟨e1, y2, y3, y4, y5, y6, y7, y8, y9, rfl⟩ (fun _ _ _ _ _ => True.intro) (fun s x σ H2 H2' hs5 hP y => ?_) (fun σ H2 hP => ?_)
  · obtain ⟨e2, y2, y3, y4, y5, y6, y7, y8, y9, rfl⟩ := hP
    obtain ⟨rfl, hx⟩ := y
    have hx := hx.trans (congrArg V.int (Int.zero_add _))
    subst hx
    have hs5 : s < 5 := hs5
    refine ⟨_, rfl, _, rfl, _, rfl, a, ns, kx, s, rfl, hk8, by omega, e2.seq hS, fun r H3 e3 nr hr3 => ?_⟩
    refine ⟨_, rfl, _, rfl, r, s, rfl, hs5, hr3, fun p us ds H4 e4 hp hR hall hl => ?_⟩
    have e24 := not_row ((Kx.same e3).trans e4) nr
    obtain ⟨tss, htl, hts⟩ := pick_all hall
    have hul : us.length = ds.length := hR.length
    refine ⟨_, rfl, p, rfl, ⟨_, SqL.of hp⟩, fun D nD => ?_⟩
    refine lcP walk_list (fun i => ((tss[i]?).map fun t => V.str (OH.T t)).getD .non) nD (by omega) (fun _ e => SqL.of (e _ _ hp)) (fun i v H5 H6 Q1 hi e5 y k1 => ?_) (fun H5 e5 hD => ?_)
    · obtain ⟨rfl, hv⟩ := y
      obtain ⟨d, hd, hvd⟩ := (hR.sm e5).back hv
      obtain ⟨t, ht, hrr⟩ := hts i d hd
      refine ⟨rfl, _, rfl, _, rfl, s, v, d, t, rfl, hs5, hvd, hrr, fun H7 e7 => ?_⟩
      have z := k1 _ e7
      rw [ht] at z
      exact z
    have hD5 : H5 D = some (.lst (tss.map fun t => V.str (OH.T t))) := by
      rw [hD, hul, ← htl, range_map_get (f := fun t => V.str (OH.T t)) tss fun i t h => by rw [h]; rfl]
    have hp5 := e5 _ _ hp
    have hR5 := hR.sm e5
    have e25 := e24.trans e5
    refine ⟨_, rfl, p, _, rfl, .inl (SqL.of hp5), _, rfl, by omega, by omega, ?_⟩
    rw [Int.toNat_natCast]
    refine for_it (D := { nx := _, rt := _, ct := _, bk := _ }) walk_range (fun i σ H' => Same H5 H' ∧ ∃ y6 y7 y8 y9, σ = [some (.ref a), some (.int ((kx : Nat) : Int)), some (.int ((s : Nat) : Int)), some (.ref r), some (.ref p), some (.ref D), y6, y7, y8, y9]) ⟨Same.refl _, y6, y7, y8, y9, rfl⟩ (fun _ _ _ _ _ => True.intro) (fun i x σ H6 H6' hi hP y => ?_) (fun σ H6 hP => ?_)
    · obtain ⟨e6, y6, y7, y8, y9, rfl⟩ := hP
      obtain ⟨rfl, hx⟩ := y
      have hx := hx.trans (congrArg V.int (Int.zero_add _))
      subst hx
      have eda : ds[i]? = some (ds[i]'(by omega)) := List.getElem?_eq_getElem _
      obtain ⟨ta, hta, hra⟩ := hts i _ eda
      have atT : ∀ {j : Nat} {t : List Tk}, tss[j]? = some t → atI (tss.map fun t => V.str (OH.T t)) ((j : Nat) : Int) = some (V.str (OH.T t)) := fun {j t} h => atI_nat (by rw [List.getElem?_map, h]; rfl)
      refine ⟨_, rfl, p, _, rfl, .inl (SqL.of (e6 _ _ hp5)), _, rfl, by omega, by omega, ?_⟩
      rw [Int.toNat_natCast]
      refine for_it (D := { nx := _, rt := _, ct := _, bk := _ }) walk_range (fun j σ H' => Same H5 H' ∧ ∃ y7 y8 y9, σ = [some (.ref a), some (.int ((kx : Nat) : Int)), some (.int ((s : Nat) : Int)), some (.ref r), some (.ref p), some (.ref D), some (.int ((i : Nat) : Int)), y7, y8, y9]) ⟨e6, y7, y8, y9, rfl⟩ (fun _ _ _ _ _ => True.intro) (fun j x σ H7 H7' hj hP y => ?_) (fun σ H7 hP => ?_)
      · obtain ⟨e7, y7, y8, y9, rfl⟩ := hP
        obtain ⟨rfl, hx⟩ := y
        have hx := hx.trans (congrArg V.int (Int.zero_add _))
        subst hx
        have edb : ds[j]? = some (ds[j]'(by omega)) := List.getElem?_eq_getElem _
        obtain ⟨tb, htb, hrb⟩ := hts j _ edb
        have hR7 := hR5.sm e7
        obtain ⟨va, hva, hvad⟩ := hR7.get eda
        obtain ⟨vb, hvb, hvbd⟩ := hR7.get edb
        have nca := RR_nc s hra
        have ncb := RR_nc s hrb
        refine ⟨_, rfl, _, rfl, D, _, _, _, rfl, rfl, SqL.of (e7 _ _ hD5), atT hta, _, rfl, _, rfl, D, _, _, _, rfl, rfl, SqL.of (e7 _ _ hD5), atT htb, rfl, ?_⟩
        refine ⟨_, rfl, _, rfl, p, us, _, va, rfl, rfl, SqL.of (e7 _ _ hp5), atI_nat hva, _, rfl, _, rfl, p, us, _, vb, rfl, rfl, SqL.of (e7 _ _ hp5), atI_nat hvb, ?_⟩
        refine ⟨_, _, hvad.dp, hvbd.dp, nca.shaped (by decide), ncb.shaped (by decide), ?_⟩
        have heq : PyData.eqv (ds[i]'(by omega)) (ds[j]'(by omega)) = decide (V.str (OH.T ta) = V.str (OH.T tb)) := nca.eqv ncb (by
          rw [decide_eq_true_iff]
          constructor
          · intro z
            exact (same_iff (RR_fn s) (RR_gx s) (RR_dec s) hra hrb).mp (V.str.inj z)
          · intro z
            rw [(same_iff (RR_fn s) (RR_gx s) (RR_dec s) hra hrb).mpr z])
        refine ⟨rfl, _, rfl, if_f ?_ ⟨e7, _, _, _, rfl⟩⟩
        rw [heq, decide_eq_true rfl]
        rfl
      · obtain ⟨e7, y7, y8, y9, rfl⟩ := hP
        have hR7 := hR5.sm e7
        refine ⟨_, rfl, _, rfl, _, rfl, D, _, _, _, rfl, rfl, SqL.of (e7 _ _ hD5), atT hta, s, _, ta, rfl, hs5, hra, fun v8 H8 e8 hv8 => ?_⟩
        have e58 := e7.trans e8
        obtain ⟨va, hva, hvad⟩ := (hR5.sm e58).get eda
        have nca := RR_nc s hra
        refine ⟨_, rfl, _, rfl, _, rfl, p, us, _, va, rfl, rfl, SqL.of (e58 _ _ hp5), atI_nat hva, _, _, hv8.dp, hvad.dp, nca.shaped (by decide), nca.shaped (by decide), _, rfl, if_f ?_ ?_⟩
        · rw [nca.eqv nca (b := true) ⟨fun _ => rfl, fun _ => rfl⟩]
          rfl
        refine ⟨_, rfl, _, rfl, s, v8, _, ta, rfl, hs5, hv8, hra, fun H9 e9 => ?_⟩
        have e59 := e58.trans e9
        refine ⟨_, rfl, _, rfl, D, _, _, _, rfl, rfl, SqL.of (e59 _ _ hD5), atT hta, rfl, _, rfl, if_f ?_ ⟨e59, _, _, _, _, rfl⟩⟩
        rw [decide_eq_true rfl]
        rfl
    · obtain ⟨e6, y6, y7, y8, y9, rfl⟩ := hP
      exact ⟨e2.trans (e25.trans e6), _, _, _, _, _, _, _, _, rfl⟩
  · obtain ⟨e2, y2, y3, y4, y5, y6, y7, y8, y9, rfl⟩ := hP
    exact ⟨e2, _, _, _, _, _, _, _, _, _, rfl⟩
end
end OH
end

section
set_option Elab.async false
set_option linter.all false
set_option maxRecDepth 100000
set_option maxHeartbeats 0
open PySem PySem.W PySem.Calls PyProof.Rows
theorem PySem.Challenge.cw_oldhands_k89_whole_one_text_each_holds : PySem.Challenge.rw_oldhands_k89_whole_one_text_each.Holds := by
  w_on; o_law
  refine HandSHeadRun.head_any (r := OpenLaw.row PySem.Challenge.rw_oldhands_k89_whole_one_text_each) (q := view (OpenLaw.row PySem.Challenge.rw_oldhands_k89_whole_one_text_each).prog [OH.lawPlace]) (H := OH.hk) (ob := OH.ob) (M := 4000) (loose := OH.loose) (d := HandSHeadRun.topDef (OpenLaw.row PySem.Challenge.rw_oldhands_k89_whole_one_text_each).prog OH.lawPlace) (kwd := []) OH.ob_eq
    (by kernel_rfl) (fun s => by kernel_rfl) OH.run (by kernel_rfl) (by kernel_rfl) (by kernel_rfl) (by rfl) (by first | assumption | decide +kernel) (by decide +kernel) ⟨rfl, rfl, rfl, rfl, rfl, by decide +kernel⟩ ?hw ?hc
  case hw => w_witness2
  case hc =>
    refine L2.walk_ofE (l := PySem.Challenge.rw_oldhands_k89_whole_one_text_each) (n := 63) (k := 62) (x := "script") (CX := C8.CX0) rfl (by decide) (by kernel_rfl) ⟨rfl, by decide, by decide⟩ ?F (fun _ _ _ _ z => z)
    intro w mg fa h Y G hmg0
    obtain ⟨K, KX, c⟩ := Y
    have hmg : mg ("law" : PySem.Str) = some (.ref fa) := by
      have e : (HandSHeadRun.topDef (OpenLaw.row PySem.Challenge.rw_oldhands_k89_whole_one_text_each).prog OH.lawPlace).name = ("law" : PySem.Str) := by kernel_rfl
      rw [← e]
      exact hmg0
    have T : OH.Txt w K mg := ⟨⟨h, KX, G, c⟩⟩
    obtain ⟨f, fd, F, hm⟩ := OH.tell_law T
    have ef : f = fa := by
      have e := hm.symm.trans hmg
      cases e
      rfl
    subst ef
    have b := L2.FunD.bindsA (ps := ["script"]) F fun _ _ _ _ _ _ us hl => match us, hl with | [_], _ => rfl
    exact ⟨K, fd, OH.spLaw K, KX, fun s v => b s [v] rfl, fun H a ns hl _ hS => ⟨a, ns, rfl, hS, hl, fun _ => rfl⟩, fun base _ _ => OH.fn_law T F⟩
end
